/- A verified evaluator of the program's form over pure values, part 2: what it tells of a function holds. -/
import Derived.Test.YtoclmlalcgjplaaDoorPv1
import Derived.Laws.BytesString
import Derived.Laws.Cells
import Derived.Laws.CopyRow
import Derived.Laws.Entries
import Derived.Laws.MakeOwn
import Derived.Laws.OwnMore
import Derived.Laws.Shifts
import Derived.Laws.Strings
import Derived.Laws.StructEq
import Derived.Laws.Tables
import Derived.Maps.AppendAt
namespace Go.Pv
set_option linter.unusedVariables false
set_option linter.unusedSimpArgs false
variable {P : Program} {w w' : World} {A A' : Nat → Prop} {H : Nat → Value} {tm tm' : Nat → Value} {S S' : St} {σ : Nat → Option Nat} {w0 : World} {W0 Z : Nat → Prop} {a : Act} {own : Nat → Prop} {v : Value} {Θ : Tab} {dst : Option Nat} {g : Bool}
def Goes (P : Program) (w0 : World) (W0 Z : Nat → Prop) (H : Nat → Value) (S' : St) (a : Act) (dst : Option Nat) (w : World) (s : Sem Next) : Prop :=
 ∃ w' v, (s.run P w = .ok (.value v) w' ∨ (v = undef ∧ s.run P w = .ok .skip w')) ∧ Rel w0 W0 Z H S' (a.put dst v) w'
def Ext (w w' : World) : Prop := ∀ g, g < w.heap.size → w'.heap[g]? = w.heap[g]?
theorem Ext.refl (w : World) : Ext w w := fun _ _ => rfl
theorem Ext.stays (h : Ext w w') : Stays w w' A A := ⟨fun g _ hg => h g hg, fun _ _ h => h⟩
def GoesQ (P : Program) (w0 : World) (W0 Z : Nat → Prop) (H : Nat → Value) (S' : St) (a : Act) (dst : Option Nat) (w : World) (s : Sem Next) : Prop :=
 ∃ v, (∀ w2, Ext w w2 → s.run P w2 = .ok (.value v) w2) ∧ Rel w0 W0 Z H S' (a.put dst v) w
theorem GoesQ.goes {s : Sem Next} (h : GoesQ P w0 W0 Z H S' a dst w s) : Goes P w0 W0 Z H S' a dst w s := by
 obtain ⟨v, h1, h2⟩ := h
 exact ⟨w, v, .inl (h1 w (Ext.refl w)), h2⟩
theorem goes_pure {s : Sem Next} {av : AV} (h : RelS σ w0 W0 Z H S a w) (hr : ∀ w2, Ext w w2 → s.run P w2 = .ok (.value v) w2) (hv : Holds w (Av σ Z) H (tmOf a) S (fun _ => False) av v) :
  GoesQ P w0 W0 Z H (S.put dst av) a dst w s := ⟨v, hr, _, h.pure hv⟩
def GoesS (P : Program) (w0 : World) (W0 Z : Nat → Prop) (H : Nat → Value) (S' : St) (a : Act) (dst : Option Nat) (w : World) (s : Sem Next) : Prop :=
 ∃ v, (∀ w2, s.run P w2 = .ok (.value v) w2) ∧ Rel w0 W0 Z H S' (a.put dst v) w
theorem GoesS.q {s : Sem Next} (h : GoesS P w0 W0 Z H S' a dst w s) : GoesQ P w0 W0 Z H S' a dst w s := by
 obtain ⟨v, h1, h2⟩ := h
 exact ⟨v, fun w2 _ => h1 w2, h2⟩
theorem goes_pureS {s : Sem Next} {av : AV} (h : RelS σ w0 W0 Z H S a w) (hr : ∀ w2, s.run P w2 = .ok (.value v) w2) (hv : Holds w (Av σ Z) H (tmOf a) S (fun _ => False) av v) :
  GoesS P w0 W0 Z H (S.put dst av) a dst w s := ⟨v, hr, _, h.pure hv⟩
def scalar : Ty → Bool
 | .int _ => true | .bool => true | .str => true | _ => false
theorem scalar_det {own' : Nat → Prop} {tm1 : Nat → Value} {S2 : St} {r : TV} {v1 v2 : Value} (hs : scalar r.t = true) (h1 : Holds w A H tm S own (.v r []) v1) (h2 : Holds w' A' H tm1 S2 own' (.v r []) v2) : v1 = v2 := by
 obtain ⟨rt, rm, rx⟩ := r
 obtain ⟨cs, a1, a2⟩ := h1
 obtain ⟨cs', b1, b2⟩ := h2
 cases rt <;> simp [scalar] at hs <;> simp only [M] at a2 b2
 ·rw [match_int a1 a2.2, match_int b1 b2.2]
 ·rw [match_bool a1 a2.2, match_bool b1 b2.2]
 ·rw [match_str a1 a2.2, match_str b1 b2.2]
theorem copy_holds (h : RelS σ w0 W0 Z H S a w) {T : TypeId} {x : Operand} {a' av : AV} (ho : S.opv Θ T x = some a') (hc : S.copy x a' = some av) :
  Holds w (Av σ Z) H (tmOf a) S (fun _ => False) av (a.eval x) := by
 have hh := opv_holds h ho
 cases a' with
 | v b ex =>
  simp only [St.copy] at hc
  cases hk : b.m.isK with
  | true =>
   simp only [hk, cond_true, Option.some.injEq] at hc
   subst hc
   obtain ⟨cs, h1, h2⟩ := hh
   obtain ⟨bt, bm, bx⟩ := b
   refine ⟨cs, h1, ?_⟩
   exact K_M hk (M_isK _ hk h2)
  | false =>
   simp only [hk, cond_false] at hc
   cases x with
   | tmp i =>
    simp only [Option.some.injEq] at hc
    subst hc
    simp only [St.opv, Option.some.injEq] at ho
    obtain ⟨cs, h1, h2⟩ := hh
    exact ⟨b, cs, cs, ⟨⟨ex, ho, fun q _ s r e => by cases q <;> simp at e⟩, trivial, ⟨b, rfl, rfl⟩, h1⟩, rfl, h1⟩
   | const c =>
    cases ex with
    | cons _ _ => simp at hc
    | nil =>
     simp only [Option.some.injEq] at hc
     subst hc
     obtain ⟨cs, h1, h2⟩ := hh
     exact ⟨cs, h1, M_move (Stays.refl _ _) _ (fun _ _ _ => rfl) (fun g hg _ => by obtain ⟨i, hi, _⟩ := hg; cases hi) (fun _ h => h) h2⟩
   | func f =>
    cases ex with
    | cons _ _ => simp at hc
    | nil => simp [St.opv] at ho
   | global f =>
    cases ex with
    | cons _ _ => simp at hc
    | nil => simp [St.opv] at ho
 | dead => simp [St.copy] at hc
 | tup l => simp [St.copy] at hc
 | undef => simp only [St.copy, Option.some.injEq] at hc; subst hc; exact hh
 | al t s p => simp only [St.copy, Option.some.injEq] at hc; subst hc; exact hh
 | ad t s p => simp only [St.copy, Option.some.injEq] at hc; subst hc; exact hh
 | cut t s p lo hi => simp only [St.copy, Option.some.injEq] at hc; subst hc; exact hh
 | clo f c => simp only [St.copy, Option.some.injEq] at hc; subst hc; exact hh
theorem move_ok (h : RelS σ w0 W0 Z H S a w) {o : Oper} {x : Operand} (ho : o.op = .move x) (hnt : ∀ l, S.opv Θ o.type x ≠ some (.tup l)) (e : evMove Θ S o.dst o.type x = some (true, S')) : GoesS P w0 W0 Z H S' a o.dst w (execOp a.eval o) := by
 unfold evMove at e
 split at e
 ·rename_i l hl
  exact absurd hl (hnt l)
 ·rename_i a' _ ha
  split at e
  ·rename_i av hv
   injection e with e
   injection e with _ e
   subst e
   exact goes_pureS h (fun w2 => by simp only [execOp, ho]; rfl) (copy_holds h ha hv)
  ·cases e
 ·cases e
theorem binI_run {op : BinOp} {k k' : IntKind} {x y : Int} {r : TV} (T : TypeId) (hk : k = k' ∨ op = .shl ∨ op = .shr) (e : binI op k x y = some (true, r)) :
  ∃ v, (binOp op T (.int k x) (.int k' y)).run P w = .ok v w ∧ Holds w A H tm S (fun _ => False) (.v r []) v := by
 cases op <;> simp only [binI, Option.some.injEq, Prod.mk.injEq, reduceCtorEq, true_and] at e
 case add =>
  obtain rfl : k = k' := by simpa using hk
  subst e; exact ⟨_, by simp [binOp, Op.intArith], holds_int _ _⟩
 case sub =>
  obtain rfl : k = k' := by simpa using hk
  subst e; exact ⟨_, by simp [binOp, Op.intArith], holds_int _ _⟩
 case mul =>
  obtain rfl : k = k' := by simpa using hk
  subst e; exact ⟨_, by simp [binOp, Op.intArith], holds_int _ _⟩
 case quo =>
  obtain rfl : k = k' := by simpa using hk
  obtain ⟨e0, rfl⟩ := e
  have h0 : ¬ y = 0 := by simpa using e0
  exact ⟨_, by simp [binOp, Op.intDiv, h0], holds_int _ _⟩
 case rem =>
  obtain rfl : k = k' := by simpa using hk
  obtain ⟨e0, rfl⟩ := e
  have h0 : ¬ y = 0 := by simpa using e0
  exact ⟨_, by simp [binOp, Op.intDiv, h0], holds_int _ _⟩
 case and =>
  obtain rfl : k = k' := by simpa using hk
  subst e; exact ⟨_, by simp [binOp, Op.intBits], holds_int _ _⟩
 case or =>
  obtain rfl : k = k' := by simpa using hk
  subst e; exact ⟨_, by simp [binOp, Op.intBits], holds_int _ _⟩
 case xor =>
  obtain rfl : k = k' := by simpa using hk
  subst e; exact ⟨_, by simp [binOp, Op.intBits], holds_int _ _⟩
 case eql =>
  obtain rfl : k = k' := by simpa using hk
  subst e; exact ⟨_, by simp [binOp, Op.intCmp], holds_bool _⟩
 case neq =>
  obtain rfl : k = k' := by simpa using hk
  subst e; exact ⟨_, by simp [binOp, Op.intCmp], holds_bool _⟩
 case lss =>
  obtain rfl : k = k' := by simpa using hk
  subst e; exact ⟨_, by simp [binOp, Op.intCmp], holds_bool _⟩
 case leq =>
  obtain rfl : k = k' := by simpa using hk
  subst e; exact ⟨_, by simp [binOp, Op.intCmp], holds_bool _⟩
 case gtr =>
  obtain rfl : k = k' := by simpa using hk
  subst e; exact ⟨_, by simp [binOp, Op.intCmp], holds_bool _⟩
 case geq =>
  obtain rfl : k = k' := by simpa using hk
  subst e; exact ⟨_, by simp [binOp, Op.intCmp], holds_bool _⟩
 case shl =>
  obtain ⟨e0, rfl⟩ := e
  have h0 : ¬ y < 0 := by
   have : 0 ≤ y := by simpa using e0
   omega
  exact ⟨_, by simp [binOp, Op.shift, h0], holds_int _ _⟩
 case shr =>
  obtain ⟨e0, rfl⟩ := e
  have h0 : ¬ y < 0 := by
   have : 0 ≤ y := by simpa using e0
   omega
  exact ⟨_, by simp [binOp, Op.shift, h0], holds_int _ _⟩
theorem binS_run {op : BinOp} {x y : ByteArray} {r : TV} (T : TypeId) (e : binS op x y = some (true, r)) :
  ∃ v, (binOp op T (.string x) (.string y)).run P w = .ok v w ∧ Holds w A H tm S (fun _ => False) (.v r []) v := by
 cases op <;> simp only [binS, Option.some.injEq, Prod.mk.injEq, reduceCtorEq, true_and] at e
 case add =>
  obtain ⟨e0, rfl⟩ := e
  have h0 : x.size + y.size ≤ 9223372036854775807 := by simpa using e0
  refine ⟨_, ?_, holds_str _⟩
  rw [binOp_string_add]
  simp only [Op.stringOp, IntKind.max_i64]
  rw [if_neg (by omega)]
  rfl
 case eql => subst e; exact ⟨_, by rw [binOp_string_eql]; rfl, holds_bool _⟩
 case neq => subst e; exact ⟨_, by rw [binOp_string_neq]; rfl, holds_bool _⟩
theorem unOp_run {op : UnOp} {b r : TV} {v : Value} {cs : List Value} (hm : matchV b.t v cs) (hK : K w (fun _ => False) b.t b.x cs) (e : unTV op b = some r) :
  ∃ u, (Op.unary op v).run P w = .ok u w ∧ Holds w A H tm S (fun _ => False) (.v r []) u := by
 unfold unTV at e
 split at e
 ·injection e with e; subst e
  obtain rfl := match_bool hm hK
  exact ⟨_, rfl, holds_bool _⟩
 ·injection e with e; subst e
  obtain rfl := match_int hm hK
  exact ⟨_, rfl, holds_int _ _⟩
 ·injection e with e; subst e
  obtain rfl := match_int hm hK
  exact ⟨_, by simp [Op.unary, Op.intBits], holds_int _ _⟩
 ·cases e
theorem un_ok (h : RelS σ w0 W0 Z H S a w) {o : Oper} {op : UnOp} {T : TypeId} {x : Operand} (ho : o.op = .unOp op T x) (e : evUn Θ S o.dst op x = some (true, S')) : GoesQ P w0 W0 Z H S' a o.dst w (execOp a.eval o) := by
 unfold evUn at e
 split at e
 ·rename_i b hb
  split at e
  ·rename_i r hr
   injection e with e; injection e with _ e; subst e
   obtain ⟨cs, h1, h2, _⟩ := rd_spec h hb
   obtain ⟨u, h3, h4⟩ := unOp_run (P := P) (A := Av σ Z) (H := H) (tm := tmOf a) (S := S) h1 h2 hr
   have hsc : scalar r.t = true := by
    unfold unTV at hr
    split at hr <;> first | (injection hr with hr; subst hr; rfl) | cases hr
   refine goes_pure h (fun w2 hw => ?_) h4
   obtain ⟨u2, k3, k4⟩ := unOp_run (w := w2) (P := P) (A := Av σ Z) (H := H) (tm := tmOf a) (S := S) h1 (K_stays hw.stays _ h2) hr
   rw [scalar_det hsc h4 k4]
   simp [execOp, ho, k3]
  ·cases e
 ·cases e
theorem convert_ok (hT : tabB P Θ = true) (h : RelS σ w0 W0 Z H S a w) {o : Oper} {T T' : TypeId} {x : Operand} (ho : o.op = .convert T T' x) (hk : (match Θ.find T' with
  | some i => (match i.ty with
   | .int _ => true
   | _ => false)
  | none => false) = true) (e : evConvert Θ S o.dst T T' x = some (true, S')) : GoesS P w0 W0 Z H S' a o.dst w (execOp a.eval o) := by
 unfold evConvert at e
 split at e
 ·rename_i k m n i _ k' _ _ hb hi hj
  injection e with e; injection e with _ e; subst e
  obtain ⟨cs, h1, h2, _⟩ := rd_spec h hb
  have hv := match_int h1 h2
  obtain ⟨_, hu, rfl⟩ := tab_ti hT hi
  obtain ⟨_, hu', hT'⟩ := tab_ti hT hj
  obtain ⟨d, hd⟩ := (und_not hu).1
  have hd' := und_int hu' rfl
  rw [hT'] at hd'
  refine goes_pureS h (v := .int k' (k'.wrap n)) (fun w2 => ?_) (holds_int _ _)
  simp [execOp, ho, hv, convert, run_underlying hd, run_underlying hd', Conv.intToInt]
 ·rename_i hj
  rw [hj] at hk
  cases hk
 ·cases e
theorem convert_okQ (hT : tabB P Θ = true) (h : RelS σ w0 W0 Z H S a w) {o : Oper} {T T' : TypeId} {x : Operand} (ho : o.op = .convert T T' x) (e : evConvert Θ S o.dst T T' x = some (true, S')) : GoesQ P w0 W0 Z H S' a o.dst w (execOp a.eval o) := by
 have e0 := e
 unfold evConvert at e
 split at e
 ·rename_i hj
  exact (convert_ok hT h ho (by rw [hj]) e0).q
 ·rename_i m xs _ _ _ _ _ _ hb hi hj
  injection e with e; injection e with _ e; subst e
  obtain ⟨cs, h1, h2, _⟩ := rd_spec h hb
  obtain ⟨X, c, hv, rfl, hc⟩ := match_sl h1 h2
  obtain ⟨_, hu, hT0⟩ := tab_ti hT hi
  obtain ⟨_, hu', hT'⟩ := tab_ti hT hj
  obtain ⟨hd, he, _⟩ := und_sl hu rfl
  have hd' := und_str hu' rfl
  obtain ⟨ie, hie, hty⟩ := is_find he
  obtain ⟨_, hue, hTe⟩ := tab_ti hT hie
  have hde := und_int hue hty
  simp only at hT0 hT' hd hd'
  rw [hT0] at hd
  rw [hT'] at hd'
  rw [hTe] at hde
  refine goes_pure h (v := .string (bytesOf xs)) (fun w2 hw => ?_) ⟨[.string (bytesOf xs)], by simp [matchV, isAgg], by simp [M, K, Md.isK]⟩
  have hK := K_stays hw.stays _ h2
  simp only [execOp, ho, hv, Sem.run_bind]
  rw [run_convert_bytes_string w2 T T' _ X xs.length c hd hde hd']
  simp only [K] at hK
  obtain ⟨X', c', e1, _, hx⟩ := hK
  simp only [List.cons.injEq, Value.slice.injEq, and_true] at e1
  obtain ⟨rfl, _, rfl⟩ := e1
  by_cases h0 : 0 < xs.length
  ·obtain ⟨g, off, cur, T2, fr, rfl, _, hw2, hlen, hel⟩ := hx h0
   rw [run_bytesToString w2 ⟨g, off, none⟩ xs.length c xs ?_]
   ·simp [bytesOf, Sem.run_pure]
   ·have := run_loadCells_list (P := P) (w := w2) ⟨g, off, none⟩ (xs.map (Value.int .u8)) (fun j v hj => ?_)
    ·rwa [List.length_map] at this
    ·rw [List.getElem?_map] at hj
     cases hj2 : xs[j]? with
     | none => rw [hj2] at hj; cases hj
     | some n =>
      rw [hj2] at hj
      simp only [Option.map_some, Option.some.injEq] at hj
      subst hj
      have hjl := (List.getElem?_eq_some_iff.1 hj2).1
      have h3 := hel j hjl
      have hn : xs[j] = n := (List.getElem?_eq_some_iff.1 hj2).2
      simp only [K, Ty.size, Nat.mul_one] at h3
      rw [hn] at h3
      have h4 : (cur.toList.drop (off + j)).head? = some (.int .u8 n) := by
       cases hd : cur.toList.drop (off + j) with
       | nil => rw [hd] at h3; simp at h3
       | cons y r => rw [hd] at h3; simp at h3; simp [h3]
      rw [List.head?_drop] at h4
      rw [Addr.add_lit]
      simp only [World.cell?, hw2]
      rw [← Array.getElem?_toList, h4]
      rfl
  ·have : xs = [] := List.eq_nil_of_length_eq_zero (by omega)
   subst this
   cases X with
   | none => simp [Conv.bytesToString, bytesOf, Sem.run_pure]
   | some A =>
    show ((Conv.bytesToString (Value.slice (some A) 0 c)).run P w2).andThen _ = _
    rw [run_bytesToString w2 A 0 c [] (by simpa using run_loadCells_list (P := P) (w := w2) A [] (fun j v hj => by simp at hj))]
    simp [bytesOf, Sem.run_pure]
 ·cases e
theorem beq_bytes (x y : ByteArray) : (x == y) = (x.toList == y.toList) := beq_toListBytes x y
theorem size_one0 {t : Ty} (h : isAgg t = false) : t.size = 1 := by cases t <;> simp [isAgg] at h <;> rfl
theorem part_run (hT : tabB P Θ = true) {T : TypeId} {t : Ty} (ht : Θ.is T t = true) {cs : List Value} {off : Nat} (hlen : off + t.size ≤ cs.length) :
  ∃ u, (part T cs.toArray off).run P w = .ok u w ∧ matchV t u ((cs.drop off).take t.size) := by
 have hag := agg_is hT ht w
 obtain ⟨inf, s1, s2, _⟩ := size_is hT ht
 have hso : (sizeOf T).run P w = .ok t.size w := by simp [sizeOf, typeInfo, s1, s2]
 cases hca : isAgg t with
 | true =>
  refine ⟨.agg (cs.toArray.extract off (off + t.size)), ?_, ?_⟩
  ·rw [hca] at hag
   unfold part
   simp only [Sem.run_bind, hag, Result.andThen_ok, if_true, hso]
   rfl
  ·unfold matchV
   rw [if_pos hca]
   congr 1
   apply Array.toList_inj.1
   rw [Array.toList_extract, List.toList_toArray, List.toList_toArray, List.extract_eq_drop_take']
   rw [List.drop_take, Nat.add_sub_cancel_left]
 | false =>
  have h1 := size_one0 hca
  have hlt2 : off < cs.length := by omega
  refine ⟨cs[off], ?_, ?_⟩
  ·rw [hca] at hag
   unfold part
   simp only [Sem.run_bind, hag, Result.andThen_ok, if_neg Bool.false_ne_true]
   rw [List.getElem?_toArray, List.getElem?_eq_getElem hlt2]
   rfl
  ·unfold matchV
   rw [if_neg (by rw [hca]; exact Bool.false_ne_true), h1, List.drop_eq_getElem_cons hlt2, List.take_succ_cons, List.take_zero]
theorem tyAt_app : ∀ (p q : Path) (t : Ty), tyAt (p ++ q) t = (tyAt p t).bind (tyAt q) := by
 intro p
 induction p with
 | nil => intro q t; rfl
 | cons s p ih => intro q t; cases s <;> cases t <;> first | rfl | exact ih q _
theorem fldOff_app : ∀ (p q : Path) (t u : Ty), tyAt p t = some u → fldOff (p ++ q) t = fldOff p t + fldOff q u := by
 intro p
 induction p with
 | nil => intro q t u h; simp only [tyAt, Option.some.injEq] at h; subst h; simp [fldOff]
 | cons s p ih =>
  intro q t u h
  cases s <;> cases t <;> simp only [tyAt, reduceCtorEq] at h
  ·simp only [List.cons_append, fldOff]; exact ih q _ u h
  ·simp only [List.cons_append, fldOff]; rw [ih q _ u h]; omega
theorem fld_eq {k n : Nat} (h2 : 2 ≤ n) : fld k n = if k + 1 = n then List.replicate k .snd else List.replicate k .snd ++ [.fst] := by
 unfold fld
 have h1 : Nat.beq n 1 = false := by
  cases hb : Nat.beq n 1 with
  | false => rfl
  | true => have := Nat.eq_of_beq_eq_true hb; omega
 by_cases hkn : k + 1 = n
 ·rw [if_pos hkn, hkn, Nat.beq_refl, h1]; rfl
 ·have : Nat.beq (k + 1) n = false := by
   cases hb : Nat.beq (k + 1) n with
   | false => rfl
   | true => exact absurd (Nat.eq_of_beq_eq_true hb) hkn
  rw [if_neg hkn, this]; rfl
theorem match_agg {t : Ty} {v : Value} {cs : List Value} (ha : isAgg t = true) (h : matchV t v cs) : v = .agg cs.toArray := by simpa [matchV, ha] using h
theorem eqV_run (hT : tabB P Θ = true) : ∀ (d : Nat) (t : Ty) {T : TypeId} {x y : t.I} {r : Bool} {cs cs' : List Value} {u v : Value}, Θ.is T t = true → eqV t x y = some r → matchV t u cs → matchV t v cs' → K w (fun _ => False) t x cs → K w (fun _ => False) t y cs' → t.ht < d →
  (Op.equalIn d T u v).run P w = .ok r w
 | 0, _, _, _, _, _, _, _, _, _, _, _, _, _, _, _, hd => absurd hd (Nat.not_lt_zero _)
 | d + 1, t, T, x, y, r, cs, cs', u, v, hT1, he, hu, hv, hx, hy, hd => by
  obtain ⟨i, hi, hty⟩ := is_find hT1
  obtain ⟨_, hun, h3⟩ := tab_ti hT hi
  cases t with
  | int k =>
   have hu' := und_int hun hty
   rw [h3] at hu'
   simp only [eqV, Option.some.injEq] at he
   subst he
   obtain rfl := match_int hu hx
   obtain rfl := match_int hv hy
   rw [run_equalIn_int w d T k k _ _ hu']
   congr 1
  | bool =>
   have hu' := und_bool hun hty
   rw [h3] at hu'
   simp only [eqV, Option.some.injEq] at he
   subst he
   obtain rfl := match_bool hu hx
   obtain rfl := match_bool hv hy
   exact run_equalIn_bool' w d T _ _ hu'
  | str =>
   have hu' := und_str hun hty
   rw [h3] at hu'
   simp only [eqV, Option.some.injEq] at he
   subst he
   obtain rfl := match_str hu hx
   obtain rfl := match_str hv hy
   rw [run_equalIn_string w d T _ _ hu', beq_bytes]
  | unit => exact absurd hty (und_not hun).2.2.2
  | sl t => simp [eqV] at he
  | ptr t => simp [eqV] at he
  | arr n t => simp [eqV] at he
  | pair pa pb =>
   obtain ⟨fs, hfs, hft, hok, hg, hsh, hnb⟩ := und_pair hun hty
   rw [h3] at hfs hsh
   obtain rfl := match_agg rfl hu
   obtain rfl := match_agg rfl hv
   have hfo : P.fieldsOf T = fs := by unfold Program.fieldsOf; rw [hfs]
   rw [run_equalIn_struct w d T _ _ (by rw [hfo]; exact hfs) hsh, hfo]
   have hlx := (K_ok _ hx).1
   have hly := (K_ok _ hy).1
   rw [hty] at hok
   have hfl : fs.toList.length = i.fs.length := by rw [← hft, List.length_map]
   have hU := tab_u hT hi
   unfold uOK at hU
   rw [Bool.and_eq_true, hty] at hU
   have hU := hU.2
   rcases Nat.lt_or_ge fs.size 2 with h2 | h2
   ·match hfi : i.fs, hfe : fs.toList with
    | [], _ => rw [hfi] at hU; simp at hU
    | [T1], [f] =>
     rw [hfi] at hU
     cases pb <;> simp at hU
     rw [hfe] at hok
     have hs1 : fs.size = 1 := by rw [← Array.length_toList, hfe]; rfl
     simp only [fieldsOK, hs1, Bool.and_true] at hok
     have e1 : fld 0 1 = [.fst] := rfl
     rw [e1] at hok
     simp only [tyAt, fldOff, Bool.and_eq_true] at hok
     obtain ⟨⟨k1, k2⟩, k3⟩ := hok
     have k2 := Nat.eq_of_beq_eq_true k2
     simp only [Ty.size, Nat.add_zero] at hlx hly
     obtain ⟨u1, p1, p2⟩ := part_run (w := w) hT k1 (cs := cs) (off := 0) (by omega)
     obtain ⟨v1, q1, q2⟩ := part_run (w := w) hT k1 (cs := cs') (off := 0) (by omega)
     rw [List.drop_zero, List.take_of_length_le (by omega)] at p2 q2
     simp only [eqV] at he
     split at he
     case h_2 => cases he
     rename_i p q hp hq
     injection hq with hq
     subst hq
     injection he with he
     subst he
     simp only [K] at hx hy
     obtain ⟨c0, c1, rfl, hx0, hx1⟩ := hx
     obtain ⟨c0', c1', rfl, hy0, hy1⟩ := hy
     subst hx1 hy1
     rw [List.append_nil] at p2 q2 p1 q1
     simp only [Ty.ht] at hd
     have hr := eqV_run hT d _ k1 hp p2 q2 hx0 hy0 (by omega)
     have hnm := hnb f (by rw [← Array.mem_toList_iff, hfe]; exact List.mem_singleton.2 rfl)
     simp only [Op.eqFields, hnm, ne_eq, not_false_eq_true, if_true, Sem.run_bind, k2, List.append_nil, p1, q1, Result.andThen_ok, hr]
     cases p <;> simp
    | [T1], [] => rw [hfi, hfe] at hfl; simp at hfl
    | [T1], _ :: _ :: _ => rw [hfi, hfe] at hfl; simp at hfl
    | _ :: _ :: _, _ => rw [hfi] at hfl; simp only [Array.length_toList, List.length_cons] at hfl; omega
   ·have key : ∀ (l : List Field) (k : Nat) (s : Ty) (x' y' : s.I) (c c' : List Value) (r : Bool), k + l.length = fs.size → l ≠ [] → (∀ f ∈ l, f.name ≠ "_") → fieldsOK Θ (.pair pa pb) fs.size l k = true → tyAt (List.replicate k .snd) (.pair pa pb) = some s →
      cs.drop (fldOff (List.replicate k .snd) (.pair pa pb)) = c → cs'.drop (fldOff (List.replicate k .snd) (.pair pa pb)) = c' → fldOff (List.replicate k .snd) (.pair pa pb) + s.size ≤ (Ty.pair pa pb).size → K w (fun _ => False) s x' c → K w (fun _ => False) s y' c' → (s.ht < d ∨ (1 < l.length ∧ s.ht < d + 1)) → eqV s x' y' = some r → (Op.eqFields d cs.toArray cs'.toArray l).run P w = .ok r w := by
     intro l
     induction l with
     | nil => intro k s x' y' c c' r _ h; exact absurd rfl h
     | cons f l ih =>
      intro k s x' y' c c' r hk _ hnm hok hs hc hc' hsz hx hy hd he
      have hnf := hnm f (List.mem_cons_self ..)
      simp only [fieldsOK, Bool.and_eq_true] at hok
      obtain ⟨hok, hrest⟩ := hok
      rw [fld_eq h2] at hok
      cases l with
      | nil =>
       rw [if_pos (by simpa using hk), hs] at hok
       simp only [Bool.and_eq_true] at hok
       obtain ⟨⟨k1, k2⟩, k3⟩ := hok
       have k2 := Nat.eq_of_beq_eq_true k2
       obtain ⟨u1, p1, p2⟩ := part_run (w := w) hT k1 (cs := cs) (off := f.offset) (by omega)
       obtain ⟨v1, q1, q2⟩ := part_run (w := w) hT k1 (cs := cs') (off := f.offset) (by omega)
       have l1 := (K_ok _ hx).1
       have l2 := (K_ok _ hy).1
       rw [k2, hc, List.take_of_length_le (by omega)] at p2
       rw [k2, hc', List.take_of_length_le (by omega)] at q2
       have hr := eqV_run hT d _ k1 he p2 q2 hx hy (by rcases hd with hd | hd; exact hd; simp at hd)
       simp only [Op.eqFields, hnf, ne_eq, not_false_eq_true, if_true, Sem.run_bind, p1, q1, Result.andThen_ok, hr]
       cases r <;> simp
      | cons f' l =>
       rw [if_neg (by simp only [List.length_cons] at hk; omega), tyAt_app, hs, Option.bind_some] at hok
       cases s with
       | pair sa sb =>
        simp only [tyAt, Bool.and_eq_true] at hok
        obtain ⟨⟨k1, k2⟩, k3⟩ := hok
        have k2 := Nat.eq_of_beq_eq_true k2
        rw [fldOff_app _ _ _ _ hs] at k2
        simp only [fldOff, Nat.add_zero] at k2
        simp only [eqV] at he
        split at he
        case h_2 => cases he
        rename_i p q hp hq
        injection he with he
        subst he
        simp only [K] at hx hy
        obtain ⟨c0, c1, hcc, hx0, hx1⟩ := hx
        obtain ⟨c0', c1', hcc', hy0, hy1⟩ := hy
        have l0 := (K_ok _ hx0).1
        have l0' := (K_ok _ hy0).1
        simp only [Ty.size] at hsz hlx hly
        obtain ⟨u1, p1, p2⟩ := part_run (w := w) hT k1 (cs := cs) (off := f.offset) (by omega)
        obtain ⟨v1, q1, q2⟩ := part_run (w := w) hT k1 (cs := cs') (off := f.offset) (by omega)
        rw [k2, hc, hcc, ← l0, List.take_left] at p2
        rw [k2, hc', hcc', ← l0', List.take_left] at q2
        have hdd : max sa.ht sb.ht + 1 < d + 1 := by
         simp only [Ty.ht] at hd
         omega
        have hr := eqV_run hT d _ k1 hp p2 q2 hx0 hy0 (by omega)
        have hrep : List.replicate (k + 1) Step.snd = List.replicate k .snd ++ [.snd] := List.replicate_succ'
        have hoff : fldOff (List.replicate (k + 1) .snd) (.pair pa pb) = fldOff (List.replicate k .snd) (.pair pa pb) + sa.size := by
         rw [hrep, fldOff_app _ _ _ _ hs]; simp [fldOff]
        have hi := ih (k + 1) sb x'.2 y'.2 c1 c1' q (by simp only [List.length_cons] at hk ⊢; omega) (by simp) (fun f hf => hnm f (List.mem_cons_of_mem _ hf)) hrest (by rw [hrep, tyAt_app, hs]; rfl)
         (by rw [hoff, ← List.drop_drop, hc, hcc, ← l0, List.drop_left]) (by rw [hoff, ← List.drop_drop, hc', hcc', ← l0', List.drop_left]) (by rw [hoff]; simp only [Ty.size]; omega) hx1 hy1 (.inl (by omega)) hq
        simp only [Op.eqFields, hnf, ne_eq, not_false_eq_true, if_true, Sem.run_bind, p1, q1, Result.andThen_ok, hr]
        cases p with
        | false => simp
        | true => simpa [Op.eqFields] using hi
       | _ => simp [tyAt] at hok
    exact key fs.toList 0 _ x y cs cs' r (by simp) (fun e => by rw [← Array.length_toList, e] at h2; simp at h2) (fun f hf => hnb f (by simpa using hf)) hok rfl rfl rfl (by simp [fldOff]) hx hy (.inr ⟨by rw [Array.length_toList]; omega, hd⟩) he
theorem bin_run (hT : tabB P Θ = true) {op : BinOp} {T : TypeId} {x y : Operand} {p q r : TV} {u v : Value} {cs cs' : List Value} (hp : matchV p.t u cs) (hq : matchV q.t v cs') (kp : K w (fun _ => False) p.t p.x cs) (kq : K w (fun _ => False) q.t q.x cs')
  (hi : p.t = .bool ∨ isAgg p.t = true → Θ.is T p.t = true) (e : binTV op p q = some (true, r)) :
  ∃ z, ((do eqGuard op T x y u v; binOp op T u v) : Sem Value).run P w = .ok z w ∧ Holds w A H tm S (fun _ => False) (.v r []) z := by
 unfold binTV at e
 split at e
 ·rename_i k _ x0 k' _ y0
  split at e
  ·rename_i hk
   obtain rfl := match_int hp kp
   obtain rfl := match_int hq kq
   obtain ⟨z, h1, h2⟩ := binI_run (P := P) (w := w) (A := A) (H := H) (tm := tm) (S := S) T hk e
   exact ⟨z, by rw [eqGuard_at_int]; simpa using h1, h2⟩
  ·cases e
 ·obtain rfl := match_str hp kp
  obtain rfl := match_str hq kq
  obtain ⟨z, h1, h2⟩ := binS_run (P := P) (w := w) (A := A) (H := H) (tm := tm) (S := S) T e
  exact ⟨z, by rw [eqGuard_at_string]; simpa using h1, h2⟩
 ·obtain rfl := match_bool hp kp
  obtain rfl := match_bool hq kq
  obtain ⟨i, h1, h2⟩ := is_find (hi (.inl rfl))
  obtain ⟨_, hu, h3⟩ := tab_ti hT h1
  have hu' := und_bool hu h2
  rw [h3] at hu'
  split at e
  ·injection e with e; injection e with _ e; subst e
   refine ⟨_, ?_, holds_bool _⟩
   rw [eqGuard_at_bool]
   simp [binOp, Op.equal, Op.maxDepth, run_equalIn_bool' w 9999 T _ _ hu']
  ·injection e with e; injection e with _ e; subst e
   refine ⟨_, ?_, holds_bool _⟩
   rw [eqGuard_at_bool]
   simp [binOp, Op.equal, Op.maxDepth, run_equalIn_bool' w 9999 T _ _ hu']
  ·cases e
 ·rename_i t t' _ x0 t2 _ y0
  split at e
  ·rename_i ht
   subst ht
   have hTT := hi (.inr rfl)
   obtain ⟨i, h1, h2⟩ := is_find hTT
   obtain ⟨hin, hu, h3⟩ := tab_ti hT h1
   obtain ⟨fs, hfs, _, _, hg, _, _⟩ := und_pair hu h2
   rw [h3] at hg
   have eu := match_agg rfl hp
   have ev := match_agg rfl hq
   have hsz : (Ty.pair t t').ht < 10000 := Nat.lt_of_le_of_lt (show (Ty.pair t t').ht ≤ 9000 from by
    have hs := tab_u hT h1
    unfold uOK at hs
    rw [Bool.and_eq_true, h2] at hs
    exact Nat.le_of_ble_eq_true hs.1) (by decide)
   split at e
   ·rename_i r0 h0
    injection e with e; injection e with _ e; subst e
    have hr := eqV_run (P := P) hT 10000 (.pair t t') hTT h0 hp hq kp kq hsz
    rw [eu, ev] at hr ⊢
    refine ⟨_, ?_, holds_bool _⟩
    simp only [Sem.run_bind, run_eqGuard_agg (P := P) w _ T x y _ _ hg, Result.andThen_ok, run_eql_struct, hr]
   ·rename_i r0 h0
    injection e with e; injection e with _ e; subst e
    have hr := eqV_run (P := P) hT 10000 (.pair t t') hTT h0 hp hq kp kq hsz
    rw [eu, ev] at hr ⊢
    refine ⟨_, ?_, holds_bool _⟩
    simp only [Sem.run_bind, run_eqGuard_agg (P := P) w _ T x y _ _ hg, Result.andThen_ok, run_neq_struct, hr]
   ·cases e
  ·cases e
 ·cases e
theorem binTV_scalar {op : BinOp} {p q r : TV} {g : Bool} (e : binTV op p q = some (g, r)) : scalar r.t = true := by
 unfold binTV at e
 split at e
 ·split at e
  ·unfold binI at e
   split at e <;> first | (injection e with e; injection e with _ e; subst e; rfl) | cases e
  ·cases e
 ·unfold binS at e
  split at e <;> first | (injection e with e; injection e with _ e; subst e; rfl) | cases e
 ·split at e <;> first | (injection e with e; injection e with _ e; subst e; rfl) | cases e
 ·split at e
  ·split at e <;> first | (injection e with e; injection e with _ e; subst e; rfl) | cases e
  ·cases e
 ·cases e
theorem eqV_free : ∀ (t : Ty) {x y : t.I} {r : Bool}, eqV t x y = some r → ∀ {z : t.I} {cs : List Value}, K w A t z cs → K w' A t z cs
 | .int _, _, _, _, _, _, _, h => h
 | .bool, _, _, _, _, _, _, h => h
 | .str, _, _, _, _, _, _, h => h
 | .unit, _, _, _, _, _, _, h => h
 | .pair a b, x, y, r, e, z, cs, h => by
  simp only [eqV] at e
  split at e
  ·rename_i p q hp hq
   obtain ⟨c0, c1, h0, h1, h2⟩ := h
   exact ⟨c0, c1, h0, eqV_free a hp h1, eqV_free b hq h2⟩
  ·cases e
 | .sl _, _, _, _, e, _, _, _ => by simp [eqV] at e
 | .ptr _, _, _, _, e, _, _, _ => by simp [eqV] at e
 | .arr _ _, _, _, _, e, _, _, _ => by simp [eqV] at e
theorem binTV_free {op : BinOp} {p q : TV} {gr : Bool × TV} (e : binTV op p q = some gr) {cs : List Value} (h : K w A p.t p.x cs) : K w' A p.t p.x cs := by
 obtain ⟨t, m, x⟩ := p
 obtain ⟨t', m', y⟩ := q
 cases t with
 | int k => exact h
 | bool => exact h
 | str => exact h
 | unit => exact h
 | pair a b =>
  simp only [binTV] at e
  split at e
  case isFalse => cases e
  rename_i ht
  subst ht
  split at e
  ·rename_i hr; exact eqV_free _ hr h
  ·rename_i hr; exact eqV_free _ hr h
  ·cases e
 | _ => simp [binTV] at e
theorem binTV_freeR {op : BinOp} {p q : TV} {gr : Bool × TV} (e : binTV op p q = some gr) {cs : List Value} (h : K w A q.t q.x cs) : K w' A q.t q.x cs := by
 obtain ⟨t, m, x⟩ := p
 obtain ⟨t', m', y⟩ := q
 cases t with
 | pair a b =>
  simp only [binTV] at e
  split at e
  case isFalse => cases e
  rename_i ht
  subst ht
  split at e
  ·rename_i hr; exact eqV_free _ hr h
  ·rename_i hr; exact eqV_free _ hr h
  ·cases e
 | int k => cases t' <;> first | exact h | (simp [binTV] at e; done)
 | bool => cases t' <;> first | exact h | (simp [binTV] at e; done)
 | str => cases t' <;> first | exact h | (simp [binTV] at e; done)
 | _ => simp [binTV] at e
theorem bin_ok (hT : tabB P Θ = true) (h : RelS σ w0 W0 Z H S a w) {o : Oper} {op : BinOp} {T T' : TypeId} {x y : Operand} (ho : o.op = .binOp op T x y T') (e : evBin Θ S o.dst op T x y = some (true, S')) : GoesS P w0 W0 Z H S' a o.dst w (execOp a.eval o) := by
 unfold evBin at e
 split at e
 ·rename_i p q hp hq
  obtain ⟨cs, h1, h2, _⟩ := rd_spec h hp
  obtain ⟨cs', h1', h2', _⟩ := rd_spec h hq
  have fin : ∀ (r : TV), (p.t = .bool ∨ isAgg p.t = true → Θ.is T p.t = true) → binTV op p q = some (true, r) → GoesS P w0 W0 Z H (S.put o.dst (.v r [])) a o.dst w (execOp a.eval o) := by
   intro r hi hb
   obtain ⟨z, h3, h4⟩ := bin_run (P := P) (A := Av σ Z) (H := H) (tm := tmOf a) (S := S) (x := x) (y := y) hT h1 h1' h2 h2' hi hb
   have hsc : scalar r.t = true := binTV_scalar hb
   refine goes_pureS h (v := z) (fun w2 => ?_) h4
   obtain ⟨z2, k3, k4⟩ := bin_run (w := w2) (P := P) (A := Av σ Z) (H := H) (tm := tmOf a) (S := S) (x := x) (y := y) hT h1 h1' (binTV_free hb h2) (binTV_freeR hb h2') hi hb
   rw [scalar_det hsc h4 k4]
   simp only [execOp, ho]
   simp only [Sem.run_bind] at k3 ⊢
   rw [k3]
   rfl
  split at e
  ·rename_i ht
   cases hc : Θ.is T .bool with
   | false => rw [hc] at e; cases e
   | true =>
    rw [hc] at e
    simp only [cond_true] at e
    split at e
    ·rename_i g r hb
     injection e with e; injection e with e1 e; subst e e1
     exact fin r (fun _ => by rw [ht]; exact hc) hb
    ·cases e
  ·rename_i t t' ht
   cases hc : Θ.is T p.t with
   | false => rw [hc] at e; cases e
   | true =>
    rw [hc] at e
    simp only [cond_true] at e
    split at e
    ·rename_i g r hb
     injection e with e; injection e with e1 e; subst e e1
     exact fin r (fun _ => hc) hb
    ·cases e
  ·rename_i n1 n2
   split at e
   ·rename_i g r hb
    injection e with e; injection e with e1 e; subst e e1
    refine fin r (fun hh => ?_) hb
    rcases hh with hh | hh
    ·exact absurd hh n1
    ·obtain ⟨pt, pm, px⟩ := p
     simp only at hh n1 n2
     cases pt <;> simp [isAgg] at hh
     ·exact absurd rfl (n2 _ _)
     ·simp [binTV] at hb
     ·simp [binTV] at hb
   ·cases e
 ·cases e
end Go.Pv
namespace Go.Pv
set_option linter.unusedVariables false
set_option linter.unusedSimpArgs false
variable {P : Program} {w w' : World} {A A' : Nat → Prop} {H : Nat → Value} {tm tm' : Nat → Value} {S S' : St} {σ : Nat → Option Nat} {w0 : World} {W0 Z : Nat → Prop} {a : Act} {own : Nat → Prop} {v : Value} {Θ : Tab} {dst : Option Nat} {g : Bool}
theorem inB_true {n : Int} {len : Nat} (h : inB n len = true) : 0 ≤ n ∧ n < (len : Int) := by
 simpa [inB] using h
theorem index_ok (hT : tabB P Θ = true) (h : RelS σ w0 W0 Z H S a w) {o : Oper} {T : TypeId} {x ix : Operand} (ho : o.op = .index T x ix) (e : evIndex Θ S o.dst T x ix = some (true, S')) : GoesQ P w0 W0 Z H S' a o.dst w (execOp a.eval o) := by
 unfold evIndex at e
 split at e
 ·rename_i m s n hb hn
  cases hc : Θ.is T .str with
  | false => rw [hc] at e; cases e
  | true =>
   rw [hc] at e
   simp only [cond_true, Option.some.injEq, Prod.mk.injEq] at e
   obtain ⟨e1, e⟩ := e
   subst e
   obtain ⟨b1, b2⟩ := inB_true e1
   obtain ⟨cs, h1, h2, _⟩ := rd_spec h hb
   have hv := match_str h1 h2
   obtain ⟨k, hk⟩ := rdInt_spec h hn
   obtain ⟨i, hi, hty⟩ := is_find hc
   obtain ⟨_, hu, hTi⟩ := tab_ti hT hi
   have hu' := und_str hu hty
   rw [hTi] at hu'
   refine goes_pure h (v := .int .u8 (bt s n)) (fun w2 _ => ?_) (holds_int _ _)
   have hlt : n.toNat < s.size := by omega
   have hget : s[n.toNat]? = some s[n.toNat] := ByteArray.getElem?_lt' s _ hlt
   have hbt : bt s n = (s[n.toNat].toNat : Int) := by unfold bt; rw [dif_pos hlt]
   simp [execOp, ho, hv, hk, Instr.index, asIntOf, run_underlying hu', b1, hget, hbt]
 ·cases e
theorem glance_get {s : Nat} {p : Path} {b : TV} (h : S.glance s p = some b) : ∃ r ex, S.at s = .v r ex ∧ (∀ q ∈ ex, under q p = false) ∧ getP p r.t r.m r.x = some b := by
 unfold St.glance at h
 split at h
 ·rename_i r ex he
  cases hc : ex.all fun q => !under q p with
  | true =>
   rw [hc] at h
   exact ⟨r, ex, he, fun q hq => by simpa using List.all_eq_true.1 hc q hq, h⟩
  | false => rw [hc] at h; cases h
 ·cases h
theorem under_pre : ∀ (q : Path) (s : Step) (r : Path), under q (q ++ s :: r) = true
 | [], _, _ => by simp [under]
 | .idx i :: q, s, r => by simp [under]; exact under_pre q s r
 | .deref :: q, s, r => by simp [under]; exact under_pre q s r
 | .fst :: q, s, r => by simp [under]; exact under_pre q s r
 | .snd :: q, s, r => by simp [under]; exact under_pre q s r
theorem open_of_under {p : Path} {ex : List Path} (h : ∀ q ∈ ex, under q p = false) : open_ p ex := fun q hq s r e => by
 have := h q hq
 rw [e, under_pre] at this
 cases this
theorem place_glance {s : Nat} {p : Path} {b : TV} (h : S.place s p = some b) : ∃ r ex, S.at s = .v r ex ∧ (∀ q ∈ ex, clash q p = false) ∧ getP p r.t r.m r.x = some b := by
 unfold St.place at h
 split at h
 ·rename_i r ex he
  cases hc : ex.all fun q => !clash q p with
  | true =>
   rw [hc] at h
   exact ⟨r, ex, he, fun q hq => by simpa using List.all_eq_true.1 hc q hq, h⟩
  | false => rw [hc] at h; cases h
 ·cases h
theorem len_ok (hT : tabB P Θ = true) (h : RelS σ w0 W0 Z H S a w) {o : Oper} {as : Array Operand} {ts : Array TypeId} (ho : o.op = .call { callee := .builtin .len, args := as, argTypes := ts }) (e : evLen Θ S o.dst ts.toList as.toList = some (true, S')) : GoesS P w0 W0 Z H S' a o.dst w (execOp a.eval o) := by
 obtain ⟨as⟩ := as
 obtain ⟨ts⟩ := ts
 simp only at e
 unfold evLen at e
 split at e
 ·rename_i x T
  split at e
  ·rename_i b hb
   cases hc : Θ.is T b.t with
   | false => rw [hc] at e; cases e
   | true =>
    rw [hc] at e
    simp only [cond_true] at e
    split at e
    ·rename_i n hn
     injection e with e; injection e with _ e; subst e
     have hval : (∃ xs : ByteArray, b.t = .str ∧ a.eval x = .string xs ∧ n = (xs.size : Int)) ∨ ∃ t X c, ∃ m : Nat, b.t = .sl t ∧ a.eval x = .slice X m c ∧ n = (m : Int) := by
      obtain ⟨bt, bm, bx⟩ := b
      unfold lenTV at hn
      split at hn
      ·rename_i t m xs heq
       cases heq
       injection hn with hn
       right
       split at hb
       ·rename_i b' ex hav
        cases hx : ex.any List.isEmpty with
        | true => rw [hx] at hb; cases hb
        | false =>
         rw [hx] at hb
         simp only [cond_false, Option.some.injEq] at hb
         subst hb
         obtain ⟨cs, h1, h2⟩ := opv_holds h hav
         simp only [M] at h2
         rcases h2 with ⟨hne, _⟩ | ⟨_, h2⟩ | ⟨T', tag, me, X, c, _, rfl, _⟩
         ·have : ex.any List.isEmpty = true := List.any_eq_true.2 ⟨[], hne, rfl⟩
          rw [hx] at this; cases this
         ·obtain ⟨X, c, hv, _⟩ := match_sl h1 h2
          exact ⟨_, X, c, _, rfl, hv, hn.symm⟩
         ·exact ⟨_, X, c, _, rfl, by simpa [matchV, isAgg] using h1.symm, hn.symm⟩
       ·rename_i t0 s0 p0 hav
        split at hb
        ·rename_i b' hpl
         injection hb with hb
         subst hb
         obtain ⟨cs, h1, h2, _⟩ := rdA_spec (av := .al t0 s0 p0) h (opv_holds h hav) (by simpa [St.rdA] using hpl)
         obtain ⟨X, c, hv, _⟩ := match_sl h1 h2
         exact ⟨_, X, c, _, rfl, hv, hn.symm⟩
        ·split at hb
         ·rename_i t1 m1 xs1 hgl
          injection hb with hb
          cases hb
          obtain ⟨r, cs0, cs, hr, hcl, hm⟩ := opv_holds h hav
          obtain ⟨ex, b2, cs', ow0, j1, j2, j3, j4, hM, j5, j6, j7⟩ := ref_focus h hr
          rw [hcl] at j5
          injection j5 with j5
          subst j5
          obtain ⟨r2, ex2, q1, q2, q3⟩ := glance_get hgl
          rw [j1] at q1
          injection q1 with q1 q1'
          subst q1 q1'
          rw [j3] at q3
          injection q3 with q3
          subst q3
          simp only at j4
          subst j4
          simp only [M] at j7
          rcases j7 with ⟨_, _, X, c, rfl⟩ | ⟨_, h2⟩ | ⟨T', tag, me, X, c, _, rfl, _⟩
          ·exact ⟨_, X, c, _, rfl, by simpa [matchV, isAgg] using hm.symm, hn.symm⟩
          ·obtain ⟨X, c, hv, _⟩ := match_sl hm h2
           exact ⟨_, X, c, _, rfl, hv, hn.symm⟩
          ·exact ⟨_, X, c, _, rfl, by simpa [matchV, isAgg] using hm.symm, hn.symm⟩
         ·cases hb
       ·rename_i a' _ _ hav
        obtain ⟨cs, h1, h2, _⟩ := rdA_spec h (opv_holds h hav) hb
        obtain ⟨X, c, hv, _⟩ := match_sl h1 h2
        exact ⟨_, X, c, _, rfl, hv, hn.symm⟩
       ·cases hb
      ·rename_i m xs heq
       cases heq
       injection hn with hn
       left
       split at hb
       ·rename_i b' ex hav
        cases hx : ex.any List.isEmpty with
        | true => rw [hx] at hb; cases hb
        | false =>
         rw [hx] at hb
         simp only [cond_false, Option.some.injEq] at hb
         subst hb
         obtain ⟨cs, h1, h2⟩ := opv_holds h hav
         simp only [M] at h2
         exact ⟨_, rfl, match_str h1 h2.2, hn.symm⟩
       ·rename_i t0 s0 p0 hav
        split at hb
        ·rename_i b' hpl
         injection hb with hb
         subst hb
         obtain ⟨cs, h1, h2, _⟩ := rdA_spec (av := .al t0 s0 p0) h (opv_holds h hav) (by simpa [St.rdA] using hpl)
         exact ⟨_, rfl, match_str h1 h2, hn.symm⟩
        ·split at hb
         ·injection hb with hb; cases hb
         ·cases hb
       ·rename_i a' _ _ hav
        obtain ⟨cs, h1, h2, _⟩ := rdA_spec h (opv_holds h hav) hb
        exact ⟨_, rfl, match_str h1 h2, hn.symm⟩
       ·cases hb
      ·cases hn
     obtain ⟨i, hi, hty⟩ := is_find hc
     obtain ⟨_, hu, hTi⟩ := tab_ti hT hi
     rcases hval with ⟨xs, ht, hv, rfl⟩ | ⟨t, X, c, m, ht, hv, rfl⟩
     ·have hu' := und_str hu (hty.trans ht)
      rw [hTi] at hu'
      refine goes_pureS h (v := .int .i64 xs.size) (fun w2 => ?_) (holds_int _ _)
      simp [execOp, ho, hv, resolve, invoke, builtin, Builtin.len_, run_underlying hu', goInt]
     ·have hu' := (und_sl hu (hty.trans ht)).1
      rw [hTi] at hu'
      refine goes_pureS h (v := .int .i64 m) (fun w2 => ?_) (holds_int _ _)
      simp [execOp, ho, hv, resolve, invoke, builtin, Builtin.len_, run_underlying hu', goInt]
    ·cases e
  ·cases e
 ·cases e
theorem pick_ok (h : RelS σ w0 W0 Z H S a w) {o : Oper} {c x y : Operand} (ho : o.op = .pick c x y) (e : evPick Θ S o.dst o.type c x y = some (true, S')) : GoesQ P w0 W0 Z H S' a o.dst w (execOp a.eval o) := by
 unfold evPick at e
 split at e
 ·rename_i m q hq
  obtain ⟨cs, h1, h2, _⟩ := rd_spec h hq
  have hv := match_bool h1 h2
  have hrun : ∀ w2, Ext w w2 → (execOp a.eval o).run P w2 = .ok (.value (if q = true then a.eval x else a.eval y)) w2 := fun w2 _ => by
   simp only [execOp, ho, hv, asBool]
   rfl
  split at e
  ·rename_i m1 x1 e1 m2 y1 e2 hx hy
   injection e with e; injection e with _ e; subst e
   refine goes_pure h hrun ?_
   obtain ⟨c1, k1, k2⟩ := opv_holds h hx
   obtain ⟨c2, k3, k4⟩ := opv_holds h hy
   simp only [M] at k2 k4
   have := match_bool k1 k2.2
   have := match_bool k3 k4.2
   cases q <;> simp_all <;> exact holds_bool _
  ·rename_i p r hne hx hy
   cases q with
   | true =>
    simp only [cond_true] at e
    split at e
    ·rename_i av hav
     injection e with e; injection e with _ e; subst e
     exact goes_pure h (fun w2 hw => by simpa using hrun w2 hw) (copy_holds h hx hav)
    ·cases e
   | false =>
    simp only [cond_false] at e
    split at e
    ·rename_i av hav
     injection e with e; injection e with _ e; subst e
     exact goes_pure h (fun w2 hw => by simpa using hrun w2 hw) (copy_holds h hy hav)
    ·cases e
  ·cases e
 ·cases e
end Go.Pv
namespace Go.Pv
set_option linter.unusedVariables false
set_option linter.unusedSimpArgs false
variable {P : Program} {w w' : World} {A A' : Nat → Prop} {H : Nat → Value} {tm tm' : Nat → Value} {S S' : St} {σ : Nat → Option Nat} {w0 : World} {W0 Z : Nat → Prop} {a : Act} {own : Nat → Prop} {v : Value} {Θ : Tab} {dst : Option Nat}
theorem getP_append : ∀ (p q : Path) (t : Ty) (m : Md) (x : t.I), getP (p ++ q) t m x = (getP p t m x).bind fun b => getP q b.t b.m b.x
 | [], q, t, m, x => rfl
 | .deref :: p, q, t, m, x => by cases t <;> simp only [List.cons_append, getP, Option.bind_none] <;> exact getP_append p q _ _ _
 | .fst :: p, q, t, m, x => by cases t <;> simp only [List.cons_append, getP, Option.bind_none] <;> exact getP_append p q _ _ _
 | .snd :: p, q, t, m, x => by cases t <;> simp only [List.cons_append, getP, Option.bind_none] <;> exact getP_append p q _ _ _
 | .idx i :: p, q, t, m, x => by cases t <;> simp only [List.cons_append, getP, Option.bind_none] <;> exact getP_append p q _ _ _
theorem valid_append : ∀ (p q : Path) {t : Ty} {m : Md} {x : t.I} {b : TV}, getP p t m x = some b → valid p t x → valid q b.t b.x → valid (p ++ q) t x
 | [], q, t, m, x, b, hg, _, h => by simp only [getP, Option.some.injEq] at hg; subst hg; exact h
 | .deref :: p, q, .ptr t, m, x, b, hg, h1, h2 => by simp only [getP] at hg; simp only [valid] at h1; simp only [List.cons_append, valid]; exact valid_append p q hg h1 h2
 | .fst :: p, q, .pair _ _, m, x, b, hg, h1, h2 => by simp only [getP] at hg; simp only [valid] at h1; simp only [List.cons_append, valid]; exact valid_append p q hg h1 h2
 | .snd :: p, q, .pair _ _, m, x, b, hg, h1, h2 => by simp only [getP] at hg; simp only [valid] at h1; simp only [List.cons_append, valid]; exact valid_append p q hg h1 h2
 | .idx i :: p, q, .sl t, m, x, b, hg, h1, h2 => by simp only [getP] at hg; simp only [valid] at h1; simp only [List.cons_append, valid]; exact ⟨h1.1, valid_append p q hg h1.2 h2⟩
theorem deref_cases (cs : List Value) : (∃ g off, cs = [.pointer (some ⟨g, off, none⟩)]) ∨ ((∀ (w : World) (p : Path) (t : Ty), cellsAt w (.deref :: p) (.ptr t) cs = none) ∧ ∀ (w : World) (p : Path) (t : Ty) (l : Option (Nat × Nat)), addrAt w (.deref :: p) (.ptr t) cs l = none) := by
 rcases cs with _ | ⟨v, _ | ⟨_, _⟩⟩
 ·exact .inr ⟨fun _ _ _ => rfl, fun _ _ _ _ => rfl⟩
 ·cases v <;> try exact .inr ⟨fun _ _ _ => rfl, fun _ _ _ _ => rfl⟩
  rename_i x
  rcases x with _ | ⟨g, off, _ | _⟩
  ·exact .inr ⟨fun _ _ _ => rfl, fun _ _ _ _ => rfl⟩
  ·exact .inl ⟨g, off, rfl⟩
  ·exact .inr ⟨fun _ _ _ => rfl, fun _ _ _ _ => rfl⟩
 ·cases v <;> try exact .inr ⟨fun _ _ _ => rfl, fun _ _ _ _ => rfl⟩
  rename_i x
  rcases x with _ | ⟨g, off, _ | _⟩ <;> exact .inr ⟨fun _ _ _ => rfl, fun _ _ _ _ => rfl⟩
theorem idx_cases (cs : List Value) : (∃ g off n c, cs = [.slice (some ⟨g, off, none⟩) n c]) ∨ ((∀ (w : World) (i : Nat) (p : Path) (t : Ty), cellsAt w (.idx i :: p) (.sl t) cs = none) ∧ ∀ (w : World) (i : Nat) (p : Path) (t : Ty) (l : Option (Nat × Nat)), addrAt w (.idx i :: p) (.sl t) cs l = none) := by
 rcases cs with _ | ⟨v, _ | ⟨_, _⟩⟩
 ·exact .inr ⟨fun _ _ _ _ => rfl, fun _ _ _ _ _ => rfl⟩
 ·cases v <;> try exact .inr ⟨fun _ _ _ _ => rfl, fun _ _ _ _ _ => rfl⟩
  rename_i x n c
  rcases x with _ | ⟨g, off, _ | _⟩
  ·exact .inr ⟨fun _ _ _ _ => rfl, fun _ _ _ _ _ => rfl⟩
  ·exact .inl ⟨g, off, n, c, rfl⟩
  ·exact .inr ⟨fun _ _ _ _ => rfl, fun _ _ _ _ _ => rfl⟩
 ·cases v <;> try exact .inr ⟨fun _ _ _ _ => rfl, fun _ _ _ _ _ => rfl⟩
  rename_i x n c
  rcases x with _ | ⟨g, off, _ | _⟩ <;> exact .inr ⟨fun _ _ _ _ => rfl, fun _ _ _ _ _ => rfl⟩
theorem cells_append : ∀ (p q : Path) {t : Ty} {m : Md} {x : t.I} {b : TV} (cs : List Value) (l : Option (Nat × Nat)), getP p t m x = some b →
  cellsAt w (p ++ q) t cs = (cellsAt w p t cs).bind (cellsAt w q b.t) ∧ addrAt w (p ++ q) t cs l = (cellsAt w p t cs).bind fun c => addrAt w q b.t c (addrAt w p t cs l)
 | [], q, t, m, x, b, cs, l, hg => by simp only [getP, Option.some.injEq] at hg; subst hg; exact ⟨rfl, rfl⟩
 | .fst :: p, q, .pair a' b', m, x, b, cs, l, hg => by simp only [getP] at hg; simp only [List.cons_append, cellsAt, addrAt]; exact cells_append p q _ _ hg
 | .snd :: p, q, .pair a' b', m, x, b, cs, l, hg => by simp only [getP] at hg; simp only [List.cons_append, cellsAt, addrAt]; exact cells_append p q _ _ hg
 | .deref :: p, q, .ptr t, m, x, b, cs, l, hg => by
  simp only [getP] at hg
  have ih := fun c l' => cells_append p q c l' hg
  rw [List.cons_append]
  rcases deref_cases cs with ⟨g, off, rfl⟩ | ⟨h1, h2⟩
  ·simp only [cellsAt, addrAt]
   cases hr : rowAt w g off t.size with
   | none => simp
   | some c => simp only [Option.bind_some]; exact ih c _
  ·simp only [h1, h2, Option.bind_none, and_self]
 | .idx i :: p, q, .sl t, m, x, b, cs, l, hg => by
  simp only [getP] at hg
  have ih := fun c l' => cells_append p q c l' hg
  rw [List.cons_append]
  rcases idx_cases cs with ⟨g, off, n, c, rfl⟩ | ⟨h1, h2⟩
  ·simp only [cellsAt, addrAt]
   cases hr : rowAt w g (off + i * t.size) t.size with
   | none => simp
   | some c => simp only [Option.bind_some]; exact ih c _
  ·simp only [h1, h2, Option.bind_none, and_self]
theorem rowAt_len {g off n : Nat} {cs : List Value} (h : rowAt w g off n = some cs) : cs.length = n ∧ ∃ cur T fr, w.heap[g]? = some (.cells cur T fr) ∧ off + n ≤ cur.size ∧ cs = (cur.toList.drop off).take n := by
 unfold rowAt at h
 split at h
 ·rename_i cur T fr hw
  split at h
  ·rename_i hl
   injection h with h
   subst h
   refine ⟨by simp; omega, cur, T, fr, hw, hl, rfl⟩
  ·cases h
 ·cases h
theorem rowAt_part {g off n a b : Nat} {cs : List Value} (h : rowAt w g off n = some cs) (hab : a + b ≤ n) : rowAt w g (off + a) b = some ((cs.drop a).take b) := by
 obtain ⟨_, cur, T, fr, hw, hl, rfl⟩ := rowAt_len h
 rw [rowAt_own hw (by omega), List.drop_take, List.take_take, List.drop_drop, Nat.min_eq_left (by omega)]
theorem addr_row : ∀ (p : Path) {t : Ty} {m : Md} {x : t.I} {b : TV} {cs cs' : List Value} {l : Option (Nat × Nat)} {g off : Nat}, getP p t m x = some b → cs.length = t.size → (∀ g o, l = some (g, o) → rowAt w g o t.size = some cs) →
  cellsAt w p t cs = some cs' → addrAt w p t cs l = some (g, off) → rowAt w g off b.t.size = some cs'
 | [], t, m, x, b, cs, cs', l, g, off, hg, hl, hr, hc, ha => by
  simp only [getP, Option.some.injEq] at hg; subst hg
  simp only [cellsAt, Option.some.injEq] at hc; subst hc
  exact hr g off ha
 | .fst :: p, .pair a' b', m, x, b, cs, cs', l, g, off, hg, hl, hr, hc, ha => by
  simp only [getP] at hg; simp only [cellsAt] at hc; simp only [addrAt] at ha; simp only [Ty.size] at hl hr
  refine addr_row p hg (by rw [List.length_take]; omega) (fun g o e => ?_) hc ha
  have := rowAt_part (a := 0) (b := a'.size) (hr g o e) (by omega)
  rw [Nat.add_zero, List.drop_zero] at this
  exact this
 | .snd :: p, .pair a' b', m, x, b, cs, cs', l, g, off, hg, hl, hr, hc, ha => by
  simp only [getP] at hg; simp only [cellsAt] at hc; simp only [addrAt] at ha; simp only [Ty.size] at hl hr
  refine addr_row p hg (by rw [List.length_drop]; omega) (fun g o e => ?_) hc ha
  cases l with
  | none => simp at e
  | some q =>
   simp only [Option.map_some, Option.some.injEq, Prod.mk.injEq] at e
   obtain ⟨rfl, rfl⟩ := e
   have := rowAt_part (a := a'.size) (b := b'.size) (hr q.1 q.2 rfl) (by omega)
   rw [List.take_of_length_le (by rw [List.length_drop]; omega)] at this
   exact this
 | .deref :: p, .ptr t, m, x, b, cs, cs', l, g, off, hg, hl, hr, hc, ha => by
  simp only [getP] at hg
  rcases deref_cases cs with ⟨g1, off1, rfl⟩ | ⟨h1, h2⟩
  ·simp only [cellsAt] at hc
   simp only [addrAt] at ha
   cases hrow : rowAt w g1 off1 t.size with
   | none => rw [hrow] at hc; simp at hc
   | some c =>
    rw [hrow] at hc ha
    simp only [Option.bind_some] at hc ha
    exact addr_row p hg (rowAt_len hrow).1 (fun g o e => by injection e with e; injection e with e1 e2; subst e1 e2; exact hrow) hc ha
  ·rw [h1] at hc; cases hc
 | .idx i :: p, .sl t, m, x, b, cs, cs', l, g, off, hg, hl, hr, hc, ha => by
  simp only [getP] at hg
  rcases idx_cases cs with ⟨g1, off1, n, c1, rfl⟩ | ⟨h1, h2⟩
  ·simp only [cellsAt] at hc
   simp only [addrAt] at ha
   cases hrow : rowAt w g1 (off1 + i * t.size) t.size with
   | none => rw [hrow] at hc; simp at hc
   | some c =>
    rw [hrow] at hc ha
    simp only [Option.bind_some] at hc ha
    exact addr_row p hg (rowAt_len hrow).1 (fun g o e => by injection e with e; injection e with e1 e2; subst e1 e2; exact hrow) hc ha
  ·rw [h1] at hc; cases hc
theorem load_run (hT : tabB P Θ = true) {T : TypeId} {t : Ty} {g off : Nat} {cs : List Value} (ht : Θ.is T t = true) (h : rowAt w g off t.size = some cs) :
  ∃ v, (∀ w2, Ext w w2 → (Instr.loadAt T (.pointer (some ⟨g, off, none⟩))).run P w2 = .ok v w2) ∧ matchV t v cs := by
 suffices hs : ∀ w2, Ext w w2 → ∃ v, (Instr.loadAt T (.pointer (some ⟨g, off, none⟩))).run P w2 = .ok v w2 ∧ matchV t v cs by
  obtain ⟨v, _, h2⟩ := hs w (Ext.refl w)
  refine ⟨v, fun w2 hw => ?_, h2⟩
  obtain ⟨v', k1, k2⟩ := hs w2 hw
  rw [k1]
  unfold matchV at h2 k2
  split at h2
  ·rename_i ha; rw [if_pos ha] at k2; rw [h2, k2]
  ·rename_i ha; rw [if_neg ha] at k2; rw [h2] at k2; injection k2 with k2; rw [k2]
 intro w2 hw2
 have h : rowAt w2 g off t.size = some cs := by
  obtain ⟨_, cur, T', fr, hw, _, _⟩ := rowAt_len h
  unfold rowAt at h ⊢
  rw [hw2 g (lt_of_some hw)]
  exact h
 clear hw2
 revert h
 generalize w2 = w
 intro h
 obtain ⟨hl, cur, T', fr, hw, hs, rfl⟩ := rowAt_len h
 obtain ⟨inf, hi, hsz, _⟩ := size_is hT ht
 have hcell : ∀ j v, ((cur.toList.drop off).take t.size)[j]? = some v → w.cell? ((⟨g, off, none⟩ : Addr).add j) = some v := by
  intro j v hj
  rw [addr_add]
  unfold World.cell?
  simp only [hw, Option.isSome_none, Bool.false_eq_true, if_false]
  rw [List.getElem?_take] at hj
  split at hj
  ·rw [List.getElem?_drop] at hj
   simpa using hj
  ·cases hj
 have hagg := agg_is hT ht w
 simp only [Instr.loadAt, Instr.sureAddr, loadVar, Sem.run_bind, Sem.run_pure, Result.andThen_ok, hagg]
 cases hb : isAgg t with
 | true =>
  refine ⟨.agg ((cur.toList.drop off).take t.size).toArray, ?_, by simp [matchV, hb]⟩
  have hlc := run_loadCells_list (P := P) (w := w) ⟨g, off, none⟩ _ hcell
  rw [hl] at hlc
  simp only [if_true, Sem.run_bind, sizeOf, typeInfo, run_program, Result.andThen_ok, hi, Sem.run_pure, hsz, hlc]
 | false =>
  have h1 : t.size = 1 := by cases t <;> simp [isAgg] at hb <;> rfl
  rw [h1] at hl hcell ⊢
  obtain ⟨u, hu⟩ : ∃ u, (cur.toList.drop off).take 1 = [u] := by
   cases hx : (cur.toList.drop off).take 1 with
   | nil => rw [hx] at hl; simp at hl
   | cons u r =>
    rw [hx] at hl
    cases r with
    | nil => exact ⟨u, rfl⟩
    | cons _ _ => simp at hl
  refine ⟨u, ?_, by simp [matchV, hb, hu]⟩
  have := hcell 0 u (by rw [hu]; rfl)
  rw [Addr.add_zero'] at this
  simp [load, Sem.run, this]
end Go.Pv
namespace Go.Pv
set_option linter.unusedVariables false
set_option linter.unusedSimpArgs false
variable {P : Program} {w w' : World} {A A' : Nat → Prop} {H : Nat → Value} {tm tm' : Nat → Value} {S S' : St} {σ : Nat → Option Nat} {w0 : World} {W0 Z : Nat → Prop} {a : Act} {own : Nat → Prop} {v : Value} {Θ : Tab} {dst : Option Nat}
def Leads (w : World) (A : Nat → Prop) (tm : Nat → Value) (S : St) : Tgt → Value → Prop
 | .k b, v => ∃ cs, matchV (.ptr b.t) v cs ∧ K w A (.ptr b.t) b.x cs
 | .pl t s p, v => ∃ r ex, S.at s = .v r ex ∧ (open_ p ex → ∃ cs0 g off, Ref tm S t s p r cs0 ∧ addrAt w p r.t cs0 none = some (g, off) ∧ v = .pointer (some ⟨g, off, none⟩))
theorem lead_own (h : RelS σ w0 W0 Z H S a w) {i : Nat} {t : Ty} {T : TypeId} {tag : Option Nat} {me : Md} {y : t.I} {ex : List Path} (hi : S.at i = .v ⟨.ptr t, .o T tag me, y⟩ ex) :
  Leads w (Av σ Z) (tmOf a) S (.pl t i [.deref]) (tmOf a i) := by
 refine ⟨_, ex, hi, fun ho => ?_⟩
 have hh := h.holds i
 rw [hi] at hh
 obtain ⟨cs, h1, h2⟩ := hh
 simp only [M] at h2
 rcases h2 with ⟨hn, _⟩ | ⟨hk, _⟩ | ⟨T', tag', me', g, cur, e, rfl, ht, hg, hw, hM⟩
 ·exact absurd hn ho.not_nil
 ·simp [Md.isK] at hk
 ·have hlen := (M_ok t hM).1
  refine ⟨_, g, 0, ⟨⟨ex, hi, ho⟩, trivial, ⟨_, rfl, rfl⟩, h1⟩, ?_, by simpa [matchV, isAgg] using h1.symm⟩
  have hs : 0 + t.size ≤ cur.size := by rw [← hlen]; simp
  simp only [addrAt, rowAt_own hw hs, Option.bind_some]
theorem open_head {p q : Path} {ex : List Path} (h : open_ (p ++ q) ex) : open_ p ex := fun r hr s u e => h r hr s (u ++ q) (by rw [e]; simp)
theorem open_not_mem {p : Path} {s : Step} {q : Path} {ex : List Path} (h : open_ (p ++ s :: q) ex) : [] ∉ subs p ex := fun hm => by
 have := mem_subs.1 hm
 rw [List.append_nil] at this
 exact h p this s q rfl
theorem tgt_spec (h : RelS σ w0 W0 Z H S a w) {T : TypeId} {x : Operand} {av : AV} {g : Tgt} (ho : S.opv Θ T x = some av) (e : S.tgt x av = some g) : Leads w (Av σ Z) (tmOf a) S g (a.eval x) := by
 have hh := opv_holds h ho
 have hown : ∀ {t : Ty} {T : TypeId} {tag : Option Nat} {me : Md} {y : t.I} {ex : List Path} {i : Nat}, av = .v ⟨.ptr t, .o T tag me, y⟩ ex → x = .tmp i → Leads w (Av σ Z) (tmOf a) S (.pl t i [.deref]) (a.eval x) := by
  intro t T tag me y ex i e1 e2
  subst e2
  simp only [St.opv, Option.some.injEq] at ho
  rw [e1] at ho
  exact lead_own h ho
 unfold St.tgt at e
 split at e
 ·rename_i t m y
  split at e
  ·injection e with e; subst e
   obtain ⟨cs, h1, h2⟩ := hh
   exact ⟨cs, h1, M_isK _ rfl h2⟩
  ·injection e with e; subst e
   exact hown rfl rfl
  ·cases e
 ·split at e
  ·injection e with e; subst e
   exact hown rfl rfl
  ·cases e
 ·rename_i t s p
  obtain ⟨r, cs0, cs, hr, hc, hm⟩ := hh
  split at e
  ·rename_i t' y hgl
   injection e with e; subst e
   obtain ⟨ex, b, cs', ow', k1, k2, k3, k4, hM, k5, k6, k7⟩ := ref_focus h hr
   obtain ⟨r', ex', q1, q2, q3⟩ := glance_get hgl
   rw [k1] at q1
   injection q1 with q1 q1'
   subst q1 q1'
   rw [k3] at q3
   injection q3 with q3
   subst q3
   rw [k5] at hc
   injection hc with hc
   subst hc
   simp only at k4
   rw [← k4] at hm
   exact ⟨_, hm, M_isK _ rfl k7⟩
  ·rename_i t' T' tag' me' y hgl
   injection e with e; subst e
   obtain ⟨ex, b, cs', ow', k1, k2, k3, k4, hM, k5, k6, k7⟩ := ref_focus h hr
   obtain ⟨r', ex', q1, q2, q3⟩ := glance_get hgl
   rw [k1] at q1
   injection q1 with q1 q1'
   subst q1 q1'
   rw [k3] at q3
   injection q3 with q3
   subst q3
   rw [k5] at hc
   injection hc with hc
   subst hc
   simp only at k4
   injection k4 with k4
   subst k4
   refine ⟨r, ex, k1, fun hop => ?_⟩
   simp only [M] at k7
   rcases k7 with ⟨hn, _⟩ | ⟨hk, _⟩ | ⟨T', tag', me', g, cur, e, rfl, ht, hg, hw, hM'⟩
   ·exact absurd hn (open_not_mem hop)
   ·simp [Md.isK] at hk
   ·have hlen := (M_ok _ hM').1
    have hs : 0 + Ty.size t' ≤ cur.size := by rw [← hlen]; simp
    refine ⟨cs0, g, 0, ⟨⟨ex, k1, hop⟩, valid_append p [.deref] k3 hr.val trivial, ⟨_, by rw [getP_append, k3]; rfl, rfl⟩, hr.mat⟩, ?_, by simpa [matchV, isAgg] using hm.symm⟩
    rw [(cells_append p [.deref] cs0 none k3).2, k5]
    simp only [Option.bind_some, addrAt, rowAt_own hw hs]
  ·cases e
 ·rename_i t s p
  injection e with e; subst e
  obtain ⟨r, cs0, g, off, hr, hc, hm⟩ := hh
  obtain ⟨ex, k1, k2⟩ := hr.at_
  exact ⟨r, ex, k1, fun _ => ⟨cs0, g, off, hr, hc, hm⟩⟩
 ·cases e
theorem nilcheck_ok (h : RelS σ w0 W0 Z H S a w) {o : Oper} {x : Operand} (ho : o.op = .nilCheck x) (e : evNilCheck Θ S o.dst x = some (true, S')) : GoesQ P w0 W0 Z H S' a o.dst w (execOp a.eval o) := by
 unfold evNilCheck at e
 split at e
 ·rename_i av hav
  split at e
  ·rename_i g hg
   split at e
   ·rename_i r _ hr hgl
    injection e with e; injection e with _ e; subst e
    have hc := copy_holds h hav hr
    have hl := tgt_spec h hav hg
    have hp : (∃ ad, a.eval x = .pointer (some ad)) := by
     cases g with
     | k b =>
      obtain ⟨cs, h1, h2⟩ := hl
      simp only [K] at h2
      obtain ⟨g, off, cur, T, fr, rfl, _⟩ := h2
      exact ⟨_, by simpa [matchV, isAgg] using h1.symm⟩
     | pl t s p =>
      obtain ⟨r', ex, k1, k2⟩ := hl
      simp only at hgl
      split at hgl
      ·rename_i b hb
       obtain ⟨r2, ex2, q1, q2, q3⟩ := glance_get hb
       rw [k1] at q1
       injection q1 with q1 q1'
       subst q1 q1'
       obtain ⟨cs0, g, off, _, _, e3⟩ := k2 (open_of_under q2)
       exact ⟨_, e3⟩
      ·cases hgl
    obtain ⟨ad, hp⟩ := hp
    exact goes_pure h (v := a.eval x) (fun w2 _ => by simp only [execOp, ho, hp]; rfl) hc
   ·cases e
  ·cases e
 ·cases e
theorem loadAt_spec (hT : tabB P Θ = true) (h : RelS σ w0 W0 Z H S a w) {T : TypeId} {g : Tgt} {r : AV} {v : Value} (hl : Leads w (Av σ Z) (tmOf a) S g v) (e : S.loadAt g = some r) (ht : Θ.is T g.ty = true) :
  ∃ u, (∀ w2, Ext w w2 → (Instr.loadAt T v).run P w2 = .ok u w2) ∧ Holds w (Av σ Z) H (tmOf a) S (fun _ => False) r u := by
 cases g with
 | k b =>
  simp only [St.loadAt, Option.some.injEq] at e
  subst e
  obtain ⟨cs, h1, h2⟩ := hl
  simp only [K] at h2
  obtain ⟨g, off, cur, T', fr, rfl, hg, hw, hs, hk⟩ := h2
  obtain rfl : v = .pointer (some ⟨g, off, none⟩) := by simpa [matchV, isAgg] using h1.symm
  obtain ⟨u, k1, k2⟩ := load_run hT ht (rowAt_own hw hs)
  exact ⟨u, k1, _, k2, M_of_K _ hk⟩
 | pl t s p =>
  simp only [St.loadAt] at e
  obtain ⟨r', ex, k1, k2⟩ := hl
  split at e
  ·rename_i b hb
   obtain ⟨r2, ex2, q1, q2, q3⟩ := glance_get hb
   rw [k1] at q1
   injection q1 with q1 q1'
   subst q1 q1'
   obtain ⟨cs0, g, off, hr, ha, rfl⟩ := k2 (open_of_under q2)
   obtain ⟨ex', b', cs', ow', j1, j2, j3, j4, hM, j5, j6, j7⟩ := ref_focus h hr
   rw [k1] at j1
   injection j1 with j1 j1'
   subst j1'
   rw [q3] at j3
   injection j3 with j3
   subst j3
   subst j4
   have hrow := addr_row p q3 (M_ok _ hM).1 (fun g o e => by cases e) j5 ha
   obtain ⟨u, l1, l2⟩ := load_run hT ht hrow
   refine ⟨u, l1, ?_⟩
   cases hk : b.m.isK with
   | true =>
    rw [hk] at e
    simp only [cond_true] at e
    split at e
    ·rename_i c hc
     injection e with e; subst e
     obtain ⟨_, ow2, _, hM2⟩ := place_read h hr j5 hc
     have hcb : c = b := by
      obtain ⟨r3, ex3, p1, p2, p3⟩ := place_glance hc
      rw [k1] at p1
      injection p1 with p1 p1'
      subst p1
      rw [q3] at p3
      injection p3 with p3
      exact p3.symm
     subst hcb
     exact ⟨_, l2, M_of_K _ (M_isK _ hk hM2)⟩
    ·cases e
   | false =>
    rw [hk] at e
    simp only [cond_false, Option.some.injEq] at e
    subst e
    exact ⟨r', cs0, cs', hr, j5, l2⟩
  ·cases e
theorem load_ok (hT : tabB P Θ = true) (h : RelS σ w0 W0 Z H S a w) {o : Oper} {T : TypeId} {x : Operand} (ho : o.op = .load T x) (e : evLoad Θ S o.dst T x = some (true, S')) : GoesQ P w0 W0 Z H S' a o.dst w (execOp a.eval o) := by
 unfold evLoad at e
 split at e
 ·rename_i av hav
  split at e
  ·rename_i g hg
   split at e
   ·rename_i r hr
    have hl := tgt_spec h hav hg
    cases hc : (fitR g.ty r && Θ.is T g.ty) with
    | false => rw [hc] at e; cases e
    | true =>
     rw [hc] at e
     replace hc := ((Bool.and_eq_true _ _).mp hc).2
     simp only [cond_true, Option.some.injEq, Prod.mk.injEq, true_and] at e
     subst e
     obtain ⟨u, h1, h2⟩ := loadAt_spec hT h hl hr hc
     refine goes_pure h (v := u) (fun w2 hw => ?_) h2
     simp only [execOp, ho, Sem.run_bind, h1 w2 hw]
     rfl
   ·cases e
  ·cases e
 ·cases e
end Go.Pv
namespace Go.Pv
set_option linter.unusedVariables false
set_option linter.unusedSimpArgs false
variable {P : Program} {w w' : World} {A A' : Nat → Prop} {H : Nat → Value} {tm tm' : Nat → Value} {S S' : St} {σ : Nat → Option Nat} {w0 : World} {W0 Z : Nat → Prop} {a : Act} {own : Nat → Prop} {v : Value} {Θ : Tab} {dst : Option Nat}
theorem getP_isK : ∀ (p : Path) {t : Ty} {m : Md} {x : t.I} {b : TV}, m.isK = true → getP p t m x = some b → b.m.isK = true
 | [], t, m, x, b, hk, hg => by simp only [getP, Option.some.injEq] at hg; subst hg; exact hk
 | .deref :: p, .ptr t, m, x, b, hk, hg => by simp only [getP] at hg; exact getP_isK p (inn_isK hk) hg
 | .fst :: p, .pair _ _, m, x, b, hk, hg => by simp only [getP] at hg; exact getP_isK p (l_isK hk) hg
 | .snd :: p, .pair _ _, m, x, b, hk, hg => by simp only [getP] at hg; exact getP_isK p (r_isK hk) hg
 | .idx i :: p, .sl t, m, x, b, hk, hg => by simp only [getP] at hg; exact getP_isK p (inn_isK hk) hg
theorem memless_valid : ∀ (p : Path) {t : Ty} {m : Md} {x : t.I} {b : TV}, memless p = true → getP p t m x = some b → valid p t x
 | [], _, _, _, _, _, _ => trivial
 | .fst :: p, .pair _ _, m, x, b, h, hg => by simp only [getP] at hg; simp only [valid]; exact memless_valid p (by simpa [memless] using h) hg
 | .snd :: p, .pair _ _, m, x, b, h, hg => by simp only [getP] at hg; simp only [valid]; exact memless_valid p (by simpa [memless] using h) hg
theorem memless_ty : ∀ (p : Path) {t : Ty} {m : Md} {x : t.I} {b : TV}, memless p = true → getP p t m x = some b → tyAt p t = some b.t
 | [], _, _, _, _, _, hg => by simp only [getP, Option.some.injEq] at hg; subst hg; rfl
 | .fst :: p, .pair _ _, m, x, b, h, hg => by simp only [getP] at hg; simp only [tyAt]; exact memless_ty p (by simpa [memless] using h) hg
 | .snd :: p, .pair _ _, m, x, b, h, hg => by simp only [getP] at hg; simp only [tyAt]; exact memless_ty p (by simpa [memless] using h) hg
theorem memless_append : ∀ (p q : Path), memless p = true → memless q = true → memless (p ++ q) = true
 | [], _, _, h => h
 | .fst :: p, q, h, h' => by simp only [List.cons_append, memless]; exact memless_append p q (by simpa [memless] using h) h'
 | .snd :: p, q, h, h' => by simp only [List.cons_append, memless]; exact memless_append p q (by simpa [memless] using h) h'
theorem snds_memless : ∀ n, memless (List.replicate n .snd) = true
 | 0 => rfl
 | n + 1 => by rw [List.replicate_succ]; simp only [memless]; exact snds_memless n
theorem fld_memless (i n : Nat) : memless (fld i n) = true := by
 unfold fld
 cases Nat.beq (i + 1) n <;> cases Nat.beq n 1 <;> simp only [cond_true, cond_false]
 ·exact memless_append _ _ (snds_memless _) rfl
 ·exact memless_append _ _ (snds_memless _) rfl
 ·exact snds_memless _
 ·rfl
theorem K_part {t : Ty} {x : t.I} {p : Path} {b : TV} {cs : List Value} {v : Value} (hm : matchV (.ptr t) v cs) (h : K w A (.ptr t) x cs) (hp : memless p = true) (hg : getP p t .k x = some b) :
  ∃ g off, v = .pointer (some ⟨g, off, none⟩) ∧ K w A (.ptr b.t) b.x [.pointer (some ⟨g, off + fldOff p t, none⟩)] := by
 simp only [K] at h
 obtain ⟨g, off, cur, T', fr, rfl, hA, hw, hs, hk⟩ := h
 refine ⟨g, off, by simpa [matchV, isAgg] using hm.symm, ?_⟩
 have hl := (K_ok t hk).1
 obtain ⟨cs', ow', k1, k2, k3⟩ := focus (w := w) (Wr := A) (H := fun _ => undef) (ow := fun _ => False) (hs := []) p (M_of_K t hk) (fun _ h => by simp at h) (memless_valid p hp hg) hg
 rw [memless_cells p hp hg hl] at k1
 injection k1 with k1
 subst k1
 have hf := memless_fit p hp hg
 simp only [K]
 refine ⟨g, off + fldOff p t, cur, T', fr, rfl, hA, hw, by omega, ?_⟩
 have := M_isK _ (getP_isK p rfl hg) k3
 rw [List.drop_take, List.take_take, List.drop_drop, Nat.min_eq_left (by omega)] at this
 exact this
theorem memless_pair {p : Path} {t : Ty} {m : Md} {x : t.I} {b : TV} (hp : p ≠ []) (h : memless p = true) (hg : getP p t m x = some b) : ∃ a' b', t = .pair a' b' := by
 cases p with
 | nil => exact absurd rfl hp
 | cons s p => cases s <;> cases t <;> simp_all [getP, memless]
theorem fld_ne {i n : Nat} (h : i < n) : fld i n ≠ [] := by
 unfold fld
 cases hb : Nat.beq (i + 1) n with
 | false => simp
 | true =>
  cases hc : Nat.beq n 1 with
  | true => simp
  | false =>
   simp only [cond_true, cond_false]
   have h1 := Nat.eq_of_beq_eq_true hb
   have h2 := Nat.ne_of_beq_eq_false hc
   cases i with
   | zero => omega
   | succ i => simp [List.replicate_succ]
theorem fieldaddr_ok (hT : tabB P Θ = true) (h : RelS σ w0 W0 Z H S a w) {o : Oper} {T : TypeId} {x : Operand} {f : Nat} (ho : o.op = .fieldAddr T x f) (e : evFieldAddr Θ S o.dst T x f = some (true, S')) : GoesS P w0 W0 Z H S' a o.dst w (execOp a.eval o) := by
 unfold evFieldAddr at e
 split at e
 ·rename_i av i hav hi
  cases hlt : Nat.blt f i.fs.length with
  | false => rw [hlt] at e; cases e
  | true =>
   rw [hlt] at e
   simp only [cond_true] at e
   have hf : f < i.fs.length := Nat.lt_of_succ_le (Nat.le_of_ble_eq_true hlt)
   obtain ⟨_, hu, hTi⟩ := tab_ti hT hi
   -- the address of the field
   have run : ∀ (w2 : World) (g off : Nat) (b : TV) (t : Ty) (m : Md) (y : t.I), i.ty = t → getP (fld f i.fs.length) t m y = some b →
     (Instr.fieldAt T (.pointer (some ⟨g, off, none⟩)) f).run P w2 = .ok (.pointer (some ⟨g, off + fldOff (fld f i.fs.length) t, none⟩)) w2 := by
    intro w2 g off b t m y hty hg
    have hne : ∃ a' b', i.ty = .pair a' b' := by
     subst hty
     exact memless_pair (fld_ne hf) (fld_memless _ _) hg
    obtain ⟨a', b', hp⟩ := hne
    obtain ⟨fs, hfs, hfl, hfo, _⟩ := und_pair hu hp
    rw [hTi] at hfs
    have hlen : i.fs.length = fs.size := by rw [← hfl]; simp
    obtain ⟨fl, hfl2⟩ : ∃ fl, fs[f]? = some fl := ⟨fs[f]'(by omega), by simp [show f < fs.size from by omega]⟩
    obtain ⟨tf, h1, h2, h3, h4⟩ := fieldsOK_at hfo f fl (by simpa using hfl2)
    rw [Nat.zero_add, ← hlen] at h1 h3
    subst hty
    rw [memless_ty _ (fld_memless _ _) hg] at h1
    injection h1 with h1
    obtain ⟨inf, k1, k2, _⟩ := size_is hT h2
    simp only [Instr.fieldAt, Sem.run_bind, run_underlying hfs, Result.andThen_ok, hfl2, Instr.sureAddr, Sem.run_pure, fieldPlace, sizeOf, typeInfo, run_program, k1, k2]
    rw [if_neg (by omega)]
    simp only [Sem.run_pure, Result.andThen_ok, addr_add, h3]
   split at e
   ·rename_i t m y hg
    cases hty : decide (i.ty = t) with
    | false => rw [hty] at e; cases e
    | true =>
     rw [hty] at e
     simp only [cond_true] at e
     split at e
     ·rename_i b hb
      injection e with e; injection e with _ e; subst e
      obtain ⟨cs, h1, h2⟩ := tgt_spec h hav hg
      obtain ⟨g', off, hv, hk⟩ := K_part h1 h2 (fld_memless _ _) hb
      refine goes_pureS h (v := .pointer (some ⟨g', off + fldOff (fld f i.fs.length) t, none⟩)) (fun w2 => ?_) ⟨[_], by simp [matchV, isAgg], M_of_K (.ptr b.t) hk⟩
      simp only [execOp, ho, hv, Sem.run_bind, run w2 g' off b t .k y (by simpa using hty) hb]
      rfl
     ·cases e
   ·rename_i t s p hg
    cases hty : decide (i.ty = t) with
    | false => rw [hty] at e; cases e
    | true =>
     rw [hty] at e
     simp only [cond_true] at e
     split at e
     ·rename_i b hb
      injection e with e; injection e with _ e; subst e
      obtain ⟨r, ex, k1, k2⟩ := tgt_spec h hav hg
      obtain ⟨r2, ex2, q1, q2, q3⟩ := glance_get hb
      rw [k1] at q1
      injection q1 with q1 q1'
      subst q1 q1'
      have hop := open_of_under q2
      obtain ⟨cs0, g', off, hr, ha, hv⟩ := k2 (open_head hop)
      obtain ⟨ex', b', cs', ow', j1, j2, j3, j4, hM, j5, j6, j7⟩ := ref_focus h hr
      rw [getP_append, j3] at q3
      simp only [Option.bind_some] at q3
      refine goes_pureS h (v := .pointer (some ⟨g', off + fldOff (fld f i.fs.length) t, none⟩)) (fun w2 => ?_) ⟨r, cs0, g', off + fldOff (fld f i.fs.length) t, ⟨⟨ex, k1, hop⟩, valid_append p _ j3 hr.val (memless_valid _ (fld_memless _ _) q3), ⟨b, by rw [getP_append, j3]; exact q3, rfl⟩, hr.mat⟩, ?_, rfl⟩
      ·subst j4
       simp only [execOp, ho, hv, Sem.run_bind, run w2 g' off b b'.t b'.m b'.x (by simpa using hty) q3]
       rfl
      ·rw [(cells_append p _ cs0 none j3).2, j5, ha]
       simp only [Option.bind_some]
       rw [memless_addr _ (fld_memless _ _) q3, j4]
     ·cases e
   ·cases e
 ·cases e
theorem getD_lt {α : Type} (xs : List α) (i : Nat) (d : α) (h : i < xs.length) : List.getD xs i d = xs[i] := by simp [List.getD_eq_getElem?_getD, List.getElem?_eq_getElem h]
theorem indexAt_run (hT : tabB P Θ = true) {T : TypeId} {t : Ty} {g off len c : Nat} {k : IntKind} {n : Int} (ht : Θ.is T (.sl t) = true) (h0 : 0 ≤ n) (h1 : n < (len : Int)) :
  (Instr.indexAt T (.slice (some ⟨g, off, none⟩) len c) (.int k n)).run P w = .ok (.pointer (some ⟨g, off + n.toNat * t.size, none⟩)) w := by
 obtain ⟨i, hi, hty⟩ := is_find ht
 obtain ⟨_, hu, hTi⟩ := tab_ti hT hi
 obtain ⟨u1, u2, _⟩ := und_sl hu hty
 rw [hTi] at u1
 obtain ⟨inf, k1, k2, _⟩ := size_is hT u2
 simp [Instr.indexAt, asIntOf, run_underlying u1, h0, h1, sizeOf, typeInfo, run_program, k1, k2, addr_add]
theorem K_elem {t : Ty} {xs : List t.I} {v : Value} {cs : List Value} {n : Nat} (hm : matchV (.sl t) v cs) (h : K w A (.sl t) xs cs) (hn : n < xs.length) :
  ∃ g off c, v = .slice (some ⟨g, off, none⟩) xs.length c ∧ K w A (.ptr t) (List.getD xs n t.z) [.pointer (some ⟨g, off + n * t.size, none⟩)] := by
 simp only [K] at h
 obtain ⟨X, c, rfl, hc, h⟩ := h
 obtain ⟨g, off, cur, T', fr, rfl, hA, hw, hs, hk⟩ := h (by omega)
 refine ⟨g, off, c, by simpa [matchV, isAgg] using hm.symm, ?_⟩
 simp only [K]
 have hb : off + n * t.size + t.size ≤ cur.size := by
  have := Nat.mul_le_mul_right t.size (show n + 1 ≤ xs.length from hn)
  rw [Nat.add_mul, Nat.one_mul] at this
  omega
 exact ⟨g, _, cur, T', fr, rfl, hA, hw, hb, by rw [getD_lt _ _ _ hn]; exact hk n hn⟩
theorem indexaddr_ok (hT : tabB P Θ = true) (h : RelS σ w0 W0 Z H S a w) {o : Oper} {T : TypeId} {x ix : Operand} (ho : o.op = .indexAddr T x ix) (e : evIndexAddr Θ S o.dst T x ix = some (true, S')) : GoesS P w0 W0 Z H S' a o.dst w (execOp a.eval o) := by
 unfold evIndexAddr at e
 split at e
 ·rename_i t m xs ex n hav hn
  obtain ⟨k, hk⟩ := rdInt_spec h hn
  cases hc : Θ.is T (.sl t) with
  | false => rw [hc] at e; cases e
  | true =>
   rw [hc] at e
   simp only [cond_true] at e
   split at e
   ·injection e with e; injection e with e1 e; subst e
    obtain ⟨b1, b2⟩ := inB_true e1
    obtain ⟨cs, h1, h2⟩ := opv_holds h hav
    have hK := M_isK _ rfl h2
    obtain ⟨g, off, c, hv, hk2⟩ := K_elem (n := n.toNat) h1 hK (by have b2' : n < (List.length xs : Int) := b2; show n.toNat < List.length xs; omega)
    refine goes_pureS h (v := .pointer (some ⟨g, off + n.toNat * t.size, none⟩)) (fun w2 => ?_) ⟨[_], by simp [matchV, isAgg], M_of_K (.ptr t) hk2⟩
    simp only [execOp, ho, hv, hk, Sem.run_bind, indexAt_run hT hc b1 b2]
    rfl
   ·rename_i T' tag me j
    split at e
    ·rename_i b hb
     injection e with e; injection e with e1 e; subst e
     obtain ⟨b1, b2⟩ := inB_true e1
     have hat : S.at j = .v ⟨.sl t, .o T' tag me, xs⟩ ex := by simpa [St.opv] using hav
     obtain ⟨r2, ex2, q1, q2, q3⟩ := glance_get hb
     rw [hat] at q1
     injection q1 with q1 q1'
     subst q1 q1'
     have hop := open_of_under q2
     obtain ⟨cs, h1, h2⟩ := opv_holds h hav
     simp only [M] at h2
     rcases h2 with ⟨hne, _⟩ | ⟨hk', _⟩ | ⟨T2, tag2, me2, X, c, e2, rfl, hcc, htag, h2⟩
     ·exact absurd hne hop.not_nil
     ·simp [Md.isK] at hk'
     ·have hv : a.eval (.tmp j) = .slice X xs.length c := by simpa [matchV, isAgg] using h1.symm
      rcases h2 with ⟨rfl, _⟩ | ⟨g, cur, τ, rfl, hg, hw, hsz, hm, hj⟩
      ·simp at b2; omega
      ·have hlt : n.toNat < xs.length := by omega
       have hbound : 0 + n.toNat * t.size + t.size ≤ cur.size := by
        have h1 := Nat.mul_le_mul_right t.size (show n.toNat + 1 ≤ xs.length from hlt)
        have h2 := Nat.mul_le_mul_right t.size hcc
        rw [Nat.add_mul, Nat.one_mul] at h1
        omega
       refine goes_pureS h (v := .pointer (some ⟨g, 0 + n.toNat * t.size, none⟩)) (fun w2 => ?_) ⟨_, [.slice (some ⟨g, 0, none⟩) xs.length c], g, 0 + n.toNat * t.size, ⟨⟨ex, hat, hop⟩, ⟨hlt, trivial⟩, ⟨_, rfl, rfl⟩, h1⟩, ?_, rfl⟩
       ·simp only [execOp, ho, hv, hk, Sem.run_bind, indexAt_run hT hc b1 b2]
        rfl
       ·simp only [addrAt, rowAt_own hw hbound, Option.bind_some]
    ·cases e
   ·cases e
 ·rename_i t s p n hav hn
  obtain ⟨k, hk⟩ := rdInt_spec h hn
  cases hc : Θ.is T (.sl t) with
  | false => rw [hc] at e; cases e
  | true =>
   rw [hc] at e
   simp only [cond_true] at e
   obtain ⟨r, cs0, cs, hr, hcl, hm⟩ := opv_holds h hav
   obtain ⟨ex, b, cs', ow', j1, j2, j3, j4, hM, j5, j6, j7⟩ := ref_focus h hr
   rw [hcl] at j5
   injection j5 with j5
   subst j5
   split at e
   ·rename_i t' xs hgl
    injection e with e; injection e with e1 e; subst e
    obtain ⟨b1, b2⟩ := inB_true e1
    obtain ⟨r2, ex2, q1, q2, q3⟩ := glance_get hgl
    rw [j1] at q1
    injection q1 with q1 q1'
    subst q1 q1'
    rw [j3] at q3
    injection q3 with q3
    subst q3
    injection j4 with j4
    subst j4
    have hK := M_isK _ rfl j7
    obtain ⟨g, off, c, hv, hk2⟩ := K_elem (n := n.toNat) hm hK (by have b2' : n < (List.length xs : Int) := b2; show n.toNat < List.length xs; omega)
    refine goes_pureS h (v := .pointer (some ⟨g, off + n.toNat * Ty.size t', none⟩)) (fun w2 => ?_) ⟨[_], by simp [matchV, isAgg], M_of_K (.ptr _) hk2⟩
    simp only [execOp, ho, hv, hk, Sem.run_bind, indexAt_run hT hc b1 b2]
    rfl
   ·rename_i t' T' tag me xs hgl
    split at e
    ·rename_i b2' hb
     injection e with e; injection e with e1 e; subst e
     obtain ⟨b1, b2⟩ := inB_true e1
     obtain ⟨r2, ex2, q1, q2, q3⟩ := glance_get hgl
     rw [j1] at q1
     injection q1 with q1 q1'
     subst q1 q1'
     rw [j3] at q3
     injection q3 with q3
     subst q3
     injection j4 with j4
     subst j4
     obtain ⟨r3, ex3, p1, p2, p3⟩ := glance_get hb
     rw [j1] at p1
     injection p1 with p1 p1'
     subst p1 p1'
     have hop := open_of_under p2
     simp only [M] at j7
     rcases j7 with ⟨hne, _⟩ | ⟨hk', _⟩ | ⟨T2, tag2, me2, X, c, e2, rfl, hcc, htag, h2⟩
     ·exact absurd hne (open_not_mem hop)
     ·simp [Md.isK] at hk'
     ·have hv : a.eval x = .slice X (List.length xs) c := by simpa [matchV, isAgg] using hm.symm
      rcases h2 with ⟨rfl, _⟩ | ⟨g, cur, τ, rfl, hg, hw, hsz, hm', hj⟩
      ·simp at b2; omega
      ·have hlt : n.toNat < List.length xs := by omega
       have hbound : 0 + n.toNat * Ty.size t' + Ty.size t' ≤ cur.size := by
        have h1 := Nat.mul_le_mul_right (Ty.size t') (show n.toNat + 1 ≤ List.length xs from hlt)
        have h2 := Nat.mul_le_mul_right (Ty.size t') hcc
        rw [Nat.add_mul, Nat.one_mul] at h1
        omega
       refine goes_pureS h (v := .pointer (some ⟨g, 0 + n.toNat * Ty.size t', none⟩)) (fun w2 => ?_) ⟨r, cs0, g, 0 + n.toNat * Ty.size t', ⟨⟨ex, j1, hop⟩, valid_append p _ j3 hr.val ⟨hlt, trivial⟩, ⟨_, by rw [getP_append, j3]; rfl, rfl⟩, hr.mat⟩, ?_, rfl⟩
       ·simp only [execOp, ho, hv, hk, Sem.run_bind, indexAt_run hT hc b1 b2]
        rfl
       ·rw [(cells_append p _ cs0 none j3).2, hcl]
        simp only [Option.bind_some, addrAt, rowAt_own hw hbound]
    ·cases e
   ·cases e
 ·cases e
end Go.Pv
namespace Go.Pv
set_option linter.unusedVariables false
set_option linter.unusedSimpArgs false
variable {P : Program} {w w' : World} {A A' : Nat → Prop} {H : Nat → Value} {tm tm' : Nat → Value} {S S' : St} {σ : Nat → Option Nat} {w0 : World} {W0 Z : Nat → Prop} {a : Act} {own : Nat → Prop} {v : Value} {Θ : Tab} {dst : Option Nat}
theorem bound_run {k : IntKind} {i : Int} {y : Nat} {code : BoundsCode} (h0 : 0 ≤ i) (h1 : i ≤ y) : (Instr.sliceBound (.int k i) y code).run P w = .ok i.toNat w := by
 simp [Instr.sliceBound, asIntOf, h0, h1]
theorem bounds_run {sl : Bool} {len cap : Nat} {lo hi : Option Value} {l h : Int} (hlo : (lo = none ∧ l = 0) ∨ ∃ k, lo = some (.int k l)) (hhi : (hi = none ∧ h = len) ∨ ∃ k, hi = some (.int k h))
  (h0 : 0 ≤ l) (h1 : l ≤ h) (h2 : h ≤ len) (h3 : len ≤ cap) : (Instr.sliceBounds sl len cap lo hi none).run P w = .ok (l.toNat, h.toNat, cap) w := by
 have e1 : ∀ k code, (Instr.sliceBound (.int k l) h.toNat code).run P w = .ok l.toNat w := fun k code => bound_run h0 (by omega)
 have e2 : ∀ k code, (Instr.sliceBound (.int k h) cap code).run P w = .ok h.toNat w := fun k code => bound_run (by omega) (by omega)
 unfold Instr.sliceBounds
 rcases hlo with ⟨rfl, rfl⟩ | ⟨k, rfl⟩ <;> rcases hhi with ⟨rfl, rfl⟩ | ⟨k', rfl⟩
 ·simp
 ·simp [e2]
 ·have e1' : ∀ k code, (Instr.sliceBound (.int k l) len code).run P w = .ok l.toNat w := fun k code => bound_run h0 (by omega)
  simp [e1']
 ·simp [e1, e2]
theorem optInt_spec (h : RelS σ w0 W0 Z H S a w) {x : Option Operand} {d n : Int} (e : optInt Θ S d x = some n) : (x.map a.eval = none ∧ n = d) ∨ ∃ k, x.map a.eval = some (.int k n) := by
 cases x with
 | none => simp only [optInt, Option.some.injEq] at e; exact .inl ⟨rfl, e.symm⟩
 | some x =>
  obtain ⟨k, hk⟩ := rdInt_spec h e
  exact .inr ⟨k, by simp [hk]⟩
theorem slice_ok (hT : tabB P Θ = true) (h : RelS σ w0 W0 Z H S a w) {o : Oper} {T : TypeId} {x : Operand} {lo hi mx : Option Operand} (ho : o.op = .slice T x lo hi mx) (e : evSlice Θ S o.dst T x lo hi mx = some (true, S')) : GoesS P w0 W0 Z H S' a o.dst w (execOp a.eval o) := by
 unfold evSlice at e
 split at e
 ·rename_i av m s l hav hrd hl
  split at e
  ·rename_i hh hhi
   cases hc : Θ.is T .str with
   | false => rw [hc] at e; cases e
   | true =>
    rw [hc] at e
    simp only [cond_true, Option.some.injEq, Prod.mk.injEq, Bool.and_eq_true, decide_eq_true_eq] at e
    obtain ⟨⟨⟨b1, b2⟩, b3⟩, e⟩ := e
    subst e
    obtain ⟨cs, h1, h2, _⟩ := rd_spec h hrd
    have hv := match_str h1 h2
    obtain ⟨i, hi', hty⟩ := is_find hc
    obtain ⟨_, hu, hTi⟩ := tab_ti hT hi'
    have hu' := und_str hu hty
    rw [hTi] at hu'
    refine goes_pureS h (v := .string (s.extract l.toNat hh.toNat)) (fun w2 => ?_) (holds_str _)
    have hb := bounds_run (P := P) (w := w2) (sl := false) (optInt_spec h hl) (optInt_spec h hhi) b1 b2 b3 (Nat.le_refl _)
    simp [execOp, ho, hv, Instr.sliceAt, Instr.slice, run_underlying hu', hb]
  ·cases e
 ·rename_i av t m xs l hav hrd hl
  cases hc : Θ.is T (.sl t) with
  | false => rw [hc] at e; cases e
  | true =>
   rw [hc] at e
   simp only [cond_true] at e
   obtain ⟨i, hi', hty⟩ := is_find hc
   obtain ⟨_, hu, hTi⟩ := tab_ti hT hi'
   obtain ⟨u1, u2, _⟩ := und_sl hu hty
   rw [hTi] at u1
   obtain ⟨inf, q1, q2, _⟩ := size_is hT u2
   obtain ⟨cs, h1, h2, h3⟩ := rd_spec h hrd
   obtain ⟨X, c, hv, hcs, hlc⟩ := match_sl h1 h2
   have run : ∀ (hh : Int), optInt Θ S (xs.length : Int) hi = some hh → mx = none → 0 ≤ l → l ≤ hh → hh ≤ (xs.length : Int) →
     ∀ w2, (execOp a.eval o).run P w2 = .ok (.value (.slice (if c = l.toNat then X else X.map (·.add (l.toNat * t.size))) (hh.toNat - l.toNat) (c - l.toNat))) w2 := by
    intro hh hhi hmx b1 b2 b3 w2
    subst hmx
    have hb := bounds_run (P := P) (w := w2) (sl := true) (optInt_spec h hl) (optInt_spec h hhi) b1 b2 b3 hlc
    simp [execOp, ho, hv, Instr.sliceAt, Instr.slice, run_underlying u1, hb, sizeOf, typeInfo, run_program, q1, q2]
   split at e
   ·rename_i _ hh hhi
    split at e
    ·simp only [Option.some.injEq, Prod.mk.injEq, Bool.and_eq_true, decide_eq_true_eq] at e
     obtain ⟨⟨⟨b1, b2⟩, b3⟩, e⟩ := e
     subst e
     have hK := h3 rfl
     subst hcs
     exact goes_pureS h (run hh hhi rfl b1 b2 b3) ⟨[_], by simp [matchV, isAgg], M_of_K (.sl t) (K_cut hK (by omega) (by omega))⟩
    ·rename_i b ex i _
     simp only [Option.some.injEq, Prod.mk.injEq, Bool.and_eq_true, decide_eq_true_eq] at e
     obtain ⟨⟨⟨b1, b2⟩, b3⟩, e⟩ := e
     subst e
     have hat : S.at i = .v b ex := by simpa [St.opv] using hav
     unfold St.rd at hrd
     rw [hav] at hrd
     cases ex with
     | cons _ _ => simp [St.rdA] at hrd
     | nil =>
      simp only [St.rdA, Option.some.injEq] at hrd
      subst hrd
      subst hcs
      refine goes_pureS h (run hh hhi rfl b1 b2 b3) ⟨_, _, t, X, List.length xs, c, ⟨⟨[], hat, fun q hq => by simp at hq⟩, trivial, ⟨_, rfl, rfl⟩, h1⟩, rfl, rfl, by omega, by omega, rfl⟩
    ·rename_i _ s p hm
     simp only [Option.some.injEq, Prod.mk.injEq, Bool.and_eq_true, decide_eq_true_eq] at e
     obtain ⟨⟨⟨b1, b2⟩, b3⟩, e⟩ := e
     subst e
     obtain ⟨r, cs0, cs', hr, hcl, hmm⟩ := opv_holds h hav
     unfold St.rd at hrd
     rw [hav] at hrd
     simp only [St.rdA] at hrd
     obtain ⟨hbt, _⟩ := place_read h hr hcl hrd
     simp only at hbt
     subst hbt
     obtain rfl := matchV_inj h1 hmm
     subst hcs
     refine goes_pureS h (run hh hhi rfl b1 b2 b3) ⟨r, cs0, t, X, List.length xs, c, hr, rfl, hcl, by omega, by omega, rfl⟩
    ·cases e
   ·rename_i _ hh z ii hhi hfind
    split at e
    ·rename_i c' hx hz
     simp only [Option.some.injEq, Prod.mk.injEq, Bool.and_eq_true, decide_eq_true_eq] at e
     obtain ⟨⟨⟨rfl, rfl⟩, rfl⟩, e⟩ := e
     subst e
     obtain ⟨kz, hkz⟩ := rdInt_spec h hz
     refine goes_pureS h (v := .slice X 0 0) (fun w2 => ?_) ⟨[.slice X 0 0], by simp [matchV, isAgg], ?_⟩
     ·have hl' := optInt_spec h hl
      have hh' := optInt_spec h hhi
      have hb : (Instr.sliceBounds true xs.length c (lo.map a.eval) (some (a.eval hx)) (some (.int kz 0))).run P w2 = .ok (0, 0, 0) w2 := by
       have e0 : ∀ k y code, (Instr.sliceBound (.int k 0) y code).run P w2 = .ok 0 w2 := fun k y code => bound_run (by omega) (by omega)
       have hh2 : ∃ k, a.eval hx = .int k 0 := by
        rcases hh' with ⟨hh', _⟩ | ⟨k, hh'⟩
        ·simp at hh'
        ·exact ⟨k, by simpa using hh'⟩
       obtain ⟨k2, hk2⟩ := hh2
       unfold Instr.sliceBounds
       rcases hl' with ⟨hl', _⟩ | ⟨k1, hl'⟩ <;> rw [hl', hk2] <;> simp [e0]
      simp [execOp, ho, hv, Instr.sliceAt, Instr.slice, run_underlying u1, hkz, hb, sizeOf, typeInfo, run_program, q1, q2]
     ·simp only [M]
      exact .inr (.inr ⟨_, _, _, X, 0, rfl, rfl, Nat.le_refl _, fun h hh => (by cases hh), .inl (by simp)⟩)
    ·cases e
   ·cases e
 ·cases e
end Go.Pv
namespace Go.Pv
set_option linter.unusedVariables false
set_option linter.unusedSimpArgs false
variable {P : Program} {w w' : World} {A A' Wr : Nat → Prop} {H : Nat → Value} {tm tm' : Nat → Value} {S S' S1 : St} {σ : Nat → Option Nat} {w0 : World} {W0 Z : Nat → Prop} {a : Act} {own : Nat → Prop} {v : Value} {Θ : Tab} {dst : Option Nat}
theorem punch : ∀ (p : Path) {t : Ty} {m : Md} {x : t.I} {cs : List Value} {ow : Nat → Prop} {hs : List Path} {b : TV}, M w Wr H t m x cs ow hs → open_ p hs → valid p t x → getP p t m x = some b → b.m.isK = false →
  ∃ cs' ow', cellsAt w p t cs = some cs' ∧ (∀ g, ow' g → ow g) ∧ M w Wr H b.t b.m b.x cs' ow' (subs p hs) ∧ M w Wr H t m x cs (fun g => ow g ∧ ¬ ow' g) (hs ++ [p])
 | [], t, m, x, cs, ow, hs, b, h, ho, hv, hg, hk => by
  simp only [getP, Option.some.injEq] at hg
  subst hg
  refine ⟨cs, ow, rfl, fun _ h => h, h, ?_⟩
  simp only at hk
  have hok := M_ok t h
  cases t <;> simp only [M] at h ⊢ <;> first
   | (rw [hk] at h; exact absurd h.1 (by simp))
   | (exact .inl ⟨by simp, hk, hok⟩)
   | (
     rcases h with ⟨_, _, h⟩ | ⟨hk', _⟩ | ⟨T, tag, me, A, c, _, rfl, _⟩
     ·exact .inl ⟨by simp, hk, h⟩
     ·rw [hk] at hk'; cases hk'
     ·exact .inl ⟨by simp, hk, A, c, rfl⟩)
 | .deref :: p, .ptr t, m, x, cs, ow, hs, b, h, ho, hv, hg, hk => by
  simp only [getP] at hg
  simp only [valid] at hv
  simp only [M] at h
  rcases h with ⟨hn, _⟩ | ⟨hk', h⟩ | ⟨T, tag, me, g, cur, rfl, rfl, ht, hog, hw, h⟩
  ·exact absurd hn ho.not_nil
  ·rw [getP_isK p (inn_isK hk') hg] at hk; cases hk
  ·have hlen := (M_ok t h).1
   obtain ⟨cs', ow', h1, h2, h3, h4⟩ := punch p h ho.sub hv hg hk
   have hsz : 0 + t.size ≤ cur.size := by rw [← hlen]; simp
   refine ⟨cs', ow', ?_, fun g hg => (h2 g hg).1, h3, ?_⟩
   ·simp only [cellsAt, rowAt_own hw hsz, Option.bind_some, List.drop_zero]
    rw [List.take_of_length_le (by omega)]
    exact h1
   ·simp only [M]
    exact .inr (.inr ⟨T, tag, me, g, cur, rfl, rfl, ht, ⟨hog, fun hx => (h2 g hx).2 rfl⟩, hw, M_move (Stays.refl _ _) t (fun _ _ _ => rfl) (fun g' hg' _ => ⟨⟨hg'.1.1, hg'.2⟩, hg'.1.2⟩) (fun q hq => by
     rcases List.mem_append.1 hq with hq | hq
     ·exact mem_sub.2 (List.mem_append_left _ (mem_sub.1 hq))
     ·rw [List.mem_singleton.1 hq]; exact mem_sub.2 (List.mem_append_right _ (by simp))) h4⟩)
 | .fst :: p, .pair a b', m, x, cs, ow, hs, b, h, ho, hv, hg, hk => by
  simp only [getP] at hg
  simp only [valid] at hv
  simp only [M] at h
  rcases h with ⟨hn, _⟩ | ⟨hk', h⟩ | ⟨ma, mb, c0, c1, s, rfl, rfl, h0, h1⟩
  ·exact absurd hn ho.not_nil
  ·rw [getP_isK p (l_isK hk') hg] at hk; cases hk
  ·obtain ⟨cs', ow', k1, k2, k3, k4⟩ := punch p h0 ho.sub hv hg hk
   refine ⟨cs', ow', by simp only [cellsAt]; rw [← (M_ok a h0).1, List.take_left]; exact k1, fun g hg => (k2 g hg).1, k3, ?_⟩
   simp only [M]
   refine .inr (.inr ⟨ma, mb, c0, c1, s, rfl, rfl, M_move (Stays.refl _ _) a (fun _ _ _ => rfl) (fun g' hg' _ => ⟨⟨hg'.1.1, hg'.2⟩, hg'.1.2⟩) (fun q hq => ?_) k4, M_move (Stays.refl _ _) b' (fun _ _ _ => rfl) (fun g' hg' _ => ⟨⟨hg'.1, fun hx => hg'.2 (k2 g' hx).2⟩, hg'.2⟩) (sub_mono (fun q hq => List.mem_append_left _ hq)) h1⟩)
   rcases List.mem_append.1 hq with hq | hq
   ·exact mem_sub.2 (List.mem_append_left _ (mem_sub.1 hq))
   ·rw [List.mem_singleton.1 hq]; exact mem_sub.2 (List.mem_append_right _ (by simp))
 | .snd :: p, .pair a b', m, x, cs, ow, hs, b, h, ho, hv, hg, hk => by
  simp only [getP] at hg
  simp only [valid] at hv
  simp only [M] at h
  rcases h with ⟨hn, _⟩ | ⟨hk', h⟩ | ⟨ma, mb, c0, c1, s, rfl, rfl, h0, h1⟩
  ·exact absurd hn ho.not_nil
  ·rw [getP_isK p (r_isK hk') hg] at hk; cases hk
  ·obtain ⟨cs', ow', k1, k2, k3, k4⟩ := punch p h1 ho.sub hv hg hk
   refine ⟨cs', ow', by simp only [cellsAt]; rw [← (M_ok a h0).1, List.drop_left]; exact k1, fun g hg => (k2 g hg).1, k3, ?_⟩
   simp only [M]
   refine .inr (.inr ⟨ma, mb, c0, c1, s, rfl, rfl, M_move (Stays.refl _ _) a (fun _ _ _ => rfl) (fun g' hg' _ => ⟨⟨hg'.1, fun hx => (k2 g' hx).2 hg'.2⟩, hg'.2⟩) (sub_mono (fun q hq => List.mem_append_left _ hq)) h0, M_move (Stays.refl _ _) b' (fun _ _ _ => rfl) (fun g' hg' _ => ⟨⟨hg'.1.1, hg'.2⟩, hg'.1.2⟩) (fun q hq => ?_) k4⟩)
   rcases List.mem_append.1 hq with hq | hq
   ·exact mem_sub.2 (List.mem_append_left _ (mem_sub.1 hq))
   ·rw [List.mem_singleton.1 hq]; exact mem_sub.2 (List.mem_append_right _ (by simp))
 | .idx i :: p, .sl t, m, xs, cs, ow, hs, b, h, ho, hv, hg, hk => by
  simp only [getP] at hg
  simp only [valid] at hv
  obtain ⟨hi, hv⟩ := hv
  have hget : List.getD xs i t.z = xs[i] := getD_lt _ _ _ hi
  simp only [M] at h
  rcases h with ⟨hn, _⟩ | ⟨hk', h⟩ | ⟨T, tag, me, X, c, rfl, rfl, hc, ht, h⟩
  ·exact absurd hn ho.not_nil
  ·rw [getP_isK p (inn_isK hk') hg] at hk; cases hk
  ·rcases h with ⟨rfl, _⟩ | ⟨g, cur, τ, rfl, hog, hw, hsz, hm, h⟩
   ·simp at hi
   ·have hbound : 0 + i * t.size + t.size ≤ cur.size := by
     have h1 := Nat.mul_le_mul_right t.size (show i + 1 ≤ xs.length from hi)
     have h2 := Nat.mul_le_mul_right t.size hc
     rw [Nat.add_mul, Nat.one_mul] at h1
     omega
    have hM := h i hi
    rw [← hget] at hM
    obtain ⟨cs', ow', h1, h2, h3, h4⟩ := punch p hM ho.sub hv hg hk
    refine ⟨cs', ow', by simp only [cellsAt, rowAt_own hw hbound, Option.bind_some]; rw [Nat.zero_add]; exact h1, fun g hg => (h2 g hg).1, h3, ?_⟩
    simp only [M]
    refine .inr (.inr ⟨T, tag, me, some ⟨g, 0, none⟩, c, rfl, rfl, hc, ht, .inr ⟨g, cur, τ, rfl, ⟨hog, fun hx => (h2 g hx).2.1 rfl⟩, hw, hsz, hm, fun j hj => ?_⟩⟩)
    by_cases hji : j = i
    ·subst hji
     rw [hget] at h4
     refine M_move (Stays.refl _ _) t (fun _ _ _ => rfl) (fun g' hg' _ => ⟨⟨hg'.1.1, hg'.2⟩, hg'.1.2⟩) (fun q hq => ?_) h4
     rcases List.mem_append.1 hq with hq | hq
     ·exact mem_sub.2 (List.mem_append_left _ (mem_sub.1 hq))
     ·rw [List.mem_singleton.1 hq]; exact mem_sub.2 (List.mem_append_right _ (by simp))
    ·exact M_move (Stays.refl _ _) t (fun _ _ _ => rfl) (fun g' hg' _ => ⟨⟨hg'.1, fun hx => hji (by rw [← hg'.2.2]; exact (h2 g' hx).2.2)⟩, hg'.2⟩) (sub_mono (fun q hq => List.mem_append_left _ hq)) (h j hj)
theorem put_same (a : Act) (i : Nat) : a.put (some i) (tmOf a i) = a := by
 unfold Act.put tmOf
 simp only
 have : a.tmps.setIfInBounds i (a.tmps.getD i undef) = a.tmps := by
  apply Array.ext_getElem?
  intro j
  rw [Array.getElem?_setIfInBounds, Array.getD_eq_getD_getElem?]
  by_cases h : i = j
  ·subst h
   by_cases hl : i < a.tmps.size
   ·simp [hl]
   ·simp [hl]
  ·simp [h]
 rw [this]
def park (σ : Nat → Option Nat) (q s : Nat) (g : Nat) : Option Nat := if σ g = some s then some q else σ g
theorem park_Av {σ : Nat → Option Nat} {Z : Nat → Prop} {q s g : Nat} : Av (park σ q s) Z g ↔ Av σ Z g := by
 unfold Av park
 by_cases h : σ g = some s
 ·rw [if_pos h, h]; exact ⟨fun _ => .inl ⟨s, rfl⟩, fun _ => .inl ⟨q, rfl⟩⟩
 ·rw [if_neg h]
structure Took (σ σ1 : Nat → Option Nat) (n : Nat) (ow : Nat → Prop) : Prop where
 was : ∀ g, ow g → ∃ i, i < n ∧ σ g = some i
 now : ∀ g, ow g → ∃ i, n ≤ i ∧ σ1 g = some i
 sub : ∀ g i, σ1 g = some i → i < n → σ g = some i
 dom : ∀ g, (∃ i, σ1 g = some i) ↔ ∃ i, σ g = some i
 par : ∀ g i, σ g = some i → n ≤ i → σ1 g = some i
theorem Took.none (σ : Nat → Option Nat) (n : Nat) : Took σ σ n fun _ => False := ⟨fun _ h => h.elim, fun _ h => h.elim, fun _ _ h _ => h, fun _ => Iff.rfl, fun _ _ h _ => h⟩
theorem Took.park (σ : Nat → Option Nat) {n s : Nat} (hs : s < n) {ow : Nat → Prop} (h : ∀ g, ow g → σ g = some s) : Took σ (park σ n s) n ow := by
 refine ⟨fun g hg => ⟨s, hs, h g hg⟩, fun g hg => ⟨n, Nat.le_refl _, by unfold Go.Pv.park; rw [if_pos (h g hg)]⟩, fun g i hg hi => ?_, fun g => ?_, fun g i hg hi => ?_⟩
 ·unfold Go.Pv.park at hg
  split at hg
  ·injection hg with hg; omega
  ·exact hg
 ·unfold Go.Pv.park
  split
  ·rename_i h; rw [h]; exact ⟨fun _ => ⟨s, rfl⟩, fun _ => ⟨n, rfl⟩⟩
  ·exact Iff.rfl
 ·unfold Go.Pv.park
  rw [if_neg (by rw [hg]; intro e; injection e with e; omega)]
  exact hg
theorem Took.Av {σ σ1 : Nat → Option Nat} {n : Nat} {ow : Nat → Prop} (h : Took σ σ1 n ow) {Z : Nat → Prop} {g : Nat} : Av σ1 Z g ↔ Av σ Z g := by
 unfold Go.Pv.Av
 rw [h.dom g]
theorem at_lt {S : St} {i : Nat} (h : S.at i ≠ .dead) : i < S.length := by
 rcases Nat.lt_or_ge i S.length with hl | hl
 ·exact hl
 ·refine absurd ?_ h
  unfold St.at
  rw [List.getD_eq_getElem?_getD, List.getElem?_eq_none hl]
  rfl
theorem RelS.park (h : RelS σ w0 W0 Z H S a w) (i : Nat) : RelS (park σ S.length i) w0 W0 Z H (S.put (some i) .dead) a w := by
 have hst : Stays w w (Av σ Z) (Av (Go.Pv.park σ S.length i) Z) := ⟨fun _ _ _ => rfl, fun g _ hg => park_Av.1 hg⟩
 have hs : ∀ g j, Go.Pv.park σ S.length i g = some j → ∃ k, σ g = some k := fun g j hg => by
  unfold Go.Pv.park at hg
  split at hg
  ·exact ⟨_, by assumption⟩
  ·exact ⟨_, hg⟩
 have := h.put (dst := some i) (av := .dead) (v := tmOf a i) hst h.fr (fun g j hg => by
  obtain ⟨k, hk⟩ := hs g j hg
  exact ⟨h.new g k hk, h.lt g k hk⟩) (fun g hg => by unfold Go.Pv.park; rw [(h.old g hg).1]; simp) (fun j g _ hd hg => ⟨rfl, by unfold Go.Pv.park; rw [if_neg (by rw [hg]; intro e; exact hd e.symm)]; exact hg⟩) (fun _ _ _ _ => trivial)
 rw [put_same] at this
 exact this
theorem at_cover (S : St) (d : Nat) (p : Path) (i : Nat) : (S.cover d p).at i = match S.at i with
  | .ad t s q => bif Nat.beq s d && under p q then .dead else .ad t s q
  | a => a := at_map S _ rfl i
theorem Ref.re {t : Ty} {s : Nat} {p : Path} {r : TV} {cs0 : List Value} (h : Ref tm S t s p r cs0) (hk : ∀ ex, S.at s = .v r ex → open_ p ex → ∃ ex', S'.at s = .v r ex' ∧ open_ p ex') : Ref tm S' t s p r cs0 := by
 obtain ⟨⟨ex, h1, h2⟩, h3, h4, h5⟩ := h
 exact ⟨hk ex h1 h2, h3, h4, h5⟩
theorem holds_hole {d : Nat} {p : Path} {r : TV} {ex : List Path} (hd : S.at d = .v r ex) (hS : ∀ i r' ex', i ≠ d → S.at i = .v r' ex' → S'.at i = .v r' ex') (hS' : S'.at d = .v r (ex ++ [p])) {own : Nat → Prop} {av : AV} {v : Value}
  (hf : av.frail d = false) (hc : ∀ t q, av = .ad t d q → under p q = false) (h : Holds w A H tm S own av v) (hnv : ∀ b ex, av ≠ .v b ex) (hnt : ∀ l, av ≠ .tup l) : Holds w A H tm S' own av v := by
 have hre : ∀ {t : Ty} {s : Nat} {q : Path} {r' : TV} {cs0 : List Value}, Ref tm S t s q r' cs0 → (s = d → under p q = false) → Ref tm S' t s q r' cs0 := by
  intro t s q r' cs0 hr hu
  refine hr.re (fun ex1 h1 h2 => ?_)
  by_cases hsd : s = d
  ·subst hsd
   rw [hd] at h1
   injection h1 with h1 h1'
   subst h1 h1'
   refine ⟨ex ++ [p], hS', fun q' hq' s' r' e => ?_⟩
   rcases List.mem_append.1 hq' with hq' | hq'
   ·exact h2 q' hq' s' r' e
   ·rw [List.mem_singleton.1 hq'] at e
    have := hu rfl
    rw [e, under_pre] at this
    cases this
  ·exact ⟨ex1, hS s r' ex1 hsd h1, h2⟩
 have hnil : under p [] = false := by cases p <;> rfl
 cases av with
 | dead => trivial
 | undef => exact h
 | v b ex => exact absurd rfl (hnv _ _)
 | tup l => exact absurd rfl (hnt _)
 | al t s q =>
  obtain ⟨r', cs0, cs, h1, h2, h3⟩ := h
  refine ⟨r', cs0, cs, hre h1 (fun e => ?_), h2, h3⟩
  subst e
  cases q with
  | nil => exact hnil
  | cons _ _ => simp [AV.frail] at hf
 | ad t s q =>
  obtain ⟨r', cs0, g, off, h1, h2, h3⟩ := h
  exact ⟨r', cs0, g, off, hre h1 (fun e => by subst e; exact hc _ _ rfl), h2, h3⟩
 | cut t s q lo hi =>
  obtain ⟨r', cs0, t', X, n, c, h1, h2⟩ := h
  refine ⟨r', cs0, t', X, n, c, hre h1 (fun e => ?_), h2⟩
  subst e
  simp [AV.frail] at hf
 | clo f caps =>
  obtain ⟨vs, h1, h2, h3⟩ := h
  refine ⟨vs, h1, h2, fun j c hj => ?_⟩
  obtain ⟨u, k1, k2⟩ := h3 j c hj
  refine ⟨u, k1, ?_⟩
  cases c with
  | kv b => exact k2
  | pl t s q =>
   obtain ⟨r', cs0, cs, l1, l2, l3⟩ := k2
   refine ⟨r', cs0, cs, hre l1 (fun e => ?_), l2, l3⟩
   subst e
   cases q with
   | nil => exact hnil
   | cons a' q' =>
    simp only [AV.frail] at hf
    have hne := List.any_eq_false.1 hf _ (List.mem_of_getElem? hj)
    simp at hne
theorem takeA_spec (h : RelS σ w0 W0 Z H S a w) {T : TypeId} {x : Operand} {av : AV} {b : TV} (ho : S.opv Θ T x = some av) (e : S.takeA x av = some (b, S1)) :
  ∃ σ1 cs ow, RelS σ1 w0 W0 Z H S1 a w ∧ matchV b.t (a.eval x) cs ∧ M w (Av σ Z) H b.t b.m b.x cs ow [] ∧ Took σ σ1 S.length ow ∧ S1.length = S.length := by
 have hh := opv_holds h ho
 cases av with
 | v b0 ex =>
  simp only [St.takeA] at e
  cases hk : b0.m.isK with
  | true =>
   rw [hk] at e
   simp only [cond_true, Option.some.injEq, Prod.mk.injEq] at e
   obtain ⟨rfl, rfl⟩ := e
   obtain ⟨cs, h1, h2⟩ := hh
   exact ⟨σ, cs, fun _ => False, h, h1, K_M hk (M_isK _ hk h2), Took.none _ _, rfl⟩
  | false =>
   rw [hk] at e
   simp only [cond_false] at e
   split at e
   ·rename_i i
    simp only [Option.some.injEq, Prod.mk.injEq] at e
    obtain ⟨rfl, rfl⟩ := e
    obtain ⟨cs, h1, h2⟩ := hh
    refine ⟨_, cs, _, h.park i, h1, h2, Took.park σ (at_lt ?_) (fun g hg => ?_), put_len' _ _ _⟩
    ·simp only [St.opv, Option.some.injEq] at ho
     rw [ho]
     exact fun e => by cases e
    ·obtain ⟨j, hj, hg⟩ := hg
     injection hj with hj
     subst hj
     exact hg
   ·rename_i hx
    simp only [Option.some.injEq, Prod.mk.injEq] at e
    obtain ⟨rfl, rfl⟩ := e
    obtain ⟨cs, h1, h2⟩ := hh
    refine ⟨σ, cs, fun _ => False, h, h1, M_move (Stays.refl _ _) _ (fun _ _ _ => rfl) (fun g hg _ => ?_) (fun _ h => h) h2, Took.none _ _, rfl⟩
    obtain ⟨j, hj, _⟩ := hg
    exact hx j hj
   ·cases e
 | al t s p =>
  simp only [St.takeA] at e
  obtain ⟨r, cs0, cs, hr, hc, hm⟩ := hh
  split at e
  ·rename_i b' hb
   cases hk : b'.m.isK with
   | true =>
    rw [hk] at e
    simp only [cond_true, Option.some.injEq, Prod.mk.injEq] at e
    obtain ⟨rfl, rfl⟩ := e
    obtain ⟨hbt, ow', _, hM⟩ := place_read h hr hc hb
    exact ⟨σ, cs, fun _ => False, h, by rw [hbt]; exact hm, K_M hk (M_isK _ hk hM), Took.none _ _, rfl⟩
   | false =>
    rw [hk] at e
    simp only [cond_false] at e
    cases hp : p with
    | nil =>
     subst hp
     simp only [Option.some.injEq, Prod.mk.injEq] at e
     obtain ⟨rfl, rfl⟩ := e
     obtain ⟨hbt, ow', how, hM⟩ := place_read h hr hc hb
     obtain ⟨ex0, hs0, _⟩ := hr.at_
     exact ⟨_, cs, ow', h.park s, by rw [hbt]; exact hm, hM, Took.park σ (at_lt (by rw [hs0]; exact fun e => by cases e)) how, put_len' _ _ _⟩
    | cons stp pp =>
     rw [hp] at e
     obtain ⟨ex, b2, cs', ow0, j1, j2, j3, j4, hM, j5, j6, j7⟩ := ref_focus h hr
     rw [j1] at e
     simp only [Option.some.injEq, Prod.mk.injEq] at e
     rw [← hp] at e
     obtain ⟨rfl, rfl⟩ := e
     obtain ⟨r3, ex3, q1, q2, q3⟩ := place_glance hb
     rw [j1] at q1
     injection q1 with q1 q1'
     subst q1 q1'
     rw [j3] at q3
     injection q3 with q3
     subst q3
     obtain ⟨cs2, ow', k1, k2, k3, k4⟩ := punch p hM j2 hr.val j3 hk
     rw [hc] at k1
     injection k1 with k1
     subst k1
     rw [subs_of_clash q2] at k3
     -- the ownership without what is taken
     have hsl0 : s < S.length := at_lt (by rw [j1]; exact fun e => by cases e)
     let σ1 : Nat → Option Nat := fun g => open Classical in if ow' g then some S.length else σ g
     have hσ1 : ∀ g i, σ1 g = some i → ∃ k, σ g = some k := by
      intro g i hg
      simp only [σ1] at hg
      split at hg
      ·exact ⟨s, k2 g (by assumption)⟩
      ·exact ⟨i, hg⟩
     have hσ1' : ∀ g i, σ g = some i → ¬ ow' g → σ1 g = some i := by
      intro g i hg hn
      simp only [σ1, if_neg hn, hg]
     have hst : Stays w w (Av σ Z) (Av σ1 Z) := ⟨fun _ _ _ => rfl, fun g _ hg => by
      rcases hg with ⟨i, hg⟩ | hg
      ·exact .inl (hσ1 g i hg)
      ·exact .inr hg⟩
     have htook : Took σ σ1 S.length ow' := by
      refine ⟨fun g hg => ⟨s, hsl0, k2 g hg⟩, fun g hg => ⟨_, Nat.le_refl _, by simp only [σ1, if_pos hg]⟩, fun g i hg hi => ?_, fun g => ⟨fun ⟨i, hg⟩ => hσ1 g i hg, fun ⟨i, hg⟩ => ?_⟩, fun g i hg hi => hσ1' g i hg (fun hx => ?_)⟩
      ·simp only [σ1] at hg
       split at hg
       ·injection hg with hg; omega
       ·exact hg
      ·simp only [σ1]
       split
       ·exact ⟨_, rfl⟩
       ·exact ⟨i, hg⟩
      ·have := k2 g hx
       rw [hg] at this
       injection this with this
       omega
     refine ⟨σ1, cs, ow', ?_, by rw [j4]; exact hm, k3, htook, by simp [St.weaken, St.cover]⟩
     have hlen : ((S.weaken s).cover s p).length = S.length := by simp [St.weaken, St.cover]
     have hsl : s < S.length := by
      rcases Nat.lt_or_ge s S.length with hl | hl
      ·exact hl
      ·unfold St.at at j1
       rw [List.getD_eq_getElem?_getD, List.getElem?_eq_none hl] at j1
       cases j1
     have hatS : St.at (((S.weaken s).cover s p).set s (.v r (ex ++ [p]))) s = .v r (ex ++ [p]) := by rw [at_set, if_pos ⟨rfl, by rw [hlen]; exact hsl⟩]
     have hoth : ∀ i, i ≠ s → St.at (((S.weaken s).cover s p).set s (.v r (ex ++ [p]))) i = (match (bif (S.at i).frail s then AV.dead else S.at i) with
       | .ad t s' q => bif Nat.beq s' s && under p q then .dead else .ad t s' q
       | a => a) := by
      intro i hi
      rw [at_set, if_neg (fun e => hi e.1), at_cover, at_weaken]
     refine ⟨by simp only [List.length_set, hlen]; exact h.len, h.defers, h.fr, fun g i hg => (hσ1 g i hg).elim fun k hk => h.new g k hk, fun g i hg => (hσ1 g i hg).elim fun k hk => h.lt g k hk, fun g hg => ⟨?_, (h.old g hg).2⟩, fun i => ?_⟩
     ·simp only [σ1]
      split
      ·rename_i hx
       have := k2 g hx
       rw [(h.old g hg).1] at this
       cases this
      ·exact (h.old g hg).1
     ·by_cases his : i = s
      ·subst his
       rw [hatS]
       exact ⟨cs0, hr.mat, M_move hst _ (fun _ _ _ => rfl) (fun g hg _ => hσ1' g _ hg.1 hg.2) (fun _ h => h) k4⟩
      ·rw [hoth i his]
       cases hfr : (S.at i).frail s with
       | true => trivial
       | false =>
        simp only [cond_false]
        have hi := h.holds i
        have base : Holds w (Av σ1 Z) H (tmOf a) S (fun g => σ1 g = some i) (S.at i) (tmOf a i) :=
         hi.kept hst (fun g hg _ => ⟨rfl, hσ1' g i hg (fun hx => his (by have := k2 g hx; rw [hg] at this; injection this))⟩) (fun s' _ => ⟨fun _ _ h => h, rfl, _, h.holds s', fun _ _ _ => rfl⟩)
        have hSv : ∀ j r' ex', j ≠ s → S.at j = .v r' ex' → St.at (((S.weaken s).cover s p).set s (.v r (ex ++ [p]))) j = .v r' ex' := by
         intro j r' ex' hj hv
         rw [hoth j hj, hv]
         simp [AV.frail]
        cases hcase : S.at i with
        | v b3 ex3 =>
         rw [hcase] at base
         obtain ⟨c3, l1, l2⟩ := base
         exact ⟨c3, l1, l2⟩
        | tup l =>
         rw [hcase] at base
         exact base
        | ad t' s' q =>
         rw [hcase] at base hfr
         simp only
         cases hcov : (Nat.beq s' s && under p q) with
         | true => trivial
         | false =>
          simp only [cond_false]
          refine holds_hole j1 hSv hatS hfr (fun t2 q2 e2 => ?_) base (fun _ _ e => by cases e) (fun _ e => by cases e)
          injection e2 with _ e3 e4
          subst e3 e4
          simpa using hcov
        | dead => trivial
        | undef => rw [hcase] at base; exact base
        | al t' s' q =>
         rw [hcase] at base hfr
         exact holds_hole j1 hSv hatS hfr (fun t2 q2 e2 => by cases e2) base (fun _ _ e => by cases e) (fun _ e => by cases e)
        | cut t' s' q lo hi' =>
         rw [hcase] at base hfr
         exact holds_hole j1 hSv hatS hfr (fun t2 q2 e2 => by cases e2) base (fun _ _ e => by cases e) (fun _ e => by cases e)
        | clo f caps =>
         rw [hcase] at base hfr
         exact holds_hole j1 hSv hatS hfr (fun t2 q2 e2 => by cases e2) base (fun _ _ e => by cases e) (fun _ e => by cases e)
  ·cases e
 | cut t s p lo hi =>
  cases p with
  | cons _ _ => simp [St.takeA] at e
  | nil =>
   simp only [St.takeA] at e
   obtain ⟨r, cs0, t', X, n, c, hr, rfl, hc, hlo, hhi, hv⟩ := hh
   split at e
   ·rename_i t2 T2 tag me xs hb
    cases hlo0 : Nat.beq lo 0 with
    | false => rw [hlo0] at e; cases e
    | true =>
     rw [hlo0] at e
     have hl0 := Nat.eq_of_beq_eq_true hlo0
     subst hl0
     simp only [cond_true, Option.some.injEq, Prod.mk.injEq] at e
     obtain ⟨rfl, rfl⟩ := e
     obtain ⟨hbt, ow', how, hM⟩ := place_read h hr hc hb
     injection hbt with hbt
     subst hbt
     simp only [M] at hM
     rcases hM with ⟨hn, _⟩ | ⟨hk, _⟩ | ⟨T3, tag3, me3, X3, c3, e3, e4, hcc, htag, hM⟩
     ·simp at hn
     ·simp [Md.isK] at hk
     ·injection e3 with e3 e3' e3''
      subst e3 e3' e3''
      simp only [List.cons.injEq, Value.slice.injEq, and_true] at e4
      obtain ⟨rfl, hn, rfl⟩ := e4
      have hv' : a.eval x = .slice X hi c := by
       rw [hv]
       have : (if c = 0 then X else X.map fun x => x.add (0 * Ty.size t2)) = X := by
        split
        ·rfl
        ·cases X with
         | none => rfl
         | some ad => simp [Addr.add]
       rw [this]
       simp
      have hlen : (List.take hi xs).length = hi := by rw [List.length_take]; omega
      obtain ⟨ex0, hs0, _⟩ := hr.at_
      refine ⟨_, [.slice X hi c], ow', h.park s, by simp [matchV, isAgg, hv'], ?_, Took.park σ (at_lt (by rw [hs0]; exact fun e => by cases e)) how, put_len' _ _ _⟩
      simp only [M]
      refine .inr (.inr ⟨T2, none, me, X, c, rfl, by rw [hlen], by rw [hlen]; omega, fun h hh => (by cases hh), ?_⟩)
      rcases hM with ⟨rfl, rfl⟩ | ⟨g, cur, τ, rfl, hg, hw, hsz, hm, hj⟩
      ·left
       simp
      ·right
       refine ⟨g, cur, τ, rfl, hg, hw, hsz, hm, fun j hj1 => ?_⟩
       rw [hlen] at hj1
       have := hj j (by omega)
       rw [List.getElem_take]
       exact this
   ·cases e
 | _ => simp [St.takeA] at e
noncomputable def grant (σ : Nat → Option Nat) (dst : Option Nat) (ow : Nat → Prop) (g : Nat) : Option Nat := open Classical in if ow g then dst else release σ dst g
theorem RelS.give0 (h : RelS σ w0 W0 Z H S a w) {av : AV} {ow : Nat → Prop} (hsz : w.heap.size ≤ w'.heap.size) (hsame : ∀ g, g < w.heap.size → (∀ i, S.length ≤ i → σ g ≠ some i) → w'.heap[g]? = w.heap[g]?) (hfr : Fr w0 W0 w')
  (how : ∀ g, ow g → g < w'.heap.size ∧ ((∃ i, S.length ≤ i ∧ σ g = some i) ∨ w.heap.size ≤ g))
  (hH : ∀ d, dst = some d → (∀ g, ow g → grant σ dst ow g = some d) → (∀ g, Av (grant σ dst ow) Z g → Av σ Z g ∨ ow g) → Holds w' (Av (grant σ dst ow) Z) H (tmOf (a.put dst v)) (S.put dst av) (fun g => grant σ dst ow g = some d) av v) :
  RelS (grant σ dst ow) w0 W0 Z H (S.put dst av) (a.put dst v) w' := by
 have hw0 : w0.heap.size ≤ w.heap.size := h.fr.size
 have hcase : ∀ g i, grant σ dst ow g = some i → (ow g ∧ dst = some i) ∨ (¬ ow g ∧ σ g = some i ∧ dst ≠ some i) := fun g i hg => by
  unfold grant at hg
  split at hg
  ·exact .inl ⟨by assumption, hg⟩
  ·exact .inr ⟨by assumption, release_some hg⟩
 have hAv : ∀ g, Av (grant σ dst ow) Z g → Av σ Z g ∨ ow g := fun g hg => by
  rcases hg with ⟨i, hg⟩ | hg
  ·rcases hcase g i hg with ⟨h1, _⟩ | ⟨_, h1, _⟩
   ·exact .inr h1
   ·exact .inl (.inl ⟨i, h1⟩)
  ·exact .inl (.inr hg)
 have hst : Stays w w' (Av σ Z) (Av (grant σ dst ow) Z) := ⟨fun g hn hg => hsame g hg (fun i _ hi => hn (.inl ⟨i, hi⟩)), fun g hg hx => by
  rcases hAv g hx with h1 | h1
  ·exact h1
  ·rcases (how g h1).2 with ⟨i, _, hi⟩ | h2
   ·exact .inl ⟨i, hi⟩
   ·omega⟩
 refine h.put hst hfr (fun g i hg => ?_) (fun g hg => ?_) (fun i g hi hd hg => ⟨hsame g (h.lt g i hg) (fun j hj hj2 => by rw [hg] at hj2; injection hj2 with hj2; omega), ?_⟩) (fun d hd hl _ => hH d hd (fun g hg => by unfold grant; rw [if_pos hg]; exact hd) hAv)
 ·rcases hcase g i hg with ⟨h1, _⟩ | ⟨_, h1, _⟩
  ·rcases how g h1 with ⟨h2, ⟨j, _, hj⟩ | h3⟩
   ·exact ⟨h.new g j hj, h2⟩
   ·exact ⟨.inl (by omega), h2⟩
  ·exact ⟨h.new g i h1, by have := h.lt g i h1; omega⟩
 ·obtain ⟨h1, h2⟩ := h.old g hg
  unfold grant
  split
  ·rename_i hx
   rcases (how g hx).2 with ⟨i, _, hi⟩ | h3
   ·rw [h1] at hi; cases hi
   ·omega
  ·unfold release
   split
   ·rfl
   ·exact h1
 ·have hn : ¬ ow g := fun hx => by
   rcases (how g hx).2 with ⟨j, hj, hj2⟩ | h3
   ·rw [hg] at hj2; injection hj2 with hj2; omega
   ·have := h.lt g i hg; omega
  unfold grant
  rw [if_neg hn]
  exact release_keep hd hg
theorem RelS.give' (h : RelS σ w0 W0 Z H S a w) {b : TV} {cs : List Value} {ow : Nat → Prop} {A' : Nat → Prop} (hsz : w.heap.size ≤ w'.heap.size) (hsame : ∀ g, g < w.heap.size → (∀ i, S.length ≤ i → σ g ≠ some i) → w'.heap[g]? = w.heap[g]?) (hfr : Fr w0 W0 w')
  (how : ∀ g, ow g → g < w'.heap.size ∧ ((∃ i, S.length ≤ i ∧ σ g = some i) ∨ w.heap.size ≤ g)) (hA : ∀ g, g < w'.heap.size → Av σ Z g ∨ ow g → A' g)
  (hm : matchV b.t v cs) (hM : M w' A' H b.t b.m b.x cs ow []) :
  RelS (grant σ dst ow) w0 W0 Z H (S.put dst (.v b [])) (a.put dst v) w' :=
 h.give0 hsz hsame hfr how fun d _ h1 h2 => ⟨cs, hm, M_move ⟨fun _ _ _ => rfl, fun g hg hx => hA g hg (h2 g hx)⟩ _ (fun _ _ _ => rfl) (fun g hg _ => h1 g hg) (fun _ h => h) hM⟩
theorem RelS.give (h : RelS σ w0 W0 Z H S a w) {b : TV} {cs : List Value} {ow : Nat → Prop} {A' : Nat → Prop} (hsame : ∀ g, g < w.heap.size → w'.heap[g]? = w.heap[g]?) (hfr : Fr w0 W0 w')
  (how : ∀ g, ow g → g < w'.heap.size ∧ ((∃ i, S.length ≤ i ∧ σ g = some i) ∨ w.heap.size ≤ g)) (hA : ∀ g, g < w'.heap.size → Av σ Z g ∨ ow g → A' g)
  (hm : matchV b.t v cs) (hM : M w' A' H b.t b.m b.x cs ow []) :
  RelS (grant σ dst ow) w0 W0 Z H (S.put dst (.v b [])) (a.put dst v) w' := by
 refine h.give' ?_ (fun g hg _ => hsame g hg) hfr how hA hm hM
 rcases Nat.eq_zero_or_pos w.heap.size with h0 | h0
 ·omega
 ·have := hsame (w.heap.size - 1) (by omega)
  rw [Array.getElem?_eq_getElem (show w.heap.size - 1 < w.heap.size by omega)] at this
  have := lt_of_some this
  omega
end Go.Pv
namespace Go.Pv
set_option linter.unusedVariables false
set_option linter.unusedSimpArgs false
variable {P : Program} {w w' : World} {A A' Wr : Nat → Prop} {H : Nat → Value} {tm tm' : Nat → Value} {S S' S1 : St} {σ σ1 : Nat → Option Nat} {w0 : World} {W0 Z : Nat → Prop} {a : Act} {own : Nat → Prop} {v : Value} {Θ : Tab} {dst : Option Nat}
theorem zread_K : ∀ (t : Ty), zread t = true → K w A t t.z (zc t)
 | .int k, _ => by simp [K, zc, Ty.z]
 | .bool, _ => by simp [K, zc, Ty.z]
 | .str, _ => by simp [K, zc, Ty.z]
 | .unit, _ => by simp [K, zc]
 | .sl t, _ => by simp only [K, zc, Ty.z]; exact ⟨none, 0, rfl, Nat.le_refl _, fun h => absurd h (Nat.lt_irrefl _)⟩
 | .pair a b, h => by
  simp only [zread, Bool.and_eq_true] at h
  simp only [K, zc, Ty.z]
  exact ⟨_, _, rfl, zread_K a h.1, zread_K b h.2⟩
 | .ptr t, h => by simp [zread] at h
 | .arr n t, h => by simp [zread] at h
theorem M_none {t : Ty} {x : t.I} {m : Md} {cs : List Value} {ow : Nat → Prop} (h : M w A H t m x cs (fun _ => False) []) : M w A H t m x cs ow [] := M_move (Stays.refl _ _) t (fun _ _ _ => rfl) (fun _ h _ => h.elim) (fun _ h => h) h
theorem zfit_M : ∀ (t : Ty) {m : Md}, zfit t m = true → M w A H t m t.z (zc t) (fun _ => False) []
 | .pair a b, .p ma mb, h => by
  simp only [zfit, Bool.or_eq_true, Bool.and_eq_true] at h
  rcases h with h | h
  ·simp only [M]
   exact .inr (.inr ⟨ma, mb, zc a, zc b, fun _ => True, rfl, rfl, M_none (zfit_M a h.1), M_none (zfit_M b h.2)⟩)
  ·exact K_M (by simp [Md.isK, h.1.1.1, h.1.1.2]) (by simp only [K, zc, Ty.z]; exact ⟨_, _, rfl, zread_K a h.1.2, zread_K b h.2⟩)
 | .sl t, .o T none me, _ => by
  simp only [M]
  exact .inr (.inr ⟨T, none, me, none, 0, rfl, rfl, Nat.le_refl _, fun h hh => (by cases hh), .inl ⟨rfl, rfl⟩⟩)
 | .pair a b, .k, h => by
  simp only [zfit, Bool.and_eq_true] at h
  exact K_M h.1 (zread_K _ h.2)
 | .pair a b, .o .., h => by simp [zfit, Md.isK] at h
 | .sl t, .k, h => by
  simp only [zfit, Bool.and_eq_true] at h
  exact K_M h.1 (zread_K _ h.2)
 | .sl t, .o _ (some _) _, h => by simp [zfit, Md.isK] at h
 | .sl t, .p a b, h => by
  simp only [zfit, Bool.and_eq_true] at h
  exact K_M h.1 (zread_K _ h.2)
 | .int k, m, h => by
  have h : (m.isK && zread (.int k)) = true := by cases m <;> exact h
  simp only [Bool.and_eq_true] at h
  exact K_M h.1 (zread_K _ h.2)
 | .bool, m, h => by
  have h : (m.isK && zread .bool) = true := by cases m <;> exact h
  simp only [Bool.and_eq_true] at h
  exact K_M h.1 (zread_K _ h.2)
 | .str, m, h => by
  have h : (m.isK && zread .str) = true := by cases m <;> exact h
  simp only [Bool.and_eq_true] at h
  exact K_M h.1 (zread_K _ h.2)
 | .unit, m, h => by
  have h : (m.isK && zread .unit) = true := by cases m <;> exact h
  simp only [Bool.and_eq_true] at h
  exact K_M h.1 (zread_K _ h.2)
 | .ptr t, m, h => by
  have h : (m.isK && zread (.ptr t)) = true := by cases m <;> exact h
  simp [zread] at h
 | .arr n t, m, h => by
  have h : (m.isK && zread (.arr n t)) = true := by cases m <;> exact h
  simp [zread] at h
theorem zero_spec (hT : tabB P Θ = true) {T : TypeId} {z : TV} (h : zeroTV Θ T = some z) :
  ∃ i inf zv, Θ.find T = some i ∧ i.ty = z.t ∧ z.x = z.t.z ∧ zfit z.t z.m = true ∧ P.info? T = some inf ∧ inf.size = z.t.size ∧ inf.zero = some zv ∧ matchV z.t zv (zc z.t) ∧ inf.bytes ≤ 32 * z.t.size ∧ inf.bytes ≤ 256 := by
 unfold zeroTV at h
 split at h
 ·rename_i i hi
  cases hz : zfit i.ty (zmode Θ 9 T) with
  | false => rw [hz] at h; cases h
  | true =>
   rw [hz] at h
   simp only [cond_true, Option.some.injEq] at h
   subst h
   obtain ⟨⟨_, inf, zv, h1, h2, h3, h4, h5, h6, h7⟩, _, rfl⟩ := tab_ti hT hi
   exact ⟨i, inf, zv, hi, rfl, rfl, hz, h1, h2, h6, h7, h3, h4⟩
 ·cases h
theorem Fr.alloc (h : Fr w0 W0 w) (o : Obj) : Fr w0 W0 (w.alloc o) := by
 refine ⟨h.os, h.tape, h.output, ?_, fun g hg hn => ?_⟩
 ·have := h.size
  simp only [World.alloc, Array.size_push]; omega
 ·rw [heap_alloc_old w o g (by have := h.size; omega)]
  exact h.block g hg hn
theorem tail_match {t : Ty} {v : Value} {cs : List Value} (h : matchV t v cs) (h1 : ∀ u ∈ cs, u.oneCell' = true) : v.cells = cs.toArray := by
 have := matchV_cells h h1
 rw [← this]
theorem box_spec {t : Ty} {m : Md} {x : t.I} {cs : List Value} {ow : Nat → Prop} (T : TypeId) (hM : M w A H t m x cs ow []) (hlt : ∀ g, ow g → g < w.heap.size) :
  M (w.alloc (.cells cs.toArray T)) (fun g => A g ∨ w.heap.size ≤ g) H (.ptr t) (.o T none m) x [.pointer (some ⟨w.heap.size, 0, none⟩)] (fun g => ow g ∨ g = w.heap.size) [] := by
 simp only [M]
 refine .inr (.inr ⟨T, none, m, w.heap.size, cs.toArray, rfl, rfl, fun h hh => (by cases hh), .inr rfl, heap_alloc_new w _, ?_⟩)
 refine M_move (w := w) ⟨fun g _ hg => heap_alloc_old w _ g hg, fun g hg hx => ?_⟩ t (fun g hg hl => heap_alloc_old w _ g hl) (fun g hg hl => ⟨.inl hg, by omega⟩) (fun _ h => (by simp at h)) hM
 rcases hx with hx | hx
 ·exact hx
 ·omega
def GoesX (P : Program) (w0 : World) (W0 Z : Nat → Prop) (H : Nat → Value) (S' : St) (a : Act) (dst : Option Nat) (w : World) (s : Sem Next) : Prop :=
 ∃ w' v, s.run P w = .ok (.value v) w' ∧ Ext w w' ∧ Rel w0 W0 Z H S' (a.put dst v) w'
theorem GoesX.goes {s : Sem Next} (h : GoesX P w0 W0 Z H S' a dst w s) : Goes P w0 W0 Z H S' a dst w s := by
 obtain ⟨w', v, h1, _, h2⟩ := h
 exact ⟨w', v, .inl h1, h2⟩
theorem GoesQ.adds {s : Sem Next} (h : GoesQ P w0 W0 Z H S' a dst w s) : GoesX P w0 W0 Z H S' a dst w s := by
 obtain ⟨v, h1, h2⟩ := h
 exact ⟨w, v, h1 w (Ext.refl w), Ext.refl w, h2⟩
theorem alloc_ok (hT : tabB P Θ = true) (h : RelS σ w0 W0 Z H S a w) {hn : Hn} {o : Oper} {T : TypeId} (ho : o.op = .alloc T) (e : evAlloc Θ hn S o.dst T = some (true, S')) : GoesX P w0 W0 Z H S' a o.dst w (execOp a.eval o) := by
 unfold evAlloc at e
 split at e
 ·rename_i z hz
  cases hf : zfit z.t (hn.find o.dst z.m) with
  | false => rw [hf] at e; cases e
  | true =>
   rw [hf] at e
   simp only [cond_true, Option.some.injEq, Prod.mk.injEq, true_and] at e
   subst e
   obtain ⟨i, inf, zv, _, _, _, _, h1, h2, h3, h4, _⟩ := zero_spec hT hz
   have hM : M w (Av σ Z) H z.t (hn.find o.dst z.m) z.t.z (zc z.t) (fun _ => False) [] := zfit_M z.t hf
   have hbox := box_spec T hM (fun _ h => h.elim)
   refine ⟨w.alloc (.cells (zc z.t).toArray T), .pointer (some ⟨w.heap.size, 0, none⟩), ?_, fun g hg => heap_alloc_old w _ g hg, _, h.give (b := ⟨.ptr z.t, .o T none (hn.find o.dst z.m), z.t.z⟩) (cs := [.pointer (some ⟨w.heap.size, 0, none⟩)]) (fun g hg => heap_alloc_old w _ g hg) (h.fr.alloc _) (fun g hg => ?_) (fun g hg hx => ?_) (by simp [matchV, isAgg]) hbox⟩
   ·simp [execOp, ho, Instr.alloc, zeroValue, typeInfo, h1, h3, newVar, newRow, tail_match h4 (M_ok _ hM).2]
   ·rcases hg with hg | rfl
    ·exact hg.elim
    ·exact ⟨by simp only [World.alloc, Array.size_push]; omega, .inr (Nat.le_refl _)⟩
   ·rcases hx with hx | hx | rfl
    ·exact .inl hx
    ·exact hx.elim
    ·exact .inr (Nat.le_refl _)
 ·cases e
theorem goes_took {b : TV} {cs : List Value} {ow : Nat → Prop} {s : Sem Next} {n : Nat} (h : RelS σ1 w0 W0 Z H S1 a w) (hk : Took σ σ1 n ow) (hn : S1.length = n) (hr : ∀ w2, Ext w w2 → s.run P w2 = .ok (.value v) w2) (hm : matchV b.t v cs) (hM : M w (Av σ Z) H b.t b.m b.x cs ow []) :
  GoesQ P w0 W0 Z H (S1.put dst (.v b [])) a dst w s := by
 refine ⟨v, hr, _, h.give (b := b) (cs := cs) (fun _ _ => rfl) h.fr (fun g hg => ?_) (fun g hg hx => ?_) hm hM⟩
 ·obtain ⟨i, hi, hg'⟩ := hk.now g hg
  exact ⟨h.lt g i hg', .inl ⟨i, by omega, hg'⟩⟩
 ·rcases hx with hx | hx
  ·exact hk.Av.1 hx
  ·obtain ⟨i, hi, hg'⟩ := hk.was g hx
   exact .inl ⟨i, hg'⟩
theorem box_ok (hT : tabB P Θ = true) (h : RelS σ w0 W0 Z H S a w) {o : Oper} {T : TypeId} {x : Operand} (ho : o.op = .box T x) (e : evBox Θ S o.dst T x = some (true, S')) : GoesX P w0 W0 Z H S' a o.dst w (execOp a.eval o) := by
 unfold evBox St.take at e
 split at e
 ·rename_i b S1 hb
  split at hb
  ·rename_i av hav
   obtain ⟨σ1, cs, ow, h1, hm, hM, hk, hn⟩ := takeA_spec h hav hb
   cases hc : Θ.is T b.t with
   | false => rw [hc] at e; cases e
   | true =>
    rw [hc] at e
    simp only [cond_true, Option.some.injEq, Prod.mk.injEq, true_and] at e
    subst e
    have hlt : ∀ g, ow g → g < w.heap.size := fun g hg => by
     obtain ⟨i, _, hi⟩ := hk.was g hg
     exact h.lt g i hi
    have hbox := box_spec T hM hlt
    refine ⟨w.alloc (.cells cs.toArray T), .pointer (some ⟨w.heap.size, 0, none⟩), ?_, fun g hg => heap_alloc_old w _ g hg, _, h1.give (b := ⟨.ptr b.t, .o T none b.m, b.x⟩) (cs := [.pointer (some ⟨w.heap.size, 0, none⟩)]) (fun g hg => heap_alloc_old w _ g hg) (h1.fr.alloc _) (fun g hg => ?_) (fun g hg hx => ?_) (by simp [matchV, isAgg]) hbox⟩
    ·simp [execOp, ho, Instr.box, newVar, newRow, tail_match hm (M_ok _ hM).2]
    ·rcases hg with hg | rfl
     ·obtain ⟨i, hi, hg'⟩ := hk.now g hg
      have := hlt g hg
      exact ⟨by simp only [World.alloc, Array.size_push]; omega, .inl ⟨i, by omega, hg'⟩⟩
     ·exact ⟨by simp only [World.alloc, Array.size_push]; omega, .inr (Nat.le_refl _)⟩
    ·rcases hx with hx | hx | rfl
     ·exact .inl (hk.Av.1 hx)
     ·obtain ⟨i, _, hi⟩ := hk.was g hx
      exact .inl (.inl ⟨i, hi⟩)
     ·exact .inr (Nat.le_refl _)
  ·cases hb
 ·cases e
theorem GoesQ.still {s : Sem Next} (hr : ∀ w2, s.run P w2 = .ok (.value v) w2) (h : GoesQ P w0 W0 Z H S' a dst w s) : GoesS P w0 W0 Z H S' a dst w s := by
 obtain ⟨v', h1, h2⟩ := h
 have := (h1 w (Ext.refl w)).symm.trans (hr w)
 injection this with this
 injection this with this
 subst this
 exact ⟨_, hr, h2⟩
end Go.Pv
namespace Go.Pv
set_option linter.unusedVariables false
set_option linter.unusedSimpArgs false
variable {P : Program} {w w' : World} {A A' Wr : Nat → Prop} {H : Nat → Value} {tm tm' : Nat → Value} {S S' S1 : St} {σ σ1 : Nat → Option Nat} {w0 : World} {W0 Z : Nat → Prop} {a : Act} {own : Nat → Prop} {v : Value} {Θ : Tab} {dst : Option Nat}
theorem setP_ty : ∀ (p : Path) {t : Ty} {m : Md} {x : t.I} {b b0 : TV} {r : Md × t.I}, setP b p t m x = some r → getP p t m x = some b0 → b.t = b0.t
 | [], t, m, x, b, b0, r, h, hg => by
  simp only [getP, Option.some.injEq] at hg
  subst hg
  simp only [setP] at h
  split at h
  ·assumption
  ·cases h
 | .deref :: p, .ptr t, .o T tag me, x, b, b0, r, h, hg => by
  simp only [setP] at h
  simp only [getP] at hg
  split at h
  ·rename_i r1 h1
   exact setP_ty p h1 hg
  ·cases h
 | .fst :: p, .pair t u, m, x, b, b0, r, h, hg => by
  simp only [setP] at h
  simp only [getP] at hg
  split at h
  ·rename_i r1 h1
   exact setP_ty p h1 hg
  ·cases h
 | .snd :: p, .pair t u, m, x, b, b0, r, h, hg => by
  simp only [setP] at h
  simp only [getP] at hg
  split at h
  ·rename_i r1 h1
   exact setP_ty p h1 hg
  ·cases h
 | .idx i :: p, .sl t, .o T tag me, xs, b, b0, r, h, hg => by
  obtain ⟨r1, h1, _⟩ := setP_idx h
  simp only [getP] at hg
  exact setP_ty p h1 hg
theorem memless_valid2 : ∀ (q : Path) {t : Ty} {x y : t.I}, memless q = true → valid q t x → valid q t y
 | [], _, _, _, _, _ => trivial
 | .fst :: q, .pair a b, x, y, h, hv => by
  simp only [valid] at hv ⊢
  exact memless_valid2 q (by simpa [memless] using h) hv
 | .snd :: q, .pair a b, x, y, h, hv => by
  simp only [valid] at hv ⊢
  exact memless_valid2 q (by simpa [memless] using h) hv
theorem depth_memless : ∀ (q : Path), depth q = 0 → memless q = true
 | [], _ => rfl
 | .fst :: q, h => by simp only [memless]; exact depth_memless q (by simpa [depth] using h)
 | .snd :: q, h => by simp only [memless]; exact depth_memless q (by simpa [depth] using h)
 | .deref :: q, h => by simp [depth] at h
 | .idx i :: q, h => by simp [depth] at h
theorem memless_addr_eq : ∀ (q : Path) {t : Ty} {cs cs' : List Value} {l : Option (Nat × Nat)}, memless q = true → addrAt w q t cs l = addrAt w' q t cs' l
 | [], _, _, _, _, _ => rfl
 | .fst :: q, .pair a b, cs, cs', l, h => by
  simp only [addrAt]
  exact memless_addr_eq q (by simpa [memless] using h)
 | .snd :: q, .pair a b, cs, cs', l, h => by
  simp only [addrAt]
  exact memless_addr_eq q (by simpa [memless] using h)
 | .fst :: q, .int _, _, _, _, _ => by simp [addrAt]
 | .fst :: q, .bool, _, _, _, _ => by simp [addrAt]
 | .fst :: q, .str, _, _, _, _ => by simp [addrAt]
 | .fst :: q, .sl _, _, _, _, _ => by simp [addrAt]
 | .fst :: q, .ptr _, _, _, _, _ => by simp [addrAt]
 | .fst :: q, .unit, _, _, _, _ => by simp [addrAt]
 | .fst :: q, .arr _ _, _, _, _, _ => by simp [addrAt]
 | .snd :: q, .int _, _, _, _, _ => by simp [addrAt]
 | .snd :: q, .bool, _, _, _, _ => by simp [addrAt]
 | .snd :: q, .str, _, _, _, _ => by simp [addrAt]
 | .snd :: q, .sl _, _, _, _, _ => by simp [addrAt]
 | .snd :: q, .ptr _, _, _, _, _ => by simp [addrAt]
 | .snd :: q, .unit, _, _, _, _ => by simp [addrAt]
 | .snd :: q, .arr _ _, _, _, _, _ => by simp [addrAt]
theorem setP_valid : ∀ (q p : Path) {t : Ty} {m : Md} {x : t.I} {b : TV} {r : Md × t.I}, setP b p t m x = some r → memless p = false → depth q ≤ 1 → valid q t x → valid q t r.2
 | [], _, _, _, _, _, _, _, _, _, _ => trivial
 | .deref :: q, p, .ptr t, m, x, b, r, h, hp, hd, hv => by
  simp only [valid] at hv ⊢
  exact memless_valid2 q (depth_memless q (by simp [depth] at hd; omega)) hv
 | .idx i :: q, p, .sl t, m, xs, b, r, h, hp, hd, hv => by
  simp only [valid] at hv ⊢
  refine ⟨?_, memless_valid2 q (depth_memless q (by simp [depth] at hd; omega)) hv.2⟩
  cases p with
  | nil => simp [memless] at hp
  | cons s p =>
   cases s <;> cases m <;> simp [setP] at h
   rename_i j T tag me
   have h' : setP b (.idx j :: p) (.sl t) (.o T tag me) xs = some r := by simp only [setP]; exact h
   obtain ⟨r1, _, _, rfl⟩ := setP_idx h'
   simpa using hv.1
 | .fst :: q, p, .pair t u, m, x, b, r, h, hp, hd, hv => by
  simp only [valid] at hv ⊢
  cases p with
  | nil => simp [memless] at hp
  | cons s p =>
   cases s <;> simp only [setP, reduceCtorEq] at h
   ·split at h
    ·rename_i r1 h1
     injection h with h
     subst h
     exact setP_valid q p h1 (by simpa [memless] using hp) (by simpa [depth] using hd) hv
    ·cases h
   ·split at h
    ·rename_i r1 h1
     injection h with h
     subst h
     exact hv
    ·cases h
 | .snd :: q, p, .pair t u, m, x, b, r, h, hp, hd, hv => by
  simp only [valid] at hv ⊢
  cases p with
  | nil => simp [memless] at hp
  | cons s p =>
   cases s <;> simp only [setP, reduceCtorEq] at h
   ·split at h
    ·rename_i r1 h1
     injection h with h
     subst h
     exact hv
    ·cases h
   ·split at h
    ·rename_i r1 h1
     injection h with h
     subst h
     exact setP_valid q p h1 (by simpa [memless] using hp) (by simpa [depth] using hd) hv
    ·cases h
theorem addr_once : ∀ (q : Path) {t : Ty} {m : Md} {x : t.I} {cs : List Value} {ow : Nat → Prop} {hs : List Path} {l : Option (Nat × Nat)} {g : Nat × Nat},
  M w' A' H t m x cs ow hs → open_ q hs → valid q t x → depth q ≤ 1 → addrAt w q t cs l = some g → addrAt w' q t cs l = some g
 | [], _, _, _, _, _, _, _, _, _, _, _, _, e => e
 | .deref :: q, .ptr t, m, x, cs, ow, hs, l, g0, h, ho, hv, hd, e => by
  have hq : memless q = true := depth_memless q (by simp [depth] at hd; omega)
  simp only [M] at h
  rcases h with ⟨hn, _⟩ | ⟨hk, h⟩ | ⟨T, tag, me, g, cur, rfl, rfl, ht, hog, hw, h⟩
  ·exact absurd hn ho.not_nil
  ·simp only [K] at h
   obtain ⟨g, off, cur, T, fr, rfl, hng, hw, hl, h⟩ := h
   simp only [addrAt, rowAt_own hw hl, Option.bind_some] at e ⊢
   cases hr : rowAt w g off t.size with
   | none => rw [hr] at e; cases e
   | some row =>
    rw [hr, Option.bind_some] at e
    rw [← e]
    exact memless_addr_eq q hq
  ·have hsz : 0 + t.size ≤ cur.size := by rw [← (M_ok t h).1]; simp
   simp only [addrAt, rowAt_own hw hsz, Option.bind_some] at e ⊢
   cases hr : rowAt w g 0 t.size with
   | none => rw [hr] at e; cases e
   | some row =>
    rw [hr, Option.bind_some] at e
    rw [← e]
    exact memless_addr_eq q hq
 | .fst :: q, .pair a b', m, x, cs, ow, hs, l, g0, h, ho, hv, hd, e => by
  simp only [valid] at hv
  simp only [M] at h
  simp only [addrAt] at e ⊢
  rcases h with ⟨hn, _⟩ | ⟨hk, h⟩ | ⟨ma, mb, c0, c1, s, rfl, rfl, h0, h1⟩
  ·exact absurd hn ho.not_nil
  ·simp only [K] at h
   obtain ⟨c0, c1, rfl, h0, h1⟩ := h
   rw [← (K_ok a h0).1, List.take_left] at e ⊢
   exact addr_once q (M_of_K (H := H) (ow := fun _ => False) (hs := sub .fst hs) a h0) ho.sub hv (by simpa [depth] using hd) e
  ·rw [← (M_ok a h0).1, List.take_left] at e ⊢
   exact addr_once q h0 ho.sub hv (by simpa [depth] using hd) e
 | .snd :: q, .pair a b', m, x, cs, ow, hs, l, g0, h, ho, hv, hd, e => by
  simp only [valid] at hv
  simp only [M] at h
  simp only [addrAt] at e ⊢
  rcases h with ⟨hn, _⟩ | ⟨hk, h⟩ | ⟨ma, mb, c0, c1, s, rfl, rfl, h0, h1⟩
  ·exact absurd hn ho.not_nil
  ·simp only [K] at h
   obtain ⟨c0, c1, rfl, h0, h1⟩ := h
   rw [← (K_ok a h0).1, List.drop_left] at e ⊢
   exact addr_once q (M_of_K (H := H) (ow := fun _ => False) (hs := sub .snd hs) b' h1) ho.sub hv (by simpa [depth] using hd) e
  ·rw [← (M_ok a h0).1, List.drop_left] at e ⊢
   exact addr_once q h1 ho.sub hv (by simpa [depth] using hd) e
 | .idx i :: q, .sl t, m, xs, cs, ow, hs, l, g0, h, ho, hv, hd, e => by
  have hq : memless q = true := depth_memless q (by simp [depth] at hd; omega)
  simp only [valid] at hv
  obtain ⟨hi, hv⟩ := hv
  simp only [M] at h
  rcases h with ⟨hn, _⟩ | ⟨hk, h⟩ | ⟨T, tag, me, X, c, rfl, rfl, hc, ht, h⟩
  ·exact absurd hn ho.not_nil
  ·simp only [K] at h
   obtain ⟨X, c, rfl, hc, h⟩ := h
   obtain ⟨g, off, cur, T, fr, rfl, hng, hw, hl, h⟩ := h (by omega)
   have hbound : off + i * t.size + t.size ≤ cur.size := by
    have := Nat.mul_le_mul_right t.size (show i + 1 ≤ xs.length from hi)
    rw [Nat.add_mul, Nat.one_mul] at this
    omega
   simp only [addrAt, rowAt_own hw hbound, Option.bind_some] at e ⊢
   cases hr : rowAt w g (off + i * t.size) t.size with
   | none => rw [hr] at e; cases e
   | some row =>
    rw [hr, Option.bind_some] at e
    rw [← e]
    exact memless_addr_eq q hq
  ·rcases h with ⟨rfl, _⟩ | ⟨g, cur, τ, rfl, hog, hw, hsz, hm, h⟩
   ·simp at hi
   ·have hbound : 0 + i * t.size + t.size ≤ cur.size := by
     have h1 := Nat.mul_le_mul_right t.size (show i + 1 ≤ xs.length from hi)
     have h2 := Nat.mul_le_mul_right t.size hc
     rw [Nat.add_mul, Nat.one_mul] at h1
     omega
    simp only [addrAt, rowAt_own hw hbound, Option.bind_some] at e ⊢
    cases hr : rowAt w g (0 + i * t.size) t.size with
    | none => rw [hr] at e; cases e
    | some row =>
     rw [hr, Option.bind_some] at e
     rw [← e]
     exact memless_addr_eq q hq
theorem setP_get : ∀ (q p : Path) {t : Ty} {m : Md} {x : t.I} {b b1 : TV} {r : Md × t.I}, setP b p t m x = some r → getP q t m x = some b1 → ∀ m', ∃ b2, getP q t m' r.2 = some b2 ∧ b2.t = b1.t := by
 have key : ∀ (q : Path) {t : Ty} {m m' : Md} {x y : t.I} {b1 : TV}, getP q t m x = some b1 → ∃ b2, getP q t m' y = some b2 ∧ b2.t = b1.t := by
  intro q
  induction q with
  | nil => intro t m m' x y b1 h; simp only [getP, Option.some.injEq] at h; subst h; exact ⟨_, rfl, rfl⟩
  | cons s q ih =>
   intro t m m' x y b1 h
   cases s <;> cases t <;> simp only [getP, reduceCtorEq] at h ⊢
   all_goals exact ih h
 intro q p t m x b b1 r _ h m'
 exact key q h
theorem holds_written (hst : Stays w w' A A') {d : Nat} {r r' : TV} {ex ex' : List Path} (hrt : r'.t = r.t) (hd : S.at d = .v r ex) (hd' : S'.at d = .v r' ex') (hS : ∀ i r1 ex1, i ≠ d → S.at i = .v r1 ex1 → S'.at i = .v r1 ex1)
  (hM : ∃ cs0 own', matchV r.t (tm d) cs0 ∧ M w' A' H r'.t r'.m r'.x cs0 own' ex') (hex : ∀ q ∈ ex', q ∈ ex)
  (hval : ∀ q, depth q ≤ 1 → valid q r.t r.x → valid q r'.t r'.x) (hget : ∀ q b1, getP q r.t r.m r.x = some b1 → ∃ b2, getP q r'.t r'.m r'.x = some b2 ∧ b2.t = b1.t)
  (hk : ∀ s, s ≠ d → ∃ own, Holds w A H tm S own (S.at s) (tm s) ∧ ∀ g, own g → g < w.heap.size → w'.heap[g]? = w.heap[g]?)
  {own own' : Nat → Prop} (hown : ∀ g, own g → g < w.heap.size → w'.heap[g]? = w.heap[g]? ∧ own' g) {av : AV} {v : Value} (hf : av.frail d = false) (h : Holds w A H tm S own av v) : Holds w' A' H tm S' own' av v := by
 have hkept : ∀ s, s ≠ d → Kept w w' A H tm tm S S' s := fun s hs => ⟨fun r1 ex1 => hS s r1 ex1 hs, rfl, hk s hs⟩
 have href : ∀ {t : Ty} {q : Path} {r1 : TV} {cs0 : List Value}, depth q ≤ 1 → Ref tm S t d q r1 cs0 → r1 = r ∧ Ref tm S' t d q r' cs0 := by
  intro t q r1 cs0 hq hr
  obtain ⟨⟨ex1, h1, h2⟩, h3, ⟨b1, h4, h5⟩, h6⟩ := hr
  rw [hd] at h1
  injection h1 with h1 h1'
  subst h1 h1'
  obtain ⟨b2, k1, k2⟩ := hget q b1 h4
  exact ⟨rfl, ⟨ex', hd', fun p hp => h2 p (hex p hp)⟩, hval q hq h3, ⟨b2, k1, k2.trans h5⟩, by rw [hrt]; exact h6⟩
 cases av with
 | dead => trivial
 | undef => exact h
 | v b ex1 =>
  obtain ⟨cs, h1, h2⟩ := h
  exact ⟨cs, h1, M_move hst _ (fun g hg hl => (hown g hg hl).1) (fun g hg hl => (hown g hg hl).2) (fun _ h => h) h2⟩
 | tup l =>
  obtain ⟨vs, τ, h1, h2, h3⟩ := h
  refine ⟨vs, τ, h1, h2, fun j b hj => ?_⟩
  obtain ⟨u, cs, k1, k2, k3⟩ := h3 j b hj
  exact ⟨u, cs, k1, k2, M_move hst _ (fun g hg hl => (hown g hg.1 hl).1) (fun g hg hl => ⟨(hown g hg.1 hl).2, hg.2⟩) (fun _ h => h) k3⟩
 | al t s p =>
  obtain ⟨r1, cs0, cs, hr, hc, hm⟩ := h
  by_cases hsd : s = d
  ·subst hsd
   cases p with
   | cons _ _ => simp [AV.frail] at hf
   | nil =>
    obtain ⟨rfl, hr'⟩ := href (by simp [depth]) hr
    exact ⟨r', cs0, cs, hr', hc, hm⟩
  ·obtain ⟨h1, h2⟩ := hr.kept hst (hkept s hsd)
   exact ⟨r1, cs0, cs, h1, by rw [(h2 none).1]; exact hc, hm⟩
 | ad t s p =>
  obtain ⟨r1, cs0, g, off, hr, hc, hm⟩ := h
  by_cases hsd : s = d
  ·subst hsd
   have hdep : depth p ≤ 1 := by
    simp only [AV.frail, Nat.beq_refl, Bool.true_and] at hf
    have : ¬ 2 ≤ depth p := fun h2 => by rw [Nat.ble_eq_true_of_le h2] at hf; cases hf
    omega
   obtain ⟨rfl, hr'⟩ := href hdep hr
   obtain ⟨cs1, own1, m1, m2⟩ := hM
   obtain rfl := matchV_inj m1 hr.mat
   obtain ⟨ex1, e1, e2⟩ := hr'.at_
   rw [hd'] at e1
   injection e1 with _ e1
   subst e1
   refine ⟨r', cs1, g, off, hr', addr_once (w := w) p m2 e2 hr'.val hdep (by rw [hrt]; exact hc), hm⟩
  ·obtain ⟨h1, h2⟩ := hr.kept hst (hkept s hsd)
   exact ⟨r1, cs0, g, off, h1, by rw [(h2 none).2]; exact hc, hm⟩
 | cut t s p lo hi =>
  obtain ⟨r1, cs0, t', A1, n, c, hr, ht, hc, hm⟩ := h
  by_cases hsd : s = d
  ·subst hsd
   simp [AV.frail] at hf
  ·obtain ⟨h1, h2⟩ := hr.kept hst (hkept s hsd)
   exact ⟨r1, cs0, t', A1, n, c, h1, ht, by rw [(h2 none).1]; exact hc, hm⟩
 | clo f caps =>
  obtain ⟨vs, h1, h2, h3⟩ := h
  refine ⟨vs, h1, h2, fun j c hj => ?_⟩
  obtain ⟨u, k1, k2⟩ := h3 j c hj
  refine ⟨u, k1, ?_⟩
  cases c with
  | kv b => exact K_stays hst _ k2
  | pl t s p =>
   by_cases hsd : s = d
   ·subst hsd
    obtain ⟨r1, cs0, cs, hr, hc, hm⟩ := k2
    cases p with
    | cons _ _ =>
     have hne := List.any_eq_false.1 hf _ (List.mem_of_getElem? hj)
     simp at hne
    | nil =>
     obtain ⟨rfl, hr'⟩ := href (by simp [depth]) hr
     exact ⟨r', cs0, cs, hr', hc, hm⟩
   ·exact HoldsCap.kept hst (fun t1 s1 p1 e1 => by injection e1 with _ e1 _; subst e1; exact hkept _ hsd) k2
theorem pre_ok : ∀ (p h : Path), pre p h = true → ∃ q, h = p ++ q
 | [], h, _ => ⟨h, rfl⟩
 | .deref :: p, .deref :: h, e => by obtain ⟨q, rfl⟩ := pre_ok p h (by simpa [pre] using e); exact ⟨q, rfl⟩
 | .fst :: p, .fst :: h, e => by obtain ⟨q, rfl⟩ := pre_ok p h (by simpa [pre] using e); exact ⟨q, rfl⟩
 | .snd :: p, .snd :: h, e => by obtain ⟨q, rfl⟩ := pre_ok p h (by simpa [pre] using e); exact ⟨q, rfl⟩
theorem take_at {x : Operand} {av : AV} {b : TV} {s : Nat} {r : TV} {ex : List Path} (e : S.takeA x av = some (b, S1)) (hs : S1.at s = .v r ex) : ∃ ex0, S.at s = .v r ex0 ∧ ∀ q ∈ ex0, q ∈ ex := by
 have hput : ∀ i, (S.put (some i) .dead).at s = .v r ex → S.at s = .v r ex := by
  intro i h
  rw [put_at] at h
  split at h
  ·simp [AV.refs] at h
  ·cases hr : (S.at s).refs i && (S.at i).isV with
   | true => rw [hr] at h; cases h
   | false => rw [hr] at h; exact h
 cases av with
 | v b0 ex0 =>
  simp only [St.takeA] at e
  cases hk : b0.m.isK with
  | true =>
   rw [hk] at e
   simp only [cond_true, Option.some.injEq, Prod.mk.injEq] at e
   obtain ⟨_, rfl⟩ := e
   exact ⟨ex, hs, fun _ h => h⟩
  | false =>
   rw [hk] at e
   simp only [cond_false] at e
   split at e
   ·simp only [Option.some.injEq, Prod.mk.injEq] at e
    obtain ⟨_, rfl⟩ := e
    exact ⟨ex, hput _ hs, fun _ h => h⟩
   ·simp only [Option.some.injEq, Prod.mk.injEq] at e
    obtain ⟨_, rfl⟩ := e
    exact ⟨ex, hs, fun _ h => h⟩
   ·cases e
 | al t s0 p =>
  simp only [St.takeA] at e
  split at e
  ·rename_i b' hb
   cases hk : b'.m.isK with
   | true =>
    rw [hk] at e
    simp only [cond_true, Option.some.injEq, Prod.mk.injEq] at e
    obtain ⟨_, rfl⟩ := e
    exact ⟨ex, hs, fun _ h => h⟩
   | false =>
    rw [hk] at e
    simp only [cond_false] at e
    split at e
    ·simp only [Option.some.injEq, Prod.mk.injEq] at e
     obtain ⟨_, rfl⟩ := e
     exact ⟨ex, hput _ hs, fun _ h => h⟩
    ·rename_i r2 ex2 _ hat
     simp only [Option.some.injEq, Prod.mk.injEq] at e
     obtain ⟨_, rfl⟩ := e
     rw [at_set] at hs
     split at hs
     ·rename_i hx
      injection hs with h1 h2
      subst h1 h2
      rw [hx.1]
      exact ⟨ex2, hat, fun q hq => List.mem_append_left _ hq⟩
     ·rw [at_cover, at_weaken] at hs
      cases hfr : (S.at s).frail s0 with
      | true => rw [hfr] at hs; simp at hs
      | false =>
       rw [hfr] at hs
       simp only [cond_false] at hs
       split at hs
       ·cases hx : (Nat.beq _ s0 && under _ _) with
        | true => rw [hx] at hs; cases hs
        | false => rw [hx] at hs; cases hs
       ·exact ⟨ex, hs, fun _ h => h⟩
    ·cases e
  ·cases e
 | cut t s0 p lo hi =>
  cases p with
  | cons _ _ => simp [St.takeA] at e
  | nil =>
   simp only [St.takeA] at e
   split at e
   ·cases hl : Nat.beq lo 0 with
    | false => rw [hl] at e; cases e
    | true =>
     rw [hl] at e
     simp only [cond_true, Option.some.injEq, Prod.mk.injEq] at e
     obtain ⟨_, rfl⟩ := e
     exact ⟨ex, hput _ hs, fun _ h => h⟩
   ·cases e
 | _ => simp [St.takeA] at e
end Go.Pv
namespace Go.Pv
set_option linter.unusedVariables false
set_option linter.unusedSimpArgs false
variable {P : Program} {w w' : World} {A A' Wr : Nat → Prop} {H : Nat → Value} {tm tm' : Nat → Value} {S S' S1 : St} {σ σ1 : Nat → Option Nat} {w0 : World} {W0 Z : Nat → Prop} {a : Act} {own : Nat → Prop} {v : Value} {Θ : Tab} {dst : Option Nat}
theorem Fr.setRow (h : Fr w0 W0 w) {g : Nat} {cs : Array Value} (hg : w0.heap.size ≤ g ∨ W0 g) : Fr w0 W0 (w.setRow g cs) := by
 refine ⟨h.os, h.tape, h.output, by rw [setRow_size]; exact h.size, fun k hk hn => ?_⟩
 rw [setRow_other w g k _ (fun e => by subst e; rcases hg with hg | hg; omega; exact hn hg)]
 exact h.block k hk hn
theorem store_run (hT : tabB P Θ = true) {T : TypeId} {t : Ty} {g off : Nat} {cs : List Value} {v : Value} {cur : Array Value} {T' : TypeId} (ht : Θ.is T t = true) (hm : matchV t v cs) (hl : cs.length = t.size) (h1 : ∀ u ∈ cs, u.oneCell' = true)
  (hw : w.heap[g]? = some (.cells cur T' (0, 0))) (hb : off + cs.length ≤ cur.size) :
  (Instr.storeAt T (.pointer (some ⟨g, off, none⟩)) v).run P w = .ok () (w.setRow g (putCells cur.toList off cs).toArray) := by
 obtain ⟨inf, hi, hs, _⟩ := size_is hT ht
 have := run_storeCells_at (P := P) g off T' cs 0 cur w hw (by omega) h1
 simp only [Nat.add_zero] at this
 simp [Instr.storeAt, Instr.sureAddr, storeVar, sizeOf, typeInfo, hi, hs, tail_match hm h1, hl]
 rw [hl] at this
 unfold putCells
 rw [hl]
 simpa using this
theorem same_eq : ∀ (p h : Path), alikeP p h = true → sameP p h = true → h = p
 | [], [], _, _ => rfl
 | .idx i :: p, .idx j :: h, e, e2 => by
  simp only [sameP, Bool.and_eq_true] at e2
  rw [same_eq p h (by simpa [alikeP] using e) e2.1, Nat.eq_of_beq_eq_true e2.2]
 | .deref :: p, .deref :: h, e, e2 => by rw [same_eq p h (by simpa [alikeP] using e) (by simpa [sameP] using e2)]
 | .fst :: p, .fst :: h, e, e2 => by rw [same_eq p h (by simpa [alikeP] using e) (by simpa [sameP] using e2)]
 | .snd :: p, .snd :: h, e, e2 => by rw [same_eq p h (by simpa [alikeP] using e) (by simpa [sameP] using e2)]
 | [], .idx _ :: _, e, _ | [], .deref :: _, e, _ | [], .fst :: _, e, _ | [], .snd :: _, e, _ => by simp [alikeP] at e
 | .idx _ :: _, [], e, _ | .deref :: _, [], e, _ | .fst :: _, [], e, _ | .snd :: _, [], e, _ => by simp [alikeP] at e
 | .idx _ :: _, .deref :: _, e, _ | .idx _ :: _, .fst :: _, e, _ | .idx _ :: _, .snd :: _, e, _ => by simp [alikeP] at e
 | .deref :: _, .idx _ :: _, e, _ | .deref :: _, .fst :: _, e, _ | .deref :: _, .snd :: _, e, _ => by simp [alikeP] at e
 | .fst :: _, .idx _ :: _, e, _ | .fst :: _, .deref :: _, e, _ | .fst :: _, .snd :: _, e, _ => by simp [alikeP] at e
 | .snd :: _, .idx _ :: _, e, _ | .snd :: _, .deref :: _, e, _ | .snd :: _, .fst :: _, e, _ => by simp [alikeP] at e
theorem dropSame_sub {p q : Path} : ∀ {l : List Path}, q ∈ (dropSame p l).2 → q ∈ l
 | [], h => h
 | x :: r, h => by
  simp only [dropSame] at h
  cases ha : alikeP p x with
  | true => rw [ha] at h; exact List.mem_cons_of_mem _ h
  | false =>
   rw [ha] at h
   simp only [cond_false, List.mem_cons] at h
   rcases h with h | h
   ·rw [h]; exact List.mem_cons_self
   ·exact List.mem_cons_of_mem _ (dropSame_sub h)
theorem dropSame_keep {p q : Path} : ∀ {l : List Path}, (dropSame p l).1 = true → (∀ q', q ≠ p ++ q') → q ∈ l → q ∈ (dropSame p l).2
 | [], _, _, h => h
 | x :: r, hc, hn, h => by
  simp only [dropSame] at hc ⊢
  cases ha : alikeP p x with
  | true =>
   rw [ha] at hc
   simp only [cond_true] at hc ⊢
   rcases List.mem_cons.1 h with h | h
   ·subst h
    exact absurd ((same_eq p q ha hc).trans (List.append_nil p).symm) (hn [])
   ·exact h
  | false =>
   rw [ha] at hc
   simp only [cond_false] at hc ⊢
   rcases List.mem_cons.1 h with h | h
   ·rw [h]; exact List.mem_cons_self
   ·exact List.mem_cons_of_mem _ (dropSame_keep hc hn h)
def Stored (Θ : Tab) (T : TypeId) (x y : Operand) (S S' : St) (a : Act) (w w' : World) : Prop := ∃ (av av2 : AV) (t : Ty) (s : Nat) (p : Path) (b : TV) (S1 : St) (r r' : TV) (ex0 ex1 : List Path) (cs cs0 : List Value) (g off : Nat) (cur : Array Value) (T' : TypeId),
 S.opv Θ 0 x = some av ∧ S.tgt x av = some (.pl t s p) ∧ S.opv Θ T y = some av2 ∧ S.takeA y av2 = some (b, S1) ∧ S.at s = .v r ex0 ∧ S'.at s = .v r' ex1 ∧ r'.t = r.t ∧ (∃ b0, getP p r.t r.m r.x = some b0 ∧ b.t = b0.t) ∧
 matchV b.t (a.eval y) cs ∧ cs.length = b.t.size ∧ matchV r.t (tmOf a s) cs0 ∧ addrAt w p r.t cs0 none = some (g, off) ∧ w.heap[g]? = some (.cells cur T' (0, 0)) ∧ off + cs.length ≤ cur.size ∧ w' = w.setRow g (putCells cur.toList off cs).toArray
theorem store_full (hT : tabB P Θ = true) (h : RelS σ w0 W0 Z H S a w) {o : Oper} {T : TypeId} {x y : Operand} (ho : o.op = .store T x y) (hdst : o.dst = none) (e : evStore Θ S T x y = some (true, S')) :
  ∃ w' σ', (execOp a.eval o).run P w = .ok .skip w' ∧ RelS σ' w0 W0 Z H S' a w' ∧ Stored Θ T x y S S' a w w' := by
 unfold evStore at e
 split at e
 case h_2 => cases e
 rename_i av hav
 split at e
 case h_2 => cases e
 rename_i t s p htgt
 unfold St.take at e
 split at e
 case h_2 => cases e
 rename_i b S1 hb
 split at hb
 case h_2 => cases hb
 rename_i av2 hav2
 cases hc : Θ.is T b.t with
 | false => rw [hc] at e; cases e
 | true =>
 rw [hc] at e
 simp only [cond_true] at e
 split at e
 case h_2 => cases e
 rename_i r ex hs1
 split at e
 case h_2 => cases e
 rename_i m z hset
 cases hex : ex.all (fun q => !under q p) with
 | false => rw [hex] at e; cases e
 | true =>
 rw [hex] at e
 simp only [cond_true, Option.some.injEq, Prod.mk.injEq] at e
 obtain ⟨hds, e⟩ := e
 have hopen : open_ p ex := open_of_under (fun q hq => by simpa using List.all_eq_true.1 hex q hq)
 obtain ⟨r0, ex0, q1, q2⟩ := tgt_spec h hav htgt
 obtain ⟨σ1, cs, ow, h1, hm, hM, hk, hn⟩ := takeA_spec h hav2 hb
 obtain ⟨ex0', q3, q4⟩ := take_at hb hs1
 rw [q1] at q3
 injection q3 with q3 q3'
 subst q3 q3'
 obtain ⟨cs0, g, off, hr, haddr, hx⟩ := q2 (fun q hq => hopen q (q4 q hq))
 obtain ⟨b0, hb0, hbt⟩ := hr.get
 -- the slot, behind the take
 have hh := h1.holds s
 rw [hs1] at hh
 obtain ⟨cs0', hm0, hM0⟩ := hh
 obtain rfl := matchV_inj hr.mat hm0
 have hsl : s < S1.length := at_lt (by rw [hs1]; exact fun e => by cases e)
 obtain ⟨cs', ow', c1, c2, c3, hback⟩ := focusW p hM0 hopen hr.val hb0
 have hty : b.t = b0.t := setP_ty p hset hb0
 obtain ⟨hloc, hback⟩ := hback b (m, z) hty hset
 have hpm : memless p = false := by
  cases hp : memless p with
  | false => rfl
  | true => rw [memless_addr_none p hp] at haddr; cases haddr
 -- the address is the same: the world is
 have haddr' : addrAt w p r0.t cs0 none = some (g, off) := haddr
 obtain ⟨hg1, hg2, cur, T', hw, hbound, _⟩ := hloc g off haddr'
 obtain ⟨hlen, hone⟩ := M_ok _ hM
 have hfit : off + cs.length ≤ cur.size := by rw [hlen, hty]; exact hbound
 have hrun := store_run (P := P) (w := w) hT hc hm hlen hone hw hfit
 have hnow : ∀ g', ow g' → σ1 g' ≠ some s := fun g' hg' e' => by
  obtain ⟨i, hi, hi2⟩ := hk.now g' hg'
  rw [e'] at hi2
  injection hi2 with hi2
  omega
 let σ2 : Nat → Option Nat := fun g' => open Classical in if ow g' then some s else σ1 g'
 have hσ2 : ∀ g' i, σ2 g' = some i → (ow g' ∧ i = s) ∨ (¬ ow g' ∧ σ1 g' = some i) := fun g' i hg' => by
  simp only [σ2] at hg'
  split at hg'
  ·injection hg' with hg'; exact .inl ⟨by assumption, hg'.symm⟩
  ·exact .inr ⟨by assumption, hg'⟩
 have hσ2' : ∀ g' i, ¬ ow g' → σ1 g' = some i → σ2 g' = some i := fun g' i hn hg' => by simp only [σ2, if_neg hn, hg']
 have hAv2 : ∀ g', Av σ2 Z g' → Av σ1 Z g' := fun g' hg' => by
  rcases hg' with ⟨i, hg'⟩ | hg'
  ·rcases hσ2 g' i hg' with ⟨hx, _⟩ | ⟨_, hx⟩
   ·obtain ⟨j, _, hj⟩ := hk.now g' hx
    exact .inl ⟨j, hj⟩
   ·exact .inl ⟨i, hx⟩
  ·exact .inr hg'
 have hheap : ∀ k, k ≠ g → (w.setRow g (putCells cur.toList off cs).toArray).heap[k]? = w.heap[k]? := fun k hk => setRow_other w g k _ hk
 have hst : Stays w (w.setRow g (putCells cur.toList off cs).toArray) (Av σ1 Z) (Av σ2 Z) := ⟨fun k hk _ => hheap k (fun e' => hk (by rw [e']; exact .inl ⟨s, hg1⟩)), fun k _ hk => hAv2 k hk⟩
 have hMb : M (w.setRow g (putCells cur.toList off cs).toArray) (Av σ2 Z) H b.t b.m b.x cs ow (subs p (dropSame p (ex.filter fun q => !pre p q)).2) := by
  refine M_move ⟨fun k hk' _ => hheap k (fun e' => hk' (by rw [e']; exact hk.Av.1 (.inl ⟨s, hg1⟩))), fun k _ hk' => hk.Av.1 (hAv2 k hk')⟩ _ (fun k hk' _ => hheap k (fun e' => hnow k hk' (by rw [e']; exact hg1))) (fun k hk' _ => hk') (fun _ h => by simp at h) hM
 have hres := hback (w.setRow g (putCells cur.toList off cs).toArray) (Av σ2 Z) cs ow (dropSame p (ex.filter fun q => !pre p q)).2 hst (by rw [hlen, hty]) (fun k hk1 hk2 _ => by
   rw [haddr']
   simp only [BlkUpd]
   split
   ·rename_i hkg
    subst hkg
    exact ⟨cur, T', hw, setRow_heap w k cur _ T' (0, 0) hw⟩
   ·rename_i hkg
    exact hheap k hkg) hMb (fun k hk1 _ hk2 => absurd hk2 (hnow k hk1)) (fun q hq1 hq2 => by
   refine dropSame_keep hds hq1 (List.mem_filter.2 ⟨hq2, ?_⟩)
   cases hp : pre p q with
   | false => rfl
   | true =>
    obtain ⟨q', rfl⟩ := pre_ok p q hp
    exact absurd rfl (hq1 q'))
 rw [memful_upd p hpm] at hres
 have hres2 : M (w.setRow g (putCells cur.toList off cs).toArray) (Av σ2 Z) H r0.t m z cs0 (fun g' => σ2 g' = some s) (dropSame p (ex.filter fun q => !pre p q)).2 := by
  refine M_move (Stays.refl _ _) _ (fun _ _ _ => rfl) (fun k hk' _ => ?_) (fun _ h => h) hres
  rcases hk' with ⟨k1, _⟩ | k1
  ·exact hσ2' k s (fun hx => hnow k hx k1) k1
  ·simp only [σ2, if_pos k1]
 have hlen' : ((S1.weaken s).set s (.v ⟨r0.t, m, z⟩ (dropSame p (ex.filter fun q => !pre p q)).2)).length = S1.length := by simp [St.weaken]
 refine ⟨w.setRow g (putCells cur.toList off cs).toArray, σ2, ?_, ?_, av, av2, t, s, p, b, S1, r0, ⟨r0.t, m, z⟩, _, _, cs, cs0, g, off, cur, T', hav, htgt, hav2, hb, q1, by rw [← e, at_set, if_pos ⟨rfl, by simp [St.weaken]; exact hsl⟩], rfl, ⟨b0, hb0, hty⟩, hm, hlen, hr.mat, haddr, hw, hfit, rfl⟩
 ·simp only [execOp, ho, hx, Sem.run_bind, hrun, Result.andThen_ok]
  rfl
 ·show RelS σ2 w0 W0 Z H S' a (w.setRow g (putCells cur.toList off cs).toArray)
  have hat : ∀ i, S'.at i = if i = s then .v ⟨r0.t, m, z⟩ (dropSame p (ex.filter fun q => !pre p q)).2 else bif (S1.at i).frail s then .dead else S1.at i := by
   intro i
   rw [← e, at_set]
   by_cases hi : i = s
   ·rw [if_pos hi, if_pos ⟨hi, by simp [St.weaken]; exact hsl⟩]
   ·rw [if_neg hi, if_neg (fun h => hi h.1), at_weaken]
  refine ⟨by rw [← e, hlen']; exact h1.len, h1.defers, h1.fr.setRow (h1.new g s hg1), fun g' i hg' => ?_, fun g' i hg' => ?_, fun g' hg' => ⟨?_, (h1.old g' hg').2⟩, fun i => ?_⟩
  ·rcases hσ2 g' i hg' with ⟨hx, _⟩ | ⟨_, hx⟩
   ·obtain ⟨j, _, hj⟩ := hk.now g' hx
    exact h1.new g' j hj
   ·exact h1.new g' i hx
  ·rw [setRow_size]
   rcases hσ2 g' i hg' with ⟨hx, _⟩ | ⟨_, hx⟩
   ·obtain ⟨j, _, hj⟩ := hk.now g' hx
    exact h1.lt g' j hj
   ·exact h1.lt g' i hx
  ·have := (h1.old g' hg').1
   simp only [σ2]
   split
   ·rename_i hx
    obtain ⟨j, _, hj⟩ := hk.now g' hx
    rw [this] at hj
    cases hj
   ·exact this
  ·rw [hat i]
   by_cases his : i = s
   ·subst his
    rw [if_pos rfl]
    exact ⟨cs0, hr.mat, hres2⟩
   ·rw [if_neg his]
    by_cases hil : i < S1.length
    rotate_left
    ·have : S1.at i = .dead := Classical.byContradiction fun hx => hil (at_lt hx)
     rw [this]
     trivial
    cases hfr : (S1.at i).frail s with
    | true => trivial
    | false =>
     simp only [cond_false]
     refine holds_written (r := r0) (r' := ⟨r0.t, m, z⟩) (ex := ex) (ex' := (dropSame p (ex.filter fun q => !pre p q)).2) hst rfl hs1 (by rw [hat s, if_pos rfl]) (fun j r1 ex1 hj hv => by rw [hat j, if_neg hj, hv]; simp [AV.frail]) ⟨cs0, _, hr.mat, hres2⟩ (fun q hq => (List.mem_filter.1 (dropSame_sub hq)).1)
      (fun q hq hv => setP_valid q p hset hpm hq hv) (fun q b1 hq => setP_get q p hset hq m) (fun j hj => ⟨_, h1.holds j, fun g' hg' _ => hheap g' (fun e' => by subst e'; rw [hg1] at hg'; injection hg' with hg'; exact hj hg'.symm)⟩)
      (fun g' hg' _ => ⟨hheap g' (fun e' => by subst e'; rw [hg1] at hg'; injection hg' with hg'; exact his hg'.symm), hσ2' g' i (fun hx => ?_) hg'⟩) hfr (h1.holds i)
     obtain ⟨j, hj1, hj2⟩ := hk.now g' hx
     rw [hg'] at hj2
     injection hj2 with hj2
     omega
theorem store_ok (hT : tabB P Θ = true) (h : RelS σ w0 W0 Z H S a w) {o : Oper} {T : TypeId} {x y : Operand} (ho : o.op = .store T x y) (hdst : o.dst = none) (e : evStore Θ S T x y = some (true, S')) : Goes P w0 W0 Z H S' a o.dst w (execOp a.eval o) := by
 obtain ⟨w', σ', h1, h2, _⟩ := store_full hT h ho hdst e
 rw [hdst]
 exact ⟨w', undef, .inr ⟨rfl, h1⟩, σ', h2⟩
end Go.Pv
namespace Go.Pv
set_option linter.unusedVariables false
set_option linter.unusedSimpArgs false
variable {P : Program} {w w' : World} {A A' Wr : Nat → Prop} {H : Nat → Value} {tm tm' : Nat → Value} {S S' S1 : St} {σ σ1 σ2 : Nat → Option Nat} {w0 : World} {W0 Z : Nat → Prop} {a : Act} {own : Nat → Prop} {v : Value} {Θ : Tab} {dst : Option Nat}
theorem fold_put (off : Nat) : ∀ (l : List Value) (k : Nat) (cells : Array Value), off + k + l.length ≤ cells.size →
  ((l.zipIdx k).foldl (fun (cs : Array Value) (x : Value × Nat) => cs.setIfInBounds (off + x.2) x.1) cells).toList = putCells cells.toList (off + k) l
 | [], k, cells, h => by simp [putCells]
 | c :: l, k, cells, h => by
  simp only [List.zipIdx_cons, List.foldl_cons]
  simp only [List.length_cons] at h
  rw [fold_put off l (k + 1) (cells.setIfInBounds (off + k) c) (by simp; omega)]
  have h1 : off + k < cells.toList.length := by simp; omega
  apply List.ext_getElem?
  intro j
  rw [put_get _ _ _ _ (by simp; omega), put_get _ _ _ _ (by simp; omega)]
  simp only [Array.toList_setIfInBounds, List.length_cons]
  by_cases hj : j < off + k
  ·rw [if_pos (by omega), if_pos hj, List.getElem?_set_ne (by omega)]
  ·by_cases hj2 : j = off + k
   ·subst hj2
    rw [if_pos (by omega), if_neg (by omega), if_pos (by omega), List.getElem?_set_self h1]
    simp
   ·by_cases hj3 : j < off + k + 1 + l.length
    ·rw [if_neg (by omega), if_pos (by omega), if_neg (by omega), if_pos (by omega), show j - (off + k) = (j - (off + (k + 1))) + 1 from by omega]
     simp
    ·rw [if_neg (by omega), if_neg (by omega), if_neg (by omega), if_neg (by omega), List.getElem?_set_ne (by omega)]
def offs (segs : List (List Value)) (i : Nat) : Nat := ((segs.take i).map List.length).sum
theorem flat_split (segs : List (List Value)) (i : Nat) (h : i < segs.length) : segs.flatten = (segs.take i).flatten ++ (segs[i] ++ (segs.drop (i + 1)).flatten) := by
 conv => lhs; rw [← List.take_append_drop i segs]
 rw [List.flatten_append, List.drop_eq_getElem_cons h, List.flatten_cons]
theorem offs_len (segs : List (List Value)) (i : Nat) : (segs.take i).flatten.length = offs segs i := by simp [offs, List.length_flatten]
theorem put_seg (segs : List (List Value)) (i : Nat) (c : List Value) (h : i < segs.length) (hc : c.length = segs[i].length) : putCells segs.flatten (offs segs i) c = (segs.set i c).flatten := by
 have e1 := flat_split segs i h
 have e2 := flat_split (segs.set i c) i (by simpa using h)
 rw [e2]
 simp only [List.getElem_set_self]
 rw [List.take_set_of_le (by omega), List.drop_set_of_lt (by omega)]
 have hd : segs.flatten.drop (offs segs i + c.length) = (segs.drop (i + 1)).flatten := by
  rw [e1, ← offs_len, hc, ← List.append_assoc, ← List.length_append, List.drop_left]
 have ht : segs.flatten.take (offs segs i) = (segs.take i).flatten := by
  rw [e1, ← offs_len, List.take_left]
 unfold putCells
 rw [hd, ht, List.append_assoc]
theorem offs_set (segs : List (List Value)) (i j : Nat) (c : List Value) (h : i < segs.length) (hc : c.length = segs[i].length) : offs (segs.set i c) j = offs segs j := by
 unfold offs
 congr 1
 apply List.ext_getElem?
 intro k
 simp only [List.getElem?_map, List.getElem?_take, List.getElem?_set]
 split
 ·by_cases hk : i = k
  ·subst hk
   simp [h, hc]
  ·simp [hk]
 ·rfl
theorem offs_fit (segs : List (List Value)) (i : Nat) (h : i < segs.length) : offs segs i + segs[i].length ≤ segs.flatten.length := by
 rw [flat_split segs i h, List.length_append, List.length_append, offs_len]
 omega
def fillS (f : Nat → Option (List Value)) (segs : List (List Value)) : List (List Value) := segs.mapIdx fun i c => (f i).getD c
theorem fill_segs (place : Nat → Option (Nat × Nat)) : ∀ (parts : List (Nat × Value)) (segs : List (List Value)), (∀ i (h : i < segs.length), place i = some (offs segs i, segs[i].length)) →
  (∀ q ∈ parts, ∃ h : q.1 < segs.length, q.2.cells.size = segs[q.1].length) → (parts.map (·.1)).Nodup →
  Instr.fill place segs.flatten.toArray parts = some (fillS (fun i => (parts.find? (fun q => Nat.beq q.1 i)).map (·.2.cells.toList)) segs).flatten.toArray
 | [], segs, _, _, _ => by
  have : fillS (fun i => (([] : List (Nat × Value)).find? (fun q => Nat.beq q.1 i)).map (·.2.cells.toList)) segs = segs := by
   unfold fillS
   apply List.ext_getElem?
   intro k
   simp [List.getElem?_mapIdx]
  rw [this]; rfl
 | (i, v) :: rest, segs, hp, hs, hn => by
  obtain ⟨hi, hv⟩ := hs (i, v) (by simp)
  simp only at hi hv
  have hfit := offs_fit segs i hi
  simp only [Instr.fill, hp i hi]
  have hfit' := hfit
  rw [List.length_flatten] at hfit'
  rw [if_neg (by simp [hv]; omega)]
  have hlen : v.cells.toList.length = segs[i].length := by simpa using hv
  have hfold : v.cells.zipIdx.foldl (fun cs (x : Value × Nat) => cs.setIfInBounds (offs segs i + x.2) x.1) segs.flatten.toArray = (segs.set i v.cells.toList).flatten.toArray := by
   have := fold_put (offs segs i) v.cells.toList 0 segs.flatten.toArray (by simp only [hlen, List.size_toArray]; omega)
   rw [← put_seg segs i v.cells.toList hi hlen]
   apply Array.toList_inj.1
   rw [← Array.foldl_toList, Array.toList_zipIdx]
   simpa using this
  simp only [List.map_cons, List.nodup_cons] at hn
  have hset : ∀ (k : Nat) (hk : k < (segs.set i v.cells.toList).length), (segs.set i v.cells.toList)[k].length = (segs[k]'(by simpa using hk)).length := by
   intro k hk
   rw [List.getElem_set]
   split
   ·rename_i e; subst e; exact hlen
   ·rfl
  have ih := fill_segs place rest (segs.set i v.cells.toList) (fun k hk => by rw [offs_set segs i k _ hi hlen, hset k hk]; exact hp k (by simpa using hk)) (fun q hq => by
   obtain ⟨h1, h2⟩ := hs q (by simp [hq])
   exact ⟨by simpa using h1, by rw [hset]; exact h2⟩) hn.2
  refine (congrArg (fun c => Instr.fill place c rest) hfold).trans (ih.trans ?_)
  congr 3
  unfold fillS
  apply List.ext_getElem?
  intro k
  simp only [List.getElem?_mapIdx, List.getElem?_set]
  by_cases hk : i = k
  ·subst hk
   have : rest.find? (fun q => Nat.beq q.1 i) = none := List.find?_eq_none.2 fun q hq e => hn.1 (List.mem_map.2 ⟨q, hq, Nat.eq_of_beq_eq_true e⟩)
   simp [hi, this]
  ·have : Nat.beq i k = false := by
    cases hb : Nat.beq i k with
    | false => rfl
    | true => exact absurd (Nat.eq_of_beq_eq_true hb) hk
   simp [hk, this]
end Go.Pv
namespace Go.Pv
set_option linter.unusedVariables false
set_option linter.unusedSimpArgs false
variable {P : Program} {w w' : World} {A A' Wr : Nat → Prop} {H : Nat → Value} {tm tm' : Nat → Value} {S S' S1 : St} {σ σ1 σ2 : Nat → Option Nat} {w0 : World} {W0 Z : Nat → Prop} {a : Act} {own : Nat → Prop} {v : Value} {Θ : Tab} {dst : Option Nat}
theorem Took.trans {n : Nat} {ow1 ow2 : Nat → Prop} (h1 : Took σ σ1 n ow1) (h2 : Took σ1 σ2 n ow2) : Took σ σ2 n (fun g => ow1 g ∨ ow2 g) := by
 refine ⟨fun g hg => ?_, fun g hg => ?_, fun g i hg hi => h1.sub g i (h2.sub g i hg hi) hi, fun g => (h2.dom g).trans (h1.dom g), fun g i hg hi => h2.par g i (h1.par g i hg hi) hi⟩
 ·rcases hg with hg | hg
  ·exact h1.was g hg
  ·obtain ⟨i, hi, hi2⟩ := h2.was g hg
   exact ⟨i, hi, h1.sub g i hi2 hi⟩
 ·rcases hg with hg | hg
  ·obtain ⟨i, hi, hi2⟩ := h1.now g hg
   exact ⟨i, hi, h2.par g i hi2 hi⟩
  ·exact h2.now g hg
theorem Took.apart {n : Nat} {ow1 ow2 : Nat → Prop} (h1 : Took σ σ1 n ow1) (h2 : Took σ1 σ2 n ow2) {g : Nat} (hg : ow1 g) : ¬ ow2 g := fun hg2 => by
 obtain ⟨i, hi, hi2⟩ := h1.now g hg
 obtain ⟨j, hj, hj2⟩ := h2.was g hg2
 rw [hi2] at hj2
 injection hj2 with hj2
 omega
theorem zc_len : ∀ (t : Ty), (zc t).length = t.size
 | .int _ => rfl | .bool => rfl | .str => rfl | .sl _ => rfl | .ptr _ => rfl | .unit => rfl
 | .pair a b => by simp [zc, Ty.size, zc_len a, zc_len b]
 | .arr n t => by simp [zc, Ty.size, List.length_flatten, zc_len t]
theorem parts_spec (hT : tabB P Θ = true) (ps : List (Nat × Operand)) : ∀ (Ts : List TypeId) (j : Nat) {S S1 : St} {σ : Nat → Option Nat} {l : List TV}, RelS σ w0 W0 Z H S a w → S.parts Θ ps Ts j = some (l, S1) →
  ∃ (σ1 : Nat → Option Nat) (ow : Nat → Prop) (τ : Nat → Nat) (css : List (List Value)), RelS σ1 w0 W0 Z H S1 a w ∧ S1.length = S.length ∧ Took σ σ1 S.length ow ∧ css.length = l.length ∧ l.length = Ts.length ∧ (∀ g, ow g → j ≤ τ g) ∧
   ∀ (k : Nat) (b : TV), l[k]? = some b → ∃ cs, css[k]? = some cs ∧ M w (Av σ Z) H b.t b.m b.x cs (fun g => ow g ∧ τ g = j + k) [] ∧
    ((∃ q, ps.find? (fun q => Nat.beq q.1 (j + k)) = some q ∧ matchV b.t (a.eval q.2) cs) ∨ (ps.find? (fun q => Nat.beq q.1 (j + k)) = none ∧ cs = zc b.t))
 | [], j, S, S1, σ, l, h, e => by
  simp only [St.parts, Option.some.injEq, Prod.mk.injEq] at e
  obtain ⟨rfl, rfl⟩ := e
  exact ⟨σ, fun _ => False, fun _ => j, [], h, rfl, Took.none _ _, rfl, rfl, fun _ h => h.elim, fun k b hk => by simp at hk⟩
 | T :: Ts, j, S, S1, σ, l, h, e => by
  simp only [St.parts] at e
  split at e
  ·rename_i q hq
   unfold St.take at e
   split at e
   case h_2 => cases e
   rename_i b S2 hb
   split at hb
   case h_2 => cases hb
   rename_i av hav
   split at e
   case h_2 => cases e
   rename_i l2 S3 hl2
   simp only [Option.some.injEq, Prod.mk.injEq] at e
   obtain ⟨rfl, rfl⟩ := e
   obtain ⟨σ1, cs, ow, h1, hm, hM, hk, hn⟩ := takeA_spec h hav hb
   obtain ⟨σ2, ow2, τ, css, r1, r2, r3, r4, r5, r6, r7⟩ := parts_spec hT ps Ts (j + 1) h1 hl2
   rw [hn] at r3
   have hap : ∀ g, ow g → ¬ ow2 g := fun g hg => hk.apart r3 hg
   let τ' : Nat → Nat := fun g => open Classical in if ow g then j else τ g
   refine ⟨σ2, fun g => ow g ∨ ow2 g, τ', cs :: css, r1, by omega, hk.trans r3, by simp [r4], by simp [r5], fun g hg => ?_, fun k b' hk' => ?_⟩
   ·simp only [τ']
    split
    ·exact Nat.le_refl _
    ·rename_i hx
     have := r6 g (hg.resolve_left hx)
     omega
   ·cases k with
    | zero =>
     simp only [List.getElem?_cons_zero, Option.some.injEq] at hk'
     subst hk'
     refine ⟨cs, rfl, M_move (Stays.refl _ _) _ (fun _ _ _ => rfl) (fun g hg _ => ⟨.inl hg, by simp only [τ', if_pos hg, Nat.add_zero]⟩) (fun _ h => h) hM, .inl ⟨q, hq, hm⟩⟩
    | succ k =>
     simp only [List.getElem?_cons_succ] at hk' ⊢
     obtain ⟨c2, d1, d2, d3⟩ := r7 k b' hk'
     refine ⟨c2, d1, M_move ⟨fun _ _ _ => rfl, fun g _ hg => hk.Av.2 hg⟩ _ (fun _ _ _ => rfl) (fun g hg _ => ⟨.inr hg.1, ?_⟩) (fun _ h => h) d2, by rw [show j + (k + 1) = j + 1 + k from by omega]; exact d3⟩
     simp only [τ']
     rw [if_neg (fun hx => hap g hx hg.1), hg.2]
     omega
  ·rename_i hq
   split at e
   case h_2 => cases e
   rename_i b hb
   split at e
   case h_2 => cases e
   rename_i l2 S3 hl2
   simp only [Option.some.injEq, Prod.mk.injEq] at e
   obtain ⟨rfl, rfl⟩ := e
   obtain ⟨i, inf, zv, _, _, hx, hfit, _⟩ := zero_spec hT hb
   obtain ⟨σ2, ow2, τ, css, r1, r2, r3, r4, r5, r6, r7⟩ := parts_spec hT ps Ts (j + 1) h hl2
   refine ⟨σ2, ow2, τ, zc b.t :: css, r1, r2, r3, by simp [r4], by simp [r5], fun g hg => by have := r6 g hg; omega, fun k b' hk' => ?_⟩
   cases k with
   | zero =>
    simp only [List.getElem?_cons_zero, Option.some.injEq] at hk'
    subst hk'
    refine ⟨_, rfl, M_none ?_, .inr ⟨hq, rfl⟩⟩
    rw [hx]
    exact zfit_M _ hfit
   | succ k =>
    simp only [List.getElem?_cons_succ] at hk' ⊢
    obtain ⟨c2, d1, d2, d3⟩ := r7 k b' hk'
    exact ⟨c2, d1, M_move (Stays.refl _ _) _ (fun _ _ _ => rfl) (fun g hg _ => ⟨hg.1, by rw [hg.2]; omega⟩) (fun _ h => h) d2, by rw [show j + (k + 1) = j + 1 + k from by omega]; exact d3⟩
theorem parts_fill {ps : List (Nat × Operand)} {l : List TV} {css : List (List Value)} {place : Nat → Option (Nat × Nat)} (hl : css.length = l.length) (hpl : placesB l.length ps = true)
  (hlen : ∀ (k : Nat) (b : TV) (cs : List Value), l[k]? = some b → css[k]? = some cs → cs.length = b.t.size ∧ ∀ u ∈ cs, u.oneCell' = true)
  (hcs : ∀ (k : Nat) (b : TV), l[k]? = some b → ∃ cs, css[k]? = some cs ∧ ((∃ q, ps.find? (fun q => Nat.beq q.1 k) = some q ∧ matchV b.t (a.eval q.2) cs) ∨ (ps.find? (fun q => Nat.beq q.1 k) = none ∧ cs = zc b.t)))
  (hpla : ∀ i (h : i < l.length), place i = some (offs (l.map fun b => zc b.t) i, l[i].t.size)) :
  Instr.fill place (l.map fun b => zc b.t).flatten.toArray (ps.map fun q => (q.1, a.eval q.2)) = some css.flatten.toArray := by
 have hp : ∀ {n : Nat} {ps : List (Nat × Operand)}, placesB n ps = true → (∀ q ∈ ps, q.1 < n) ∧ (ps.map (·.1)).Nodup := by
  intro n ps
  induction ps with
  | nil => intro _; exact ⟨fun _ h => by simp at h, by simp⟩
  | cons q r ih =>
   intro h
   simp only [placesB, Bool.and_eq_true] at h
   obtain ⟨⟨h1, h2⟩, h3⟩ := h
   obtain ⟨i1, i2⟩ := ih h3
   refine ⟨fun q' hq' => ?_, ?_⟩
   ·rcases List.mem_cons.1 hq' with rfl | hq'
    ·exact Nat.lt_of_succ_le (Nat.le_of_ble_eq_true h1)
    ·exact i1 q' hq'
   ·simp only [List.map_cons, List.nodup_cons]
    refine ⟨fun hm => ?_, i2⟩
    obtain ⟨q', hq', e⟩ := List.mem_map.1 hm
    have : (r.any fun q' => Nat.beq q'.1 q.1) = true := List.any_eq_true.2 ⟨q', hq', by rw [e]; exact Nat.beq_refl _⟩
    rw [this] at h2
    cases h2
 obtain ⟨hlt, hnd⟩ := hp hpl
 have hget : ∀ i (h : i < l.length), l[i]? = some l[i] := fun i h => List.getElem?_eq_getElem h
 have hfind : ∀ (i : Nat) (q : Nat × Operand), q ∈ ps → q.1 = i → ps.find? (fun q => Nat.beq q.1 i) = some q := by
  intro i q hq hi
  subst hi
  clear hcs hlen hpla hpl hlt
  induction ps with
  | nil => simp at hq
  | cons q' r ih =>
   simp only [List.map_cons, List.nodup_cons] at hnd
   rcases List.mem_cons.1 hq with rfl | hq
   ·simp
   ·have : Nat.beq q'.1 q.1 = false := by
     cases hb : Nat.beq q'.1 q.1 with
     | false => rfl
     | true => exact absurd (List.mem_map.2 ⟨q, hq, (Nat.eq_of_beq_eq_true hb).symm⟩) hnd.1
    rw [List.find?_cons, this]
    exact ih hnd.2 hq
 rw [fill_segs place _ (l.map fun b => zc b.t) (fun i h => by
   rw [hpla i (by simpa using h)]
   simp [zc_len]) (fun q hq => by
   obtain ⟨q0, hq0, rfl⟩ := List.mem_map.1 hq
   have hi := hlt q0 hq0
   refine ⟨by simpa using hi, ?_⟩
   obtain ⟨cs, h1, h2⟩ := hcs q0.1 _ (hget q0.1 hi)
   obtain ⟨h3, h4⟩ := hlen _ _ _ (hget q0.1 hi) h1
   rcases h2 with ⟨q, hq', hm⟩ | ⟨hq', _⟩
   ·rw [hfind q0.1 q0 hq0 rfl] at hq'
    injection hq' with hq'
    subst hq'
    rw [tail_match hm h4]
    simp [h3, zc_len]
   ·rw [hfind q0.1 q0 hq0 rfl] at hq'; cases hq') (by simpa [List.map_map, Function.comp_def] using hnd)]
 congr 3
 unfold fillS
 apply List.ext_getElem?
 intro k
 rw [List.getElem?_mapIdx]
 by_cases hk : k < l.length
 ·simp only [List.getElem?_map, hget k hk, Option.map_some]
  obtain ⟨cs, h1, h2⟩ := hcs k _ (hget k hk)
  obtain ⟨h3, h4⟩ := hlen _ _ _ (hget k hk) h1
  rw [h1]
  rw [List.find?_map]
  simp only [Function.comp_def]
  rcases h2 with ⟨q, hq', hm⟩ | ⟨hq', he⟩
  ·rw [hq']
   simp only [Option.map_some, Option.getD_some]
   rw [tail_match hm h4]
  ·rw [hq']
   simp [he]
 ·rw [List.getElem?_eq_none (by simpa using hk), List.getElem?_eq_none (by omega)]
  rfl
end Go.Pv
namespace Go.Pv
set_option linter.unusedVariables false
set_option linter.unusedSimpArgs false
variable {P : Program} {w w' : World} {A A' Wr : Nat → Prop} {H : Nat → Value} {tm tm' : Nat → Value} {S S' S1 : St} {σ σ1 σ2 : Nat → Option Nat} {w0 : World} {W0 Z : Nat → Prop} {a : Act} {own : Nat → Prop} {v : Value} {Θ : Tab} {dst : Option Nat}
theorem M_mkS {ow : Nat → Prop} {τ : Nat → Nat} : ∀ (l : List TV) (css : List (List Value)) (j : Nat), css.length = l.length →
  (∀ (k : Nat) (b : TV), l[k]? = some b → ∃ cs, css[k]? = some cs ∧ M w A H b.t b.m b.x cs (fun g => ow g ∧ τ g = j + k) []) →
  M w A H (mkS l).t (mkS l).m (mkS l).x css.flatten (fun g => ow g ∧ j ≤ τ g) []
 | [], css, j, hl, _ => by
  obtain rfl : css = [] := List.eq_nil_of_length_eq_zero (by simpa using hl)
  simp [mkS, M, K, Md.isK]
 | [a], css, j, hl, h => by
  obtain ⟨cs, h1, h2⟩ := h 0 a rfl
  match css, hl with
  | [c], _ =>
   simp only [List.getElem?_cons_zero, Option.some.injEq] at h1
   subst h1
   simp only [mkS, List.flatten_cons, List.flatten_nil, List.append_nil]
   exact M_move (Stays.refl _ _) _ (fun _ _ _ => rfl) (fun g hg _ => ⟨hg.1, by rw [hg.2]; omega⟩) (fun _ h => h) h2
 | a :: b :: r, css, j, hl, h => by
  match css, hl with
  | c :: cs, hl =>
   obtain ⟨c', h1, h2⟩ := h 0 a rfl
   simp only [List.getElem?_cons_zero, Option.some.injEq] at h1
   subst h1
   have ih := M_mkS (ow := ow) (τ := τ) (b :: r) cs (j + 1) (by simpa using hl) (fun k b' hk => by
    obtain ⟨c', h1, h2⟩ := h (k + 1) b' (by simpa using hk)
    exact ⟨c', by simpa using h1, M_move (Stays.refl _ _) _ (fun _ _ _ => rfl) (fun g hg _ => ⟨hg.1, by rw [hg.2]; omega⟩) (fun _ h => h) h2⟩)
   simp only [mkS, List.flatten_cons]
   refine mkM_pair (s := fun g => τ g = j) ?_ ?_
   ·exact M_move (Stays.refl _ _) _ (fun _ _ _ => rfl) (fun g hg _ => ⟨⟨hg.1, by rw [hg.2]; omega⟩, by rw [hg.2]; rfl⟩) (fun _ h => by simp at h) h2
   ·exact M_move (Stays.refl _ _) _ (fun _ _ _ => rfl) (fun g hg _ => ⟨⟨hg.1, by omega⟩, by omega⟩) (fun _ h => by simp at h) ih
theorem M_mkStruct {ow : Nat → Prop} {τ : Nat → Nat} {l : List TV} {css : List (List Value)} (hl : css.length = l.length)
  (h : ∀ (k : Nat) (b : TV), l[k]? = some b → ∃ cs, css[k]? = some cs ∧ M w A H b.t b.m b.x cs (fun g => ow g ∧ τ g = 0 + k) []) :
  M w A H (mkStruct l).t (mkStruct l).m (mkStruct l).x css.flatten ow [] := by
 have h0 := M_mkS (ow := ow) (τ := τ) l css 0 hl h
 have h1 : M w A H (mkS l).t (mkS l).m (mkS l).x css.flatten ow [] := M_move (Stays.refl _ _) _ (fun _ _ _ => rfl) (fun g hg _ => hg.1) (fun _ h => h) h0
 cases l with
 | nil => exact h1
 | cons a r =>
  cases r with
  | cons b r => exact h1
  | nil =>
   have : M w A H (.pair a.t .unit) (mkM a.m .k) (a.x, ()) (css.flatten ++ []) ow [] := mkM_pair (s := fun _ => True) (M_move (Stays.refl _ _) _ (fun _ _ _ => rfl) (fun g hg _ => ⟨hg, trivial⟩) (fun _ h => by simp at h) h1) (by simp [M, K, Md.isK])
   rw [List.append_nil] at this
   exact this
theorem fld_mkS : ∀ (l : List TV) (k : Nat) (h : k < l.length), tyAt (if k + 1 = l.length then List.replicate k .snd else List.replicate k .snd ++ [.fst]) (mkS l).t = some l[k].t ∧
  fldOff (if k + 1 = l.length then List.replicate k .snd else List.replicate k .snd ++ [.fst]) (mkS l).t = offs (l.map fun b => zc b.t) k
 | [a], k, h => by
  obtain rfl : k = 0 := by simpa using h
  simp [mkS, tyAt, fldOff, offs]
 | a :: b :: r, 0, h => by simp [mkS, tyAt, fldOff, offs]
 | a :: b :: r, k + 1, h => by
  obtain ⟨h1, h2⟩ := fld_mkS (b :: r) k (by simpa using h)
  have e : (if k + 1 + 1 = (a :: b :: r).length then List.replicate (k + 1) Step.snd else List.replicate (k + 1) .snd ++ [.fst]) = .snd :: (if k + 1 = (b :: r).length then List.replicate k Step.snd else List.replicate k .snd ++ [.fst]) := by
   simp only [List.length_cons]
   by_cases hk : k = r.length
   ·rw [if_pos (by omega), if_pos (by omega)]; rfl
   ·rw [if_neg (by omega), if_neg (by omega)]; rfl
  rw [e]
  simp only [mkS, tyAt, fldOff]
  refine ⟨h1, ?_⟩
  rw [h2]
  simp only [List.map_cons, offs, List.take_succ_cons, List.map_cons, List.sum_cons, zc_len]
theorem fld_mkStruct (l : List TV) (k : Nat) (h : k < l.length) : tyAt (fld k l.length) (mkStruct l).t = some l[k].t ∧ fldOff (fld k l.length) (mkStruct l).t = offs (l.map fun b => zc b.t) k := by
 match l, h with
 | [a], h =>
  obtain rfl : k = 0 := by simpa using h
  simp [mkStruct, fld, tyAt, fldOff, offs]
 | a :: b :: r, h =>
  have := fld_mkS (a :: b :: r) k h
  have e : fld k (a :: b :: r).length = if k + 1 = (a :: b :: r).length then List.replicate k .snd else List.replicate k .snd ++ [.fst] := by
   unfold fld
   by_cases hk : k + 1 = (a :: b :: r).length
   ·have h1 : Nat.beq (k + 1) (a :: b :: r).length = true := by rw [← hk]; exact Nat.beq_refl _
    rw [if_pos hk, h1]
    have : Nat.beq (a :: b :: r).length 1 = false := by
     simp only [List.length_cons]
     rfl
    rw [this]
    rfl
   ·rw [if_neg hk]
    have : Nat.beq (k + 1) (a :: b :: r).length = false := by
     cases hb : Nat.beq (k + 1) (a :: b :: r).length with
     | false => rfl
     | true => exact absurd (Nat.eq_of_beq_eq_true hb) hk
    rw [this]
    rfl
  rw [e]
  exact this
theorem zc_mkStruct (l : List TV) : zc (mkStruct l).t = (l.map fun b => zc b.t).flatten := by
 have h : ∀ l : List TV, zc (mkS l).t = (l.map fun b => zc b.t).flatten := by
  intro l
  induction l with
  | nil => simp [mkS, zc]
  | cons a r ih =>
   cases r with
   | nil => simp [mkS]
   | cons b r => simp only [mkS, zc, List.map_cons, List.flatten_cons]; rw [ih]; simp
 unfold mkStruct
 split
 ·simp [zc]
 ·exact h l
theorem mapM_some {α β : Type} {g : α → Option β} {h : α → β} : ∀ (l : List α), (∀ f ∈ l, g f = some (h f)) → l.mapM g = some (l.map h)
 | [], _ => by simp
 | f :: r, hf => by
  rw [List.mapM_cons, hf f (by simp), mapM_some r fun f hf' => hf f (by simp [hf'])]
  rfl
theorem build_ok (hT : tabB P Θ = true) (h : RelS σ w0 W0 Z H S a w) {o : Oper} {T : TypeId} {ps : Array (Nat × Operand)} (ho : o.op = .build T ps) (e : evBuild Θ S o.dst T ps.toList = some (true, S')) : GoesS P w0 W0 Z H S' a o.dst w (execOp a.eval o) := by
 unfold evBuild at e
 split at e
 case h_2 => cases e
 rename_i i hi
 split at e
 case h_2 => cases e
 rename_i l S1 hl
 cases hc : (decide ((mkStruct l).t = i.ty) && evBuild.isPair i.ty && placesB l.length ps.toList) with
 | false => rw [hc] at e; cases e
 | true =>
 rw [hc] at e
 simp only [cond_true, Option.some.injEq, Prod.mk.injEq, true_and] at e
 simp only [Bool.and_eq_true, decide_eq_true_eq] at hc
 obtain ⟨⟨hty, hpair⟩, hpl⟩ := hc
 obtain ⟨σ1, ow, τ, css, h1, hn, hk, hcl, hll, hj, hparts⟩ := parts_spec hT ps.toList i.fs 0 h hl
 obtain ⟨⟨_, inf, z, k1, k2, _, _, _, k3, k4⟩, hu, rfl⟩ := tab_ti hT hi
 obtain ⟨pa, pb, hpp⟩ : ∃ pa pb, i.ty = .pair pa pb := by
  cases hty' : i.ty <;> rw [hty'] at hpair <;> first | exact ⟨_, _, rfl⟩ | cases hpair
 obtain ⟨fs, f1, f2, f3, _⟩ := und_pair hu hpp
 have hfl : fs.toList.length = l.length := by rw [hll, ← f2, List.length_map]
 have hM : M w (Av σ Z) H (mkStruct l).t (mkStruct l).m (mkStruct l).x css.flatten ow [] := M_mkStruct hcl (fun k b hb => by obtain ⟨cs, c1, c2, _⟩ := hparts k b hb; exact ⟨cs, c1, c2⟩)
 have hfields : ∀ f ∈ fs.toList, (P.info? f.type).map (fun i => (f.offset, i.size)) = some (f.offset, P.cellsOf f.type) := by
  intro f hf
  obtain ⟨k, hk, rfl⟩ := List.mem_iff_getElem.1 hf
  obtain ⟨t, _, ht, _⟩ := fieldsOK_at f3 k _ (List.getElem?_eq_getElem hk)
  obtain ⟨inf', i1, i2, i3⟩ := size_is hT ht
  rw [i1, Option.map_some, i2, i3]
 have hfill := parts_fill (a := a) (ps := ps.toList) (l := l) (css := css) (place := fun k => (fs.toList.map fun f => (f.offset, P.cellsOf f.type)).toArray[k]?) hcl hpl (fun k b cs hb hcs => by
   obtain ⟨cs', c1, c2, _⟩ := hparts k b hb
   rw [c1] at hcs
   injection hcs with hcs
   subst hcs
   exact M_ok _ c2) (fun k b hb => by
   obtain ⟨cs', c1, _, c3⟩ := hparts k b hb
   simp only [Nat.zero_add] at c3
   exact ⟨cs', c1, c3⟩) (fun k hk => by
   obtain ⟨q1, q2⟩ := fld_mkStruct l k hk
   obtain ⟨t, t1, t2, t3, _⟩ := fieldsOK_at f3 k (fs.toList[k]'(by omega)) (List.getElem?_eq_getElem (by omega))
   have hfs : fs.size = l.length := by rw [← hfl, Array.length_toList]
   rw [Nat.zero_add, ← hty, hfs] at t1 t3
   rw [q1] at t1
   injection t1 with t1
   subst t1
   obtain ⟨_, _, _, c3⟩ := size_is hT t2
   rw [q2] at t3
   simp only [List.getElem?_toArray, List.getElem?_map, List.getElem?_eq_getElem (show k < fs.toList.length by omega), Option.map_some, c3, t3])
 have hbuilt : P.built i.T (ps.map fun (j, x) => (j, a.eval x)).toList = some css.flatten.toArray := by
  unfold Program.built
  have hz : z.cells = (l.map fun b => zc b.t).flatten.toArray := by
   rw [← zc_mkStruct, hty]
   have hag : isAgg i.ty = true := by rw [hpp]; rfl
   unfold matchV at k4
   rw [if_pos hag] at k4
   rw [k4]
   rfl
  rw [k1, f1]
  simp only [k3, mapM_some _ hfields, hz]
  rw [Array.toList_map]
  exact hfill
 have hrun := fun w => run_build (P := P) w i.T _ _ hbuilt
 rw [← e]
 have hall : ∀ w2, (execOp a.eval o).run P w2 = .ok (.value (.agg css.flatten.toArray)) w2 := fun w2 => by
  simp only [execOp, ho, Sem.run_bind, hrun w2, Result.andThen_ok]
  rfl
 refine (goes_took (b := mkStruct l) (cs := css.flatten) (v := .agg css.flatten.toArray) h1 hk hn (fun w2 _ => hall w2) ?_ hM).still hall
 ·unfold matchV
  rw [if_pos (by rw [hty, hpp]; rfl)]
end Go.Pv
