/- A verified evaluator of the program's form over pure values, part 3: what it tells of a function holds. -/
import Derived.Test.YtcpakhaogbempaaPv2
import Derived.OrdersHeld
namespace Go.Pv
set_option linter.unusedVariables false
set_option linter.unusedSimpArgs false
variable {P : Program} {w w' : World} {A A' Wr : Nat → Prop} {H : Nat → Value} {tm tm' : Nat → Value} {S S' S1 : St} {σ σ1 σ2 : Nat → Option Nat} {w0 : World} {W0 Z : Nat → Prop} {a : Act} {own : Nat → Prop} {v : Value} {Θ : Tab} {dst : Option Nat}
theorem RelS.setAt (h : RelS σ w0 W0 Z H S a w) {i : Nat} {av : AV} (hno : ∀ j, j ≠ i → (S.at j).refs i = false) (hv : Holds w (Av σ Z) H (tmOf a) (S.set i av) (fun g => σ g = some i) av (tmOf a i)) :
  RelS σ w0 W0 Z H (S.set i av) a w := by
 refine ⟨by rw [List.length_set]; exact h.len, h.defers, h.fr, h.new, h.lt, h.old, fun j => ?_⟩
 rw [at_set]
 by_cases hj : j = i ∧ i < S.length
 ·rw [if_pos hj, hj.1]
  exact hv
 ·rw [if_neg hj]
  by_cases hji : j = i
  ·have : S.at j = .dead := Classical.byContradiction fun hx => hj ⟨hji, by rw [← hji]; exact at_lt hx⟩
   rw [this]
   trivial
  ·refine (h.holds j).kept (Stays.refl _ _) (fun g hg _ => ⟨rfl, hg⟩) (fun s hs => ?_)
   have hsi : s ≠ i := fun e => by subst e; rw [hno j hji] at hs; cases hs
   exact ⟨fun r ex hr => by rw [at_set, if_neg (fun e => hsi e.1)]; exact hr, rfl, _, h.holds s, fun _ _ _ => rfl⟩
theorem RelS.part (h : RelS σ w0 W0 Z H S a w) {i : Nat} (hi : ∀ r ex, S.at i ≠ .v r ex) (hl : i < S.length) {Q : Nat → Prop} {av : AV} (hv : Holds w (Av σ Z) H (tmOf a) (S.set i av) (fun g => σ g = some i ∧ ¬ Q g) av (tmOf a i)) :
  ∃ σ1, RelS σ1 w0 W0 Z H (S.set i av) a w ∧ Took σ σ1 S.length (fun g => σ g = some i ∧ Q g) := by
 let σ1 : Nat → Option Nat := fun g => open Classical in if σ g = some i ∧ Q g then some S.length else σ g
 have hs : ∀ g j, σ1 g = some j → ∃ k, σ g = some k := fun g j hg => by
  simp only [σ1] at hg
  split at hg
  ·rename_i hx; exact ⟨i, hx.1⟩
  ·exact ⟨j, hg⟩
 have hs' : ∀ g j, σ g = some j → ¬ (σ g = some i ∧ Q g) → σ1 g = some j := fun g j hg hn => by simp only [σ1, if_neg hn, hg]
 have hst : Stays w w (Av σ Z) (Av σ1 Z) := ⟨fun _ _ _ => rfl, fun g _ hg => by
  rcases hg with ⟨j, hg⟩ | hg
  ·exact .inl (hs g j hg)
  ·exact .inr hg⟩
 refine ⟨σ1, ⟨by rw [List.length_set]; exact h.len, h.defers, h.fr, fun g j hg => (hs g j hg).elim fun k hk => h.new g k hk, fun g j hg => (hs g j hg).elim fun k hk => h.lt g k hk, fun g hg => ⟨?_, (h.old g hg).2⟩, fun j => ?_⟩, ?_⟩
 ·simp only [σ1]
  rw [if_neg (fun hx => by rw [(h.old g hg).1] at hx; cases hx.1)]
  exact (h.old g hg).1
 ·rw [at_set]
  by_cases hj : j = i
  ·rw [if_pos ⟨hj, hl⟩, hj]
   exact hv.kept hst (fun g hg _ => ⟨rfl, hs' g i hg.1 (fun hx => hg.2 hx.2)⟩) (fun s _ => ⟨fun _ _ h => h, rfl, by
    by_cases hsi : s = i
    ·subst hsi
     rw [at_set, if_pos ⟨rfl, hl⟩]
     exact ⟨_, hv, fun _ _ _ => rfl⟩
    ·rw [at_set, if_neg (fun e => hsi e.1)]
     refine ⟨_, (h.holds s).kept (Stays.refl _ _) (fun g hg _ => ⟨rfl, hg⟩) (fun s1 hs1 => ⟨fun r ex hr => ?_, rfl, _, h.holds s1, fun _ _ _ => rfl⟩), fun _ _ _ => rfl⟩
     by_cases hs1i : s1 = i
     ·subst hs1i; exact absurd hr (hi r ex)
     ·rw [at_set, if_neg (fun e => hs1i e.1)]; exact hr⟩)
  ·rw [if_neg (fun e => hj e.1)]
   refine (h.holds j).kept hst (fun g hg _ => ⟨rfl, hs' g j hg (fun hx => hj (by rw [hx.1] at hg; injection hg with hg; exact hg.symm))⟩) (fun s hs1 => ⟨fun r ex hr => ?_, rfl, _, h.holds s, fun _ _ _ => rfl⟩)
   by_cases hsi : s = i
   ·subst hsi; exact absurd hr (hi r ex)
   ·rw [at_set, if_neg (fun e => hsi e.1)]; exact hr
 ·refine ⟨fun g hg => ⟨i, hl, hg.1⟩, fun g hg => ⟨_, Nat.le_refl _, by simp only [σ1, if_pos hg]⟩, fun g j hg hj => ?_, fun g => ⟨fun ⟨j, hg⟩ => hs g j hg, fun ⟨j, hg⟩ => ?_⟩, fun g j hg hj => hs' g j hg (fun hx => ?_)⟩
  ·simp only [σ1] at hg
   split at hg
   ·injection hg with hg; omega
   ·exact hg
  ·simp only [σ1]
   split
   ·exact ⟨_, rfl⟩
   ·exact ⟨j, hg⟩
  ·rw [hx.1] at hg
   injection hg with hg
   omega
theorem GoesQ.still {s : Sem Next} (hr : ∀ w2, s.run P w2 = .ok (.value v) w2) (h : GoesQ P w0 W0 Z H S' a dst w s) : GoesS P w0 W0 Z H S' a dst w s := by
 obtain ⟨v', h1, h2⟩ := h
 have := (h1 w (Ext.refl w)).symm.trans (hr w)
 injection this with this
 injection this with this
 subst this
 exact ⟨_, hr, h2⟩
theorem extract_ok (h : RelS σ w0 W0 Z H S a w) {o : Oper} {x : Operand} {j : Nat} (ho : o.op = .extract x j) (e : evExtract S o.dst x j = some (true, S')) : GoesS P w0 W0 Z H S' a o.dst w (execOp a.eval o) := by
 unfold evExtract at e
 split at e
 case h_2 => cases e
 rename_i i
 split at e
 case h_2 => cases e
 rename_i l hl
 split at e
 case h_2 => cases e
 rename_i b hb
 have hh := h.holds i
 rw [hl] at hh
 obtain ⟨vs, τ, hv, hlen, hel⟩ := hh
 have hbj : l[j]? = some (some b) := by
  rw [List.getD_eq_getElem?_getD] at hb
  cases hq : l[j]? with
  | none => rw [hq] at hb; cases hb
  | some q => rw [hq] at hb; simp only [Option.getD_some] at hb; rw [hb]
 obtain ⟨u, cs, hu, hm, hM⟩ := hel j b hbj
 have hrun : ∀ w2, (execOp a.eval o).run P w2 = .ok (.value u) w2 := fun w2 => by
  have : a.eval (.tmp i) = .tuple vs.toArray := hv
  simp [execOp, ho, this, Instr.extract, hu]
 cases hk : b.m.isK with
 | true =>
  rw [hk] at e
  simp only [cond_true, Option.some.injEq, Prod.mk.injEq, true_and] at e
  subst e
  exact goes_pureS h hrun ⟨cs, hm, K_M hk (M_isK _ hk hM)⟩
 | false =>
  rw [hk] at e
  simp only [cond_false] at e
  split at e
  case h_2 => cases e
  rename_i d hd
  cases hdi : Nat.beq d i with
  | true => rw [hdi] at e; cases e
  | false =>
  rw [hdi] at e
  simp only [cond_false, Option.some.injEq, Prod.mk.injEq, true_and] at e
  subst e
  rw [← hd]
  have hil : i < S.length := at_lt (by rw [hl]; exact fun e => by cases e)
  obtain ⟨σ1, h1, hk1⟩ := h.part (i := i) (fun r ex => by rw [hl]; exact fun e => by cases e) hil (Q := fun g => τ g = j) (av := .tup (l.set j none)) ⟨vs, τ, hv, by rw [List.length_set]; exact hlen, fun k b' hk' => by
   rw [List.getElem?_set] at hk'
   split at hk'
   ·split at hk' <;> cases hk'
   ·rename_i hjk
    obtain ⟨u', cs', c1, c2, c3⟩ := hel k b' hk'
    exact ⟨u', cs', c1, c2, M_move (Stays.refl _ _) _ (fun _ _ _ => rfl) (fun g hg _ => ⟨⟨hg.1, fun hx => hjk (by rw [← hx, hg.2])⟩, hg.2⟩) (fun _ h => h) c3⟩⟩
  exact GoesQ.still (v := u) hrun (goes_took (n := S.length) h1 hk1 (List.length_set) (fun w2 _ => hrun w2) hm (M_move (Stays.refl _ _) _ (fun _ _ _ => rfl) (fun g hg _ => hg) (fun _ h => h) hM))
theorem put_refs (S : St) (d : Nat) (b : TV) (ex : List Path) (i : Nat) (hi : ∀ j, (S.at j).refs i = false) (j : Nat) : ((S.put (some d) (.v b ex)).at j).refs i = false := by
 rw [put_at]
 split
 ·simp [AV.refs]
 ·cases hr : (S.at j).refs d && (S.at d).isV with
  | true => simp [AV.refs]
  | false => exact hi j
theorem dead_refs (S : St) (i : Nat) (hv : (S.at i).isV = true) (j : Nat) : ((S.put (some i) .dead).at j).refs i = false := by
 rw [put_at]
 split
 ·simp [AV.refs]
 ·rw [hv, Bool.and_true]
  cases hr : (S.at j).refs i with
  | true => simp [AV.refs]
  | false => exact hr
theorem assign_ok (h : RelS σ w0 W0 Z H S a w) {o : Oper} {x : Operand} (ho : o.op = .assign x) (e : evAssign Θ S o.dst o.type x = some (true, S')) : GoesQ P w0 W0 Z H S' a o.dst w (execOp a.eval o) := by
 have hrun : ∀ w2, Ext w w2 → (execOp a.eval o).run P w2 = .ok (.value (a.eval x)) w2 := fun w2 _ => by simp only [execOp, ho]; rfl
 unfold evAssign at e
 split at e
 case h_2 =>
  split at e
  ·injection e with e
   injection e with _ e
   subst e
   exact goes_pure h hrun trivial
  ·cases e
 rename_i av hav
 have hh := opv_holds h hav
 split at e
 ·-- a value of a temporary
  rename_i d i b ex hd
  cases hk : b.m.isK with
  | true =>
   rw [hk] at e
   simp only [cond_true, Option.some.injEq, Prod.mk.injEq, true_and] at e
   subst e
   obtain ⟨cs, h1, h2⟩ := hh
   exact goes_pure h hrun ⟨cs, h1, K_M hk (M_isK _ hk h2)⟩
  | false =>
   rw [hk] at e
   simp only [cond_false] at e
   split at e
   case h_2 => cases e
   cases hdi : (Nat.beq d i || !Nat.blt d S.length) with
   | true => rw [hdi] at e; cases e
   | false =>
   rw [hdi] at e
   simp only [cond_false, Option.some.injEq, Prod.mk.injEq, true_and] at e
   subst e
   simp only [Bool.or_eq_false_iff, Bool.not_eq_false'] at hdi
   have hdi1 : d ≠ i := fun e => by rw [e, Nat.beq_refl] at hdi; cases hdi.1
   have hdl : d < S.length := Nat.lt_of_succ_le (Nat.le_of_ble_eq_true hdi.2)
   obtain ⟨cs, h1, h2⟩ := hh
   simp only [St.opv, Option.some.injEq] at hav
   have hil : i < S.length := at_lt (by rw [hav]; exact fun e => by cases e)
   have hp := h.park i
   have hk : Took σ (park σ S.length i) S.length (ownOf σ (.tmp i)) := Took.park σ hil (fun g hg => by obtain ⟨j, hj, hg⟩ := hg; injection hj with hj; subst hj; exact hg)
   obtain ⟨v2, hr2, σ2, h3⟩ := goes_took (P := P) (dst := some d) (n := S.length) hp hk (put_len' _ _ _) hrun h1 h2
   have hv2 := hr2 w (Ext.refl w)
   rw [hrun w (Ext.refl w)] at hv2
   injection hv2 with e1 e2
   injection e1 with e1
   subst e1
   refine ⟨a.eval (.tmp i), hrun, σ2, ?_⟩
   rw [hd]
   refine h3.setAt (fun j _ => put_refs _ d b [] i (dead_refs S i (by rw [hav]; rfl)) j) ?_
   have htm : tmOf (a.put (some d) (a.eval (.tmp i))) i = tmOf a i := by rw [tm_put, if_neg (fun e => hdi1 e.1.symm)]
   have htd : tmOf (a.put (some d) (a.eval (.tmp i))) d = tmOf a i := by rw [tm_put, if_pos ⟨rfl, by rw [← h.len]; exact hdl⟩]; rfl
   refine ⟨b, cs, cs, ⟨⟨[], ?_, fun q hq => by simp at hq⟩, trivial, ⟨b, rfl, rfl⟩, by rw [htd]; exact h1⟩, rfl, by rw [htm]; exact h1⟩
   rw [at_set, if_neg (fun e => hdi1 e.1), put_at, if_pos ⟨rfl, by rw [put_len']; exact hdl⟩]
   rfl
 ·-- another value
  rename_i b ex hne
  cases hk : b.m.isK with
  | true =>
   rw [hk] at e
   simp only [cond_true, Option.some.injEq, Prod.mk.injEq, true_and] at e
   subst e
   obtain ⟨cs, h1, h2⟩ := hh
   exact goes_pure h hrun ⟨cs, h1, K_M hk (M_isK _ hk h2)⟩
  | false =>
   rw [hk] at e
   simp only [cond_false] at e
   split at e
   case h_2 => cases e
   simp only [Option.some.injEq, Prod.mk.injEq, true_and] at e
   subst e
   obtain ⟨cs, h1, h2⟩ := hh
   exact goes_pure h hrun ⟨cs, h1, M_move (Stays.refl _ _) _ (fun _ _ _ => rfl) (fun g hg _ => by obtain ⟨i, hi, _⟩ := hg; cases hi) (fun _ h => h) h2⟩
 ·rename_i d t s hd
  cases hsd : Nat.beq s d with
  | true => rw [hsd] at e; cases e
  | false =>
   rw [hsd] at e
   simp only [cond_false, Option.some.injEq, Prod.mk.injEq, true_and] at e
   subst e
   exact goes_pure h hrun hh
 ·rename_i d f c hd
  cases hsd : AV.refs d (.clo f c) with
  | true => rw [hsd] at e; cases e
  | false =>
   rw [hsd] at e
   simp only [cond_false, Option.some.injEq, Prod.mk.injEq, true_and] at e
   subst e
   exact goes_pure h hrun hh
 ·simp only [Option.some.injEq, Prod.mk.injEq, true_and] at e
  subst e
  exact goes_pure h hrun hh
 ·split at e
  case h_2 => cases e
  rename_i b S1 hb
  simp only [Option.some.injEq, Prod.mk.injEq, true_and] at e
  subst e
  obtain ⟨σ1, cs, ow, h1, hm, hM, hk, hn⟩ := takeA_spec h hav hb
  exact goes_took h1 hk hn hrun hm hM
end Go.Pv
namespace Go.Pv
set_option linter.unusedVariables false
set_option linter.unusedSimpArgs false
variable {P : Program} {w w' : World} {A A' Wr : Nat → Prop} {H : Nat → Value} {tm tm' : Nat → Value} {S S' S1 : St} {σ σ1 σ2 : Nat → Option Nat} {w0 : World} {W0 Z : Nat → Prop} {a : Act} {own : Nat → Prop} {v : Value} {Θ : Tab} {dst : Option Nat}
theorem size_one {t : Ty} (h : isAgg t = false) : t.size = 1 := by cases t <;> simp [isAgg] at h <;> rfl
theorem field_ok (hT : tabB P Θ = true) (h : RelS σ w0 W0 Z H S a w) {o : Oper} {T : TypeId} {x : Operand} {f : Nat} (ho : o.op = .field T x f) (e : evField Θ S o.dst T x f = some (true, S')) : GoesQ P w0 W0 Z H S' a o.dst w (execOp a.eval o) := by
 unfold evField at e
 split at e
 case h_2 => cases e
 rename_i b ex i hav hi
 cases hc : (Nat.blt f i.fs.length && decide (i.ty = b.t)) with
 | false => rw [hc] at e; cases e
 | true =>
 rw [hc] at e
 simp only [cond_true] at e
 simp only [Bool.and_eq_true, decide_eq_true_eq] at hc
 obtain ⟨hlt, hty⟩ := hc
 have hlt : f < i.fs.length := Nat.lt_of_succ_le (Nat.le_of_ble_eq_true hlt)
 split at e
 case h_2 => cases e
 rename_i j
 split at e
 case h_2 => cases e
 rename_i c hg
 simp only [St.opv, Option.some.injEq] at hav
 have hh := h.holds j
 rw [hav] at hh
 obtain ⟨cs, hm, hM⟩ := hh
 obtain ⟨_, hu, hT0⟩ := tab_ti hT hi
 have hp := fld_memless f i.fs.length
 obtain ⟨pa, pb, hpp⟩ := memless_pair (fld_ne hlt) hp hg
 obtain ⟨fs, f1, f2, f3, _⟩ := und_pair hu (hty.trans hpp)
 rw [hT0] at f1
 have hfl : fs.toList.length = i.fs.length := by rw [← f2, List.length_map]
 have hfs : fs.size = i.fs.length := by rw [← hfl, Array.length_toList]
 obtain ⟨fd, hfd⟩ : ∃ fd, fs[f]? = some fd := ⟨_, Array.getElem?_eq_getElem (by omega)⟩
 obtain ⟨t, t1, t2, t3, _⟩ := fieldsOK_at f3 f fd (by rw [Array.getElem?_toList]; exact hfd)
 rw [Nat.zero_add, hfs, hty] at t1 t3
 have hct : c.t = t := by
  have := memless_ty _ hp hg
  rw [t1] at this
  injection this with this
  exact this.symm
 subst hct
 obtain ⟨hlen, hone⟩ := M_ok _ hM
 have hfit := memless_fit _ hp hg
 have hcells : cellsAt w (fld f i.fs.length) b.t cs = some ((cs.drop (fldOff (fld f i.fs.length) b.t)).take c.t.size) := memless_cells _ hp hg hlen
 obtain ⟨v, hv, hrun⟩ : ∃ v, matchV c.t v ((cs.drop (fldOff (fld f i.fs.length) b.t)).take c.t.size) ∧ ∀ w2, Ext w w2 → (execOp a.eval o).run P w2 = .ok (.value v) w2 := by
  have hval : a.eval (.tmp j) = .agg cs.toArray := by
   unfold matchV at hm
   rw [if_pos (by rw [hpp]; rfl)] at hm
   exact hm
  have hag := agg_is hT t2
  obtain ⟨inf, s1, s2, _⟩ := size_is hT t2
  have hso : ∀ w2, (sizeOf fd.type).run P w2 = .ok c.t.size w2 := fun w2 => by simp [sizeOf, typeInfo, s1, s2]
  cases hca : isAgg c.t with
  | true =>
   refine ⟨.agg (cs.toArray.extract (fldOff (fld f i.fs.length) b.t) (fldOff (fld f i.fs.length) b.t + c.t.size)), ?_, fun w2 _ => ?_⟩
   ·unfold matchV
    rw [if_pos hca]
    congr 1
    apply Array.toList_inj.1
    rw [Array.toList_extract, List.toList_toArray, List.toList_toArray, List.extract_eq_drop_take']
    rw [List.drop_take, Nat.add_sub_cancel_left]
   ·rw [hca] at hag
    have hpart : (part fd.type cs.toArray fd.offset).run P w2 = .ok (.agg (cs.toArray.extract (fldOff (fld f i.fs.length) b.t) (fldOff (fld f i.fs.length) b.t + c.t.size))) w2 := by
     unfold part
     simp only [Sem.run_bind, hag, Result.andThen_ok, if_true, hso, t3]
     rfl
    simp only [execOp, ho, hval, Instr.field, Sem.run_bind, run_underlying f1, Result.andThen_ok, hfd, asAgg, Sem.run_pure, hpart]
  | false =>
   have h1 := size_one hca
   have hlt2 : fldOff (fld f i.fs.length) b.t < cs.length := by omega
   refine ⟨cs[fldOff (fld f i.fs.length) b.t], ?_, fun w2 _ => ?_⟩
   ·unfold matchV
    rw [if_neg (by rw [hca]; exact Bool.false_ne_true), h1, List.drop_eq_getElem_cons hlt2, List.take_succ_cons, List.take_zero]
   ·rw [hca] at hag
    have hpart : (part fd.type cs.toArray fd.offset).run P w2 = .ok (cs[fldOff (fld f i.fs.length) b.t]) w2 := by
     unfold part
     simp only [Sem.run_bind, hag, Result.andThen_ok, if_neg Bool.false_ne_true, t3]
     rw [List.getElem?_toArray, List.getElem?_eq_getElem hlt2]
     rfl
    simp only [execOp, ho, hval, Instr.field, Sem.run_bind, run_underlying f1, Result.andThen_ok, hfd, asAgg, Sem.run_pure, hpart]
 have hvalid := memless_valid _ hp hg
 cases hk : c.m.isK with
 | true =>
  rw [hk] at e
  simp only [cond_true] at e
  split at e
  case h_2 => cases e
  simp only [Option.some.injEq, Prod.mk.injEq, true_and] at e
  subst e
  obtain ⟨cs', ow', k1, k2, k3⟩ := focus _ hM (fun q hq => by simp at hq) hvalid hg
  rw [hcells] at k1
  injection k1 with k1
  subst k1
  exact goes_pure h hrun ⟨_, hv, M_of_K _ (M_isK _ hk k3)⟩
 | false =>
  rw [hk] at e
  simp only [cond_false] at e
  split at e
  case h_2 => cases e
  rename_i c' hgl
  simp only [Option.some.injEq, Prod.mk.injEq, true_and] at e
  subst e
  obtain ⟨r, ex', q1, q2, q3⟩ := glance_get hgl
  rw [hav] at q1
  injection q1 with q1 q1'
  subst q1 q1'
  exact goes_pure h hrun ⟨b, cs, _, ⟨⟨ex, hav, open_of_under q2⟩, hvalid, ⟨c, hg, rfl⟩, hm⟩, hcells, hv⟩
theorem capsOf_spec (h : RelS σ w0 W0 Z H S a w) : ∀ {xs : List Operand} {l : List Cap}, capsOf S xs = some l → xs.length = l.length ∧ ∀ (j : Nat) (c : Cap), l[j]? = some c → ∃ u, (xs.map a.eval)[j]? = some u ∧ HoldsCap w (Av σ Z) (tmOf a) S c u
 | [], l, e => by
  simp only [capsOf, Option.some.injEq] at e
  subst e
  exact ⟨rfl, fun j c hj => by simp at hj⟩
 | x :: xs, l, e => by
  simp only [capsOf] at e
  split at e
  case h_2 => cases e
  rename_i c l2 hc hl
  simp only [Option.some.injEq] at e
  subst e
  obtain ⟨h1, h2⟩ := capsOf_spec h hl
  refine ⟨by simp [h1], fun j c' hj => ?_⟩
  cases j with
  | succ j => simpa using h2 j c' (by simpa using hj)
  | zero =>
   simp only [List.getElem?_cons_zero, Option.some.injEq] at hj
   subst hj
   refine ⟨a.eval x, rfl, ?_⟩
   unfold capOf at hc
   split at hc
   case h_2 => cases hc
   rename_i i
   have hh := h.holds i
   split at hc
   ·rename_i t T tag me y ex hat
    injection hc with hc
    subst hc
    rw [hat] at hh
    obtain ⟨cs, h1, h2⟩ := hh
    exact ⟨_, cs, cs, ⟨⟨ex, hat, fun q _ s r e => by cases q <;> simp at e⟩, trivial, ⟨_, rfl, rfl⟩, h1⟩, rfl, h1⟩
   ·rename_i t y ex hat
    injection hc with hc
    subst hc
    rw [hat] at hh
    obtain ⟨cs, h1, h2⟩ := hh
    have h1' : cs = [tmOf a i] := by simpa [matchV, isAgg] using h1
    subst h1'
    simp only [M] at h2
    rcases h2 with ⟨_, hx, _⟩ | ⟨_, h2⟩ | ⟨T, tag, me, g, cur, hx, _⟩
    ·simp [Md.isK] at hx
    ·exact h2
    ·cases hx
   ·rename_i t s p hat
    injection hc with hc
    subst hc
    rw [hat] at hh
    exact hh
   ·cases hc
theorem makeFunc_ok (h : RelS σ w0 W0 Z H S a w) {o : Oper} {f : FuncId} {first caps : Array Operand} (ho : o.op = .makeFunc (.func f) first caps) (e : evMakeFunc S o.dst f first.toList caps.toList = some (true, S')) : GoesQ P w0 W0 Z H S' a o.dst w (execOp a.eval o) := by
 unfold evMakeFunc at e
 split at e
 case h_2 => cases e
 rename_i l hf hl
 split at e
 case h_2 => cases e
 rename_i d hd
 cases hr : AV.refs d (.clo f l) with
 | true => rw [hr] at e; cases e
 | false =>
 rw [hr] at e
 simp only [cond_false, Option.some.injEq, Prod.mk.injEq, true_and] at e
 subst e
 obtain ⟨h1, h2⟩ := capsOf_spec h hl
 have hfe : first = #[] := by
  apply Array.toList_inj.1
  rw [hf]
 refine goes_pure (v := .func (.func f) #[] (caps.map a.eval)) h (fun w2 _ => by simp [execOp, ho, Instr.makeFunc, hfe]) ⟨caps.toList.map a.eval, ?_, by rw [List.length_map, h1], h2⟩
 congr 1
 apply Array.toList_inj.1
 simp
theorem move_ok2 (h : RelS σ w0 W0 Z H S a w) {o : Oper} {x : Operand} (ho : o.op = .move x) (e : evMove Θ S o.dst o.type x = some (true, S')) : GoesS P w0 W0 Z H S' a o.dst w (execOp a.eval o) := by
 by_cases hnt : ∃ l, S.opv Θ o.type x = some (.tup l)
 rotate_left
 ·exact move_ok h ho (fun l hl => hnt ⟨l, hl⟩) e
 obtain ⟨l, hl⟩ := hnt
 unfold evMove at e
 rw [hl] at e
 simp only at e
 split at e
 case h_2 => cases e
 rename_i d i hd
 cases hc : (Nat.beq d i || !Nat.blt d S.length) with
 | true => rw [hc] at e; cases e
 | false =>
  rw [hc] at e
  simp only [cond_false, Option.some.injEq, Prod.mk.injEq, true_and] at e
  subst e
  have hat : S.at i = .tup l := by simpa [St.opv] using hl
  have hh := h.holds i
  rw [hat] at hh
  obtain ⟨vs, τ, h1, h2, h3⟩ := hh
  refine ⟨tmOf a i, fun w2 => by simp only [execOp, ho]; rfl, ?_⟩
  rw [hd]
  have hp := h.park i
  have hgo := hp.give0 (dst := some d) (v := tmOf a i) (av := .tup l) (ow := fun g => σ g = some i) (w' := w) (Nat.le_refl _) (fun _ _ _ => rfl) h.fr (fun g hg => ⟨h.lt g i hg, .inl ⟨S.length, by rw [put_len']; exact Nat.le_refl _, by unfold park; rw [if_pos hg]⟩⟩) (fun d' hd' q1 q2 => ?_)
  ·exact ⟨_, hgo⟩
  ·refine ⟨vs, τ, h1, h2, fun j b hb => ?_⟩
   obtain ⟨u, cs, u1, u2, u3⟩ := h3 j b hb
   refine ⟨u, cs, u1, u2, M_move ⟨fun _ _ _ => rfl, fun g hg hx => ?_⟩ _ (fun _ _ _ => rfl) (fun g hg _ => ⟨q1 g hg.1, hg.2⟩) (fun _ h => h) u3⟩
   rcases q2 g hx with q | q
   ·exact park_Av.1 q
   ·exact .inl ⟨i, q⟩
theorem evq_ok (hT : tabB P Θ = true) (h : RelS σ w0 W0 Z H S a w) {hn : Hn} {o : Oper} (hq : quiet o.op = true) (e : ev Θ hn S o = some (true, S')) : GoesQ P w0 W0 Z H S' a o.dst w (execOp a.eval o) := by
 unfold ev at e
 split at e
 case h_1 x ho => exact (move_ok2 h ho e).q
 case h_2 x ho => exact assign_ok h ho e
 case h_3 c x y ho => exact pick_ok h ho e
 case h_4 T ho => rw [ho] at hq; cases hq
 case h_5 T x ho => rw [ho] at hq; cases hq
 case h_6 T ps ho => exact build_ok hT h ho e
 case h_7 T n ps ho => rw [ho] at hq; cases hq
 case h_8 T x ho => exact load_ok hT h ho e
 case h_9 T x y ho => rw [ho] at hq; cases hq
 case h_10 x ho => exact nilcheck_ok h ho e
 case h_11 T x f ho => exact (fieldaddr_ok hT h ho e).q
 case h_12 T x f ho => exact field_ok hT h ho e
 case h_13 T x ix ho => exact (indexaddr_ok hT h ho e).q
 case h_14 T x ix ho => exact index_ok hT h ho e
 case h_15 x j ho => exact (extract_ok h ho e).q
 case h_16 T x lo hi mx ho => exact (slice_ok hT h ho e).q
 case h_17 T T' x ho => exact convert_okQ hT h ho e
 case h_18 op T x y p ho => exact (bin_ok hT h ho e).q
 case h_19 op T x ho => exact un_ok h ho e
 case h_20 T l c ho => rw [ho] at hq; cases hq
 case h_21 f first caps ho => exact makeFunc_ok h ho e
 case h_22 as ts ho => exact (len_ok hT h ho e).q
 case h_23 as ts ho => rw [ho] at hq; cases hq
 case h_24 => cases e
def stillE : Op → Bool
 | .extract .. => true | .indexAddr .. => true | .binOp .. => true | .slice .. => true | .move _ => true | .convert .. => true | .fieldAddr .. => true | .call { callee := .builtin .len, .. } => true | _ => false
theorem evs_ok (hT : tabB P Θ = true) (h : RelS σ w0 W0 Z H S a w) {hn : Hn} {o : Oper} (hq : stillE o.op = true) (hq2 : (match o.op with
 | .convert _ T' _ => (match Θ.find T' with
  | some i => (match i.ty with
   | .int _ => true
   | _ => false)
  | none => false)
 | _ => true) = true) (e : ev Θ hn S o = some (true, S')) : GoesS P w0 W0 Z H S' a o.dst w (execOp a.eval o) := by
 unfold stillE at hq
 split at hq
 ·rename_i x j ho
  unfold ev at e
  rw [ho] at e
  exact extract_ok h ho e
 ·rename_i T x ix ho
  unfold ev at e
  rw [ho] at e
  exact indexaddr_ok hT h ho e
 ·rename_i op T x y T' ho
  unfold ev at e
  rw [ho] at e
  exact bin_ok hT h ho e
 ·rename_i T x lo hi mx ho
  unfold ev at e
  rw [ho] at e
  exact slice_ok hT h ho e
 ·rename_i x ho
  unfold ev at e
  rw [ho] at e
  exact move_ok2 h ho e
 ·rename_i T T' x ho
  unfold ev at e
  rw [ho] at e
  rw [ho] at hq2
  exact convert_ok hT h ho hq2 e
 ·rename_i T x f ho
  unfold ev at e
  rw [ho] at e
  exact fieldaddr_ok hT h ho e
 ·rename_i as ts ho
  unfold ev at e
  rw [ho] at e
  exact len_ok hT h ho e
 ·cases hq
def addsE : Op → Bool
 | .alloc _ => true | .box .. => true | .buildSlice .. => true | .makeSlice .. => true | o => quiet o
theorem evx_ok (hT : tabB P Θ = true) (h : RelS σ w0 W0 Z H S a w) {hn : Hn} {o : Oper} (hq : addsE o.op = true) (e : ev Θ hn S o = some (true, S')) : GoesX P w0 W0 Z H S' a o.dst w (execOp a.eval o) := by
 cases hqq : quiet o.op with
 | true => exact (evq_ok hT h hqq e).adds
 | false =>
 unfold ev at e
 split at e
 case h_4 T ho => exact alloc_ok hT h ho e
 case h_5 T x ho => exact box_ok hT h ho e
 case h_7 T n ps ho => exact buildSlice_ok hT h ho e
 case h_20 T l c ho => exact makeSlice_ok hT h ho e
 case h_24 => cases e
 case h_9 T x y ho => rw [ho] at hq; cases hq
 case h_23 as ts ho => rw [ho] at hq; cases hq
 all_goals (rename_i ho; rw [ho] at hqq; cases hqq)
theorem shadow_goes (h : RelS σ w0 W0 Z H S a w) {S1 : St} {T : TypeId} {y : Operand} {s : Sem Next} {dst : Option Nat} (g : Goes P w0 W0 Z H S1 a dst w s) (hd : dst = none) : Goes P w0 W0 Z H (shadow Θ S S1 T y) a dst w s := by
 subst hd
 unfold shadow
 split
 case h_2 => exact g
 rename_i t0 s0 _
 split
 case h_2 => exact g
 rename_i t m xs hs hs1
 cases hk : m.isK with
 | true => exact g
 | false =>
 simp only [cond_false]
 obtain ⟨w', v, h1, σ', h2⟩ := g
 refine ⟨w', v, h1, ?_⟩
 have hh := h.holds s0
 rw [hs] at hh
 obtain ⟨cs, hm, hM⟩ := hh
 have hcs : ∃ A c, cs = [.slice A xs.length c] := by
  simp only [M] at hM
  rcases hM with ⟨hn, _⟩ | ⟨hk', _⟩ | ⟨T', tag, me, A, c, _, rfl, _⟩
  ·simp at hn
  ·rw [hk] at hk'; cases hk'
  ·exact ⟨A, c, rfl⟩
 have ha : a.put none v = a := rfl
 rw [ha] at h2 ⊢
 have h3 := h2.pure (dst := some s0) (av := .v ⟨.sl t, m, xs⟩ [[]]) (v := tmOf a s0) ⟨cs, hm, by
  simp only [M]
  exact .inl ⟨by simp, hk, hcs⟩⟩
 rw [put_same] at h3
 have he : S1.put (some s0) (.v ⟨.sl t, m, xs⟩ [[]]) = S1.set s0 (.v ⟨.sl t, m, xs⟩ [[]]) := by
  simp only [St.put, hs1]
  rfl
 rw [he] at h3
 exact ⟨_, h3⟩
theorem ev_ok (hT : tabB P Θ = true) (h : RelS σ w0 W0 Z H S a w) {hn : Hn} {o : Oper} (e : ev Θ hn S o = some (true, S')) : Goes P w0 W0 Z H S' a o.dst w (execOp a.eval o) := by
 cases hq : addsE o.op with
 | true => exact (evx_ok hT h hq e).goes
 | false =>
 unfold ev at e
 split at e
 case h_9 T x y ho =>
  split at e
  ·rename_i hd
   split at e
   ·rename_i g S1 he
    injection e with e
    injection e with e1 e2
    subst e1 e2
    exact shadow_goes h (store_ok hT h ho hd he) hd
   ·cases e
  ·cases e
 case h_23 as ts ho =>
  split at e
  ·rename_i r hr
   injection e with e
   subst e
   exact append_ok hT h ho hr
  ·exact append_okC hT h ho e
 case h_24 => cases e
 all_goals (rename_i ho; rw [ho] at hq; cases hq)
end Go.Pv
namespace Go.Pv
set_option linter.unusedVariables false
set_option linter.unusedSimpArgs false
variable {P : Program} {w w' : World} {A A' Wr : Nat → Prop} {H : Nat → Value} {tm tm' : Nat → Value} {S S' S1 : St} {σ σ1 σ2 : Nat → Option Nat} {w0 : World} {W0 Z : Nat → Prop} {a : Act} {own : Nat → Prop} {v : Value} {Θ : Tab} {dst : Option Nat}
def Own (σ : Nat → Option Nat) (g : Nat) : Prop := ∃ i, σ g = some i
def ArgOK (w : World) (A : Nat → Prop) (H : Nat → Value) : Arg → Value → (Nat → Prop) → Prop
 | .tv b, v, own => ∃ cs, matchV b.t v cs ∧ M w A H b.t b.m b.x cs own []
 | .fn f caps, v, _ => ∃ vs : List Value, v = .func (.func f) #[] vs.toArray ∧ vs.length = caps.length ∧ ∀ (j : Nat) (c : TV), caps[j]? = some c → ∃ u, vs[j]? = some u ∧ K w A c.t c.x [u]
abbrev Gl := Nat → Option Obj
structure In (Γ : Gl) (B : Nat → Prop) (H : Nat → Value) (w : World) (σ : Nat → Option Nat) (args : List Arg) (vals : List Value) : Prop where
 len : vals.length = args.length
 lt : ∀ g i, σ g = some i → i < args.length ∧ g < w.heap.size
 old : ∀ g, B g → σ g = none ∧ g < w.heap.size
 env : ∀ g o, Γ g = some o → σ g = none ∧ w.heap[g]? = some o
 ok : ∀ (j : Nat) (a : Arg), args[j]? = some a → ∃ v, vals[j]? = some v ∧ ArgOK w (Av σ B) H a v (fun g => σ g = some j)
def packV : List Value → Value
 | [u] => u
 | vs => .tuple vs.toArray
structure Out (B : Nat → Prop) (H : Nat → Value) (w w' : World) (σ : Nat → Option Nat) (rt : Ret) (v : Value) : Prop where
 fr : Fr w (Own σ) w'
 res : ∃ (σ' : Nat → Option Nat) (vs : List Value), v = packV vs ∧ vs.length = rt.res.length ∧ (∀ g i, σ' g = some i → (w.heap.size ≤ g ∨ Own σ g) ∧ g < w'.heap.size) ∧
  (∀ (i : Nat) (b : TV), rt.res[i]? = some b → ∃ u cs, vs[i]? = some u ∧ matchV b.t u cs ∧ M w' (Av σ' B) H b.t b.m b.x cs (fun g => σ' g = some i) []) ∧
  ∀ c, rt.refs = [c] → ∃ cs, M w' (Av σ' B) H c.t c.m c.x cs (fun g => σ' g = some rt.res.length) []
def Does (P : Program) (f : FuncId) (vals : List Value) (w : World) (R : Value → World → Prop) : Prop :=
 ((callFunc f vals.toArray).run P w = .ok (.enter f vals.toArray) w ∧ Calls P f vals.toArray w fun
  | .returned v, w' => R v w'
  | _, _ => False) ∨ ∃ v w', (callFunc f vals.toArray).run P w = .ok (.value v) w' ∧ R v w'
theorem Does.mono {f : FuncId} {vals : List Value} {R R' : Value → World → Prop} (h : Does P f vals w R) (hr : ∀ v w', R v w' → R' v w') : Does P f vals w R' := by
 rcases h with ⟨h1, h2⟩ | ⟨v, w', h1, h2⟩
 ·refine .inl ⟨h1, h2.mono fun e w' he => ?_⟩
  cases e <;> first | exact hr _ _ he | exact he
 ·exact .inr ⟨v, w', h1, hr _ _ h2⟩
def SoundAt (Γ : Gl) (P : Program) (f : FuncId) (run : List Arg → (Ret → Option Ret) → Option Ret) : Prop :=
 ∀ (args : List Arg) (kf : Ret → Option Ret) (ret : Ret) (w : World) (σ : Nat → Option Nat) (vals : List Value) (H : Nat → Value) (B : Nat → Prop), run args kf = some ret → In Γ B H w σ args vals →
  Does P f vals w fun v w' => ∃ rt, kf rt = some ret ∧ Out B H w w' σ rt v
def Sound (Γ : Gl) (P : Program) (f : FuncId) (run : List Arg → (Ret → Option Ret) → Option Ret) : Prop := SoundAt Γ P f run ∧ ∀ as, Det (run as)
def OrcS (Γ : Gl) (P : Program) (O : Orc) : Prop := ∀ f, Sound Γ P f (O.run f)
structure OrcOK (Γ : Gl) (P : Program) (O : Orc) (w0 : World) (W0 : Nat → Prop) : Prop where
 sd : OrcS Γ P O
 env : ∀ g o, Γ g = some o → ¬ W0 g ∧ w0.heap[g]? = some o
theorem OrcOK.det {Γ : Gl} {P : Program} {O : Orc} {w0 : World} {W0 : Nat → Prop} (h : OrcOK Γ P O w0 W0) : ODet O := fun f => (h.sd f).2
variable {Γ : Gl}
theorem orc_of {l : List Entry} (h : ∀ e ∈ l, Sound Γ P e.f e.run) : OrcS Γ P (Orc.of l) := by
 intro f
 have key : ∀ (l : List Entry) (e : Entry), entry l f = some e → e ∈ l ∧ e.f = f := by
  intro l
  induction l with
  | nil => intro e h; cases h
  | cons e' r ih =>
   intro e h
   simp only [entry] at h
   cases hb : Nat.beq e'.f f with
   | true =>
    rw [hb] at h
    injection h with h
    subst h
    exact ⟨by simp, Nat.eq_of_beq_eq_true hb⟩
   | false =>
    rw [hb] at h
    obtain ⟨h1, h2⟩ := ih e h
    exact ⟨by simp [h1], h2⟩
 simp only [Orc.of]
 split
 ·rename_i e he
  obtain ⟨h1, h2⟩ := key l e he
  rw [← h2]
  exact h e h1
 ·exact ⟨fun args kf ret w σ vals H B hr => (by cases hr), fun _ => Det.none⟩
theorem K_free : ∀ (t : Ty) {x : t.I} {cs : List Value}, memfree t = true → K w A t x cs → K w' A' t x cs
 | .int _, _, _, _, h => h
 | .bool, _, _, _, h => h
 | .str, _, _, _, h => h
 | .unit, _, _, _, h => h
 | .pair a b, x, cs, hf, h => by
  simp only [memfree, Bool.and_eq_true] at hf
  simp only [K] at h ⊢
  obtain ⟨c0, c1, rfl, h0, h1⟩ := h
  exact ⟨c0, c1, rfl, K_free a hf.1 h0, K_free b hf.2 h1⟩
 | .arr n t, x, cs, hf, h => by
  simp only [memfree] at hf
  simp only [K] at h ⊢
  obtain ⟨css, rfl, hl, hx, hj⟩ := h
  exact ⟨css, rfl, hl, hx, fun j h1 h2 => K_free t hf (hj j h1 h2)⟩
theorem M_solid : ∀ (t : Ty) {m : Md} {x : t.I} {cs : List Value} {ow : Nat → Prop}, solid t m = true → M w A H t m x cs ow [] → M w A' H t m x cs ow []
 | .sl t, .o T tag me, xs, cs, ow, hs, h => by
  simp only [solid] at hs
  simp only [M] at h ⊢
  rcases h with ⟨hn, _⟩ | ⟨hk, _⟩ | ⟨T, tag, me, X, c, e1, e2, hc, ht, h⟩
  ·simp at hn
  ·simp [Md.isK] at hk
  ·injection e1 with e1 e1' e1''
   subst e1 e1' e1''
   refine .inr (.inr ⟨_, _, _, X, c, rfl, e2, hc, ht, ?_⟩)
   rcases h with h | ⟨g, cur, τ, h1, h2, h3, h4, h5, h6⟩
   ·exact .inl h
   ·exact .inr ⟨g, cur, τ, h1, h2, h3, h4, h5, fun j hj => M_solid t hs (h6 j hj)⟩
 | .ptr t, .o T tag me, x, cs, ow, hs, h => by
  simp only [solid] at hs
  simp only [M] at h ⊢
  rcases h with ⟨hn, _⟩ | ⟨hk, _⟩ | ⟨T, tag, me, g, cur, e1, e2, ht, hg, hw, h⟩
  ·simp at hn
  ·simp [Md.isK] at hk
  ·injection e1 with e1 e1' e1''
   subst e1 e1' e1''
   exact .inr (.inr ⟨_, _, _, g, cur, rfl, e2, ht, hg, hw, M_solid t hs h⟩)
 | .pair a b, .p ma mb, x, cs, ow, hs, h => by
  simp only [solid, Bool.and_eq_true] at hs
  simp only [M] at h ⊢
  rcases h with ⟨hn, _⟩ | ⟨hk, h⟩ | ⟨ma, mb, c0, c1, s, e1, e2, h0, h1⟩
  ·simp at hn
  ·simp only [K] at h
   simp only [Md.isK, Bool.and_eq_true] at hk
   obtain ⟨c0, c1, e2, h0, h1⟩ := h
   refine .inr (.inr ⟨ma, mb, c0, c1, fun _ => True, rfl, e2, M_solid a hs.1 (K_M hk.1 h0), M_solid b hs.2 (K_M hk.2 h1)⟩)
  ·injection e1 with e1 e1'
   subst e1 e1'
   exact .inr (.inr ⟨_, _, c0, c1, s, rfl, e2, M_solid a hs.1 h0, M_solid b hs.2 h1⟩)
 | .sl t, .k, xs, cs, ow, hs, h => by simp [solid, memfree] at hs
 | .sl t, .p _ _, xs, cs, ow, hs, h => by simp [solid, memfree] at hs
 | .ptr t, .k, xs, cs, ow, hs, h => by simp [solid, memfree] at hs
 | .ptr t, .p _ _, xs, cs, ow, hs, h => by simp [solid, memfree] at hs
 | .pair a b, .k, xs, cs, ow, hs, h => by
  simp only [solid, Bool.and_eq_true] at hs
  exact K_M hs.1 (K_free _ hs.2 (M_isK _ hs.1 h))
 | .pair a b, .o .., xs, cs, ow, hs, h => by simp [solid, Md.isK] at hs
 | .int k, m, x, cs, ow, hs, h => by simp only [M, K] at h ⊢; exact h
 | .bool, m, x, cs, ow, hs, h => by simp only [M, K] at h ⊢; exact h
 | .str, m, x, cs, ow, hs, h => by simp only [M, K] at h ⊢; exact h
 | .unit, m, x, cs, ow, hs, h => by simp only [M, K] at h ⊢; exact h
 | .arr n t, m, x, cs, ow, hs, h => by
  have hs : (m.isK && memfree (.arr n t)) = true := by cases m <;> exact hs
  simp only [Bool.and_eq_true] at hs
  exact K_M hs.1 (K_free _ hs.2 (M_isK _ hs.1 h))
def Pk (σ : Nat → Option Nat) (n : Nat) (g : Nat) : Prop := ∃ i, n ≤ i ∧ σ g = some i
theorem M_Pk {t : Ty} {m : Md} {x : t.I} {cs : List Value} {s n : Nat} {ow : Nat → Prop} (hs : s < n) (ho : ∀ g, ow g → σ g = some s) (h : M w (Av σ Z) H t m x cs ow []) : K w (Pk σ n) t x cs :=
 M_K (fun g _ hg => by obtain ⟨i, _, hi⟩ := hg; exact .inl ⟨i, hi⟩) t rfl (fun g hg hx => by
  obtain ⟨i, hi, hi2⟩ := hx
  rw [ho g hg] at hi2
  injection hi2 with hi2
  omega) h
theorem rdP_spec (h : RelS σ w0 W0 Z H S a w) {T : TypeId} {x : Operand} {av : AV} {b : TV} (ho : S.opv Θ T x = some av) (e : S.rdA av = some b) :
  ∃ cs, matchV b.t (a.eval x) cs ∧ K w (Pk σ S.length) b.t b.x cs := by
 have hh := opv_holds h ho
 cases av with
 | v a0 ex =>
  cases ex with
  | cons _ _ => simp [St.rdA] at e
  | nil =>
   simp only [St.rdA, Option.some.injEq] at e
   subst e
   obtain ⟨cs, h1, h2⟩ := hh
   cases x with
   | tmp i =>
    simp only [St.opv, Option.some.injEq] at ho
    exact ⟨cs, h1, M_Pk (s := i) (at_lt (by rw [ho]; exact fun e => by cases e)) (fun g hg => by obtain ⟨j, hj, hg⟩ := hg; injection hj with hj; subst hj; exact hg) h2⟩
   | const c => exact ⟨cs, h1, M_K (fun g _ hg => by obtain ⟨i, _, hi⟩ := hg; exact .inl ⟨i, hi⟩) _ rfl (fun g hg => by obtain ⟨j, hj, _⟩ := hg; cases hj) h2⟩
   | func f => exact ⟨cs, h1, M_K (fun g _ hg => by obtain ⟨i, _, hi⟩ := hg; exact .inl ⟨i, hi⟩) _ rfl (fun g hg => by obtain ⟨j, hj, _⟩ := hg; cases hj) h2⟩
   | global f => exact ⟨cs, h1, M_K (fun g _ hg => by obtain ⟨i, _, hi⟩ := hg; exact .inl ⟨i, hi⟩) _ rfl (fun g hg => by obtain ⟨j, hj, _⟩ := hg; cases hj) h2⟩
 | al t s p =>
  simp only [St.rdA] at e
  obtain ⟨r, cs0, cs, hr, hc, hm⟩ := hh
  obtain ⟨rfl, ow', k2, k3⟩ := place_read h hr hc e
  obtain ⟨ex0, hs0, _⟩ := hr.at_
  exact ⟨cs, hm, M_Pk (s := s) (at_lt (by rw [hs0]; exact fun e => by cases e)) k2 k3⟩
 | cut t s p lo hi =>
  simp only [St.rdA] at e
  obtain ⟨r, cs0, t', X, n, c, hr, rfl, hc, hlo, hhi, hv⟩ := hh
  cases hp : S.place s p with
  | none => rw [hp] at e; cases e
  | some b' =>
   obtain ⟨ht, ow', k2, k3⟩ := place_read h hr hc hp
   obtain ⟨bt, bm, bx⟩ := b'
   simp only at ht
   subst ht
   rw [hp] at e
   simp only [Option.some.injEq] at e
   subst e
   obtain ⟨ex0, hs0, _⟩ := hr.at_
   have hK := M_Pk (s := s) (n := S.length) (at_lt (by rw [hs0]; exact fun e => by cases e)) k2 k3
   have hn : n = List.length bx := by
    simp only [K] at hK
    obtain ⟨_, _, e, _⟩ := hK
    simp only [List.cons.injEq, Value.slice.injEq, and_true] at e
    exact e.2.1
   subst hn
   rw [hv]
   exact ⟨_, by simp [matchV, isAgg], K_cut hK hlo hhi⟩
 | _ => simp [St.rdA] at e
theorem Pk_stays {n : Nat} : Stays w w (Av σ Z) (Pk σ n) := ⟨fun _ _ _ => rfl, fun g _ hg => by obtain ⟨i, _, hi⟩ := hg; exact .inl ⟨i, hi⟩⟩
theorem capTVs_spec (h : RelS σ w0 W0 Z H S a w) : ∀ {caps : List Cap} {l : List TV} {vs : List Value}, capTVs S caps = some l → vs.length = caps.length → (∀ (j : Nat) (c : Cap), caps[j]? = some c → ∃ u, vs[j]? = some u ∧ HoldsCap w (Av σ Z) (tmOf a) S c u) →
  l.length = caps.length ∧ ∀ (j : Nat) (c : TV), l[j]? = some c → ∃ u, vs[j]? = some u ∧ K w (Pk σ S.length) c.t c.x [u]
 | [], l, vs, e, _, _ => by
  simp only [capTVs, Option.some.injEq] at e
  subst e
  exact ⟨rfl, fun j c hj => by simp at hj⟩
 | c :: caps, l, vs, e, hl, hv => by
  simp only [capTVs] at e
  split at e
  case h_2 => cases e
  rename_i b l2 hb hl2
  simp only [Option.some.injEq] at e
  subst e
  match vs, hl with
  | u :: vs, hl =>
   obtain ⟨h1, h2⟩ := capTVs_spec h (vs := vs) hl2 (by simpa using hl) (fun j c hj => by simpa using hv (j + 1) c (by simpa using hj))
   refine ⟨by simp [h1], fun j c' hj => ?_⟩
   cases j with
   | succ j => simpa using h2 j c' (by simpa using hj)
   | zero =>
    simp only [List.getElem?_cons_zero, Option.some.injEq] at hj
    subst hj
    obtain ⟨u', hu, hc⟩ := hv 0 c rfl
    simp only [List.getElem?_cons_zero, Option.some.injEq] at hu
    subst hu
    refine ⟨u, rfl, ?_⟩
    cases c with
    | kv b' =>
     simp only [capTV, Option.some.injEq] at hb
     subst hb
     exact K_stays Pk_stays _ hc
    | pl t s p =>
     simp only [capTV] at hb
     split at hb
     case h_2 => cases hb
     rename_i b' hp
     simp only [Option.some.injEq] at hb
     subst hb
     obtain ⟨r, cs0, cs, hr, hcl, hm⟩ := hc
     obtain ⟨hbt, ow', k2, k3⟩ := place_read h hr hcl hp
     obtain ⟨ex0, hs0, _⟩ := hr.at_
     have hK := M_Pk (s := s) (n := S.length) (at_lt (by rw [hs0]; exact fun e => by cases e)) k2 k3
     have : cs = [u] := by simpa [matchV, isAgg] using hm
     rw [this] at hK
     exact hK
theorem takes_spec : ∀ (xs : List Operand) (Ts : List TypeId) (ps : List Pass) (j : Nat) {S S1 : St} {σ : Nat → Option Nat} {l : List (Option TV)}, RelS σ w0 W0 Z H S a w → takes Θ S xs Ts ps = some (l, S1) →
  ∃ (σ1 : Nat → Option Nat) (ow : Nat → Prop) (τ : Nat → Nat), RelS σ1 w0 W0 Z H S1 a w ∧ S1.length = S.length ∧ Took σ σ1 S.length ow ∧ l.length = xs.length ∧ (∀ g, ow g → j ≤ τ g ∧ τ g < j + l.length) ∧
   ((∀ p ∈ ps, p = .val) → ∀ g, ¬ ow g) ∧
   ∀ (k : Nat) (b : TV), l[k]? = some (some b) → ∃ x cs, xs[k]? = some x ∧ matchV b.t (a.eval x) cs ∧ M w (Av σ Z) H b.t b.m b.x cs (fun g => ow g ∧ τ g = j + k) []
 | [], Ts, ps, j, S, S1, σ, l, h, e => by
  simp only [takes, Option.some.injEq, Prod.mk.injEq] at e
  obtain ⟨rfl, rfl⟩ := e
  exact ⟨σ, fun _ => False, fun _ => j, h, rfl, Took.none _ _, rfl, fun _ h => h.elim, fun _ _ h => h, fun k b hk => by simp at hk⟩
 | x :: xs, [], ps, j, S, S1, σ, l, h, e => by simp [takes] at e
 | x :: xs, T :: Ts, [], j, S, S1, σ, l, h, e => by simp [takes] at e
 | x :: xs, T :: Ts, p :: ps, j, S, S1, σ, l, h, e => by
  simp only [takes] at e
  split at e
  ·split at e
   case h_2 => cases e
   rename_i r hr
   simp only [Option.some.injEq, Prod.mk.injEq] at e
   obtain ⟨rfl, rfl⟩ := e
   obtain ⟨σ1, ow, τ, k1, k2, k3, k4, k5, k6, k7⟩ := takes_spec xs Ts ps (j + 1) h hr
   refine ⟨σ1, ow, τ, k1, k2, k3, by simp [k4], fun g hg => by have := k5 g hg; simp only [List.length_cons]; omega, fun hp => k6 (fun p hp' => hp p (by simp [hp'])), fun k b hk => ?_⟩
   cases k with
   | zero => simp at hk
   | succ k =>
    obtain ⟨x', cs, q1, q2, q3⟩ := k7 k b (by simpa using hk)
    exact ⟨x', cs, by simpa using q1, q2, by rw [show j + (k + 1) = j + 1 + k from by omega]; exact q3⟩
  rotate_left
  ·cases e
  ·unfold St.take at e
   split at e
   case h_2 => cases e
   rename_i b S2 hb
   split at hb
   case h_2 => cases hb
   rename_i av hav
   split at e
   case h_2 => cases e
   rename_i r hr
   simp only [Option.some.injEq, Prod.mk.injEq] at e
   obtain ⟨rfl, rfl⟩ := e
   obtain ⟨σ1, cs, ow, h1, hm, hM, hk, hn⟩ := takeA_spec h hav hb
   obtain ⟨σ2, ow2, τ, k1, k2, k3, k4, k5, k6, k7⟩ := takes_spec xs Ts ps (j + 1) h1 hr
   rw [hn] at k3
   have hap : ∀ g, ow g → ¬ ow2 g := fun g hg => hk.apart k3 hg
   let τ' : Nat → Nat := fun g => open Classical in if ow g then j else τ g
   refine ⟨σ2, fun g => ow g ∨ ow2 g, τ', k1, by omega, hk.trans k3, by simp [k4], fun g hg => ?_, fun hp => (fun hx : Pass.take = Pass.val => nomatch hx) (hp .take (by simp)), fun k b' hk' => ?_⟩
   ·simp only [τ', List.length_cons]
    split
    ·omega
    ·rename_i hx
     have := k5 g (hg.resolve_left hx)
     omega
   ·cases k with
    | zero =>
     simp only [List.getElem?_cons_zero, Option.some.injEq] at hk'
     subst hk'
     refine ⟨x, cs, rfl, hm, M_move (Stays.refl _ _) _ (fun _ _ _ => rfl) (fun g hg _ => ⟨.inl hg, by simp only [τ', if_pos hg, Nat.add_zero]⟩) (fun _ h => h) hM⟩
    | succ k =>
     obtain ⟨x', cs', q1, q2, q3⟩ := k7 k b' (by simpa using hk')
     refine ⟨x', cs', by simpa using q1, q2, M_move ⟨fun _ _ _ => rfl, fun g _ hg => hk.Av.2 hg⟩ _ (fun _ _ _ => rfl) (fun g hg _ => ⟨.inr hg.1, ?_⟩) (fun _ h => h) q3⟩
     simp only [τ']
     rw [if_neg (fun hx => hap g hx hg.1), hg.2]
     omega
theorem reads_spec (h : RelS σ w0 W0 Z H S a w) : ∀ (xs : List Operand) (Ts : List TypeId) (l : List (Option TV)) {as : List Arg}, l.length = xs.length → reads Θ S xs Ts l = some as →
  as.length = xs.length ∧ ∀ (k : Nat) (r : Arg), as[k]? = some r → (∃ b, l[k]? = some (some b) ∧ r = .tv b) ∨ ∃ x, xs[k]? = some x ∧ ∀ H, ArgOK w (Pk σ S.length) H r (a.eval x) (fun _ => False)
 | [], Ts, l, as, _, e => by
  simp only [reads, Option.some.injEq] at e
  subst e
  exact ⟨rfl, fun k r hk => by simp at hk⟩
 | x :: xs, [], l, as, hl, e => by simp [reads] at e
 | x :: xs, T :: Ts, [], as, hl, e => by simp at hl
 | x :: xs, T :: Ts, p :: ps, as, hl, e => by
  have hl' : ps.length = xs.length := by simpa using hl
  simp only [reads] at e
  split at e
  ·rename_i b
   split at e
   case h_2 => cases e
   rename_i r hr
   simp only [Option.some.injEq] at e
   subst e
   obtain ⟨h1, h2⟩ := reads_spec h xs Ts ps hl' hr
   refine ⟨by simp [h1], fun k r' hk => ?_⟩
   cases k with
   | zero =>
    simp only [List.getElem?_cons_zero, Option.some.injEq] at hk
    exact .inl ⟨b, rfl, hk.symm⟩
   | succ k => simpa using h2 k r' (by simpa using hk)
  ·split at e
   ·rename_i f caps hav
    split at e
    case h_2 => cases e
    rename_i cs r hcs hr
    simp only [Option.some.injEq] at e
    subst e
    obtain ⟨h1, h2⟩ := reads_spec h xs Ts ps hl' hr
    refine ⟨by simp [h1], fun k r' hk => ?_⟩
    cases k with
    | zero =>
     simp only [List.getElem?_cons_zero, Option.some.injEq] at hk
     subst hk
     obtain ⟨vs, v1, v2, v3⟩ := opv_holds h hav
     obtain ⟨c1, c2⟩ := capTVs_spec h hcs v2 v3
     exact .inr ⟨x, rfl, fun _ => ⟨vs, v1, by omega, c2⟩⟩
    | succ k => simpa using h2 k r' (by simpa using hk)
   ·rename_i av _ hav
    split at e
    case h_2 => cases e
    rename_i b r hb hr
    simp only [Option.some.injEq] at e
    subst e
    obtain ⟨h1, h2⟩ := reads_spec h xs Ts ps hl' hr
    refine ⟨by simp [h1], fun k r' hk => ?_⟩
    cases k with
    | zero =>
     simp only [List.getElem?_cons_zero, Option.some.injEq] at hk
     subst hk
     obtain ⟨cs, c1, c2⟩ := rdP_spec h hav hb
     exact .inr ⟨x, rfl, fun _ => ⟨cs, c1, M_of_K _ c2⟩⟩
    | succ k => simpa using h2 k r' (by simpa using hk)
   ·cases e
theorem reads_fine (h : RelS σ w0 W0 Z H S a w) : ∀ (xs : List Operand) (Ts : List TypeId) (l : List (Option TV)) {as : List Arg}, l.length = xs.length → reads Θ S xs Ts l = some as → fines S xs l as = true →
  ∀ (k : Nat) (r : Arg), as[k]? = some r → (∃ b, l[k]? = some (some b) ∧ r = .tv b) ∨ ∃ x, xs[k]? = some x ∧ ∀ H, ArgOK w (Av σ Z) H r (a.eval x) (fun _ => False)
 | [], Ts, l, as, _, e, _ => by
  simp only [reads, Option.some.injEq] at e
  subst e
  exact fun k r hk => by simp at hk
 | x :: xs, [], l, as, hl, e, _ => by simp [reads] at e
 | x :: xs, T :: Ts, [], as, hl, e, _ => by simp at hl
 | x :: xs, T :: Ts, p :: ps, as, hl, e, hf => by
  have hl' : ps.length = xs.length := by simpa using hl
  have hall := (reads_spec h (x :: xs) (T :: Ts) (p :: ps) hl e).2
  simp only [reads] at e
  split at e
  ·rename_i b
   split at e
   case h_2 => cases e
   rename_i r hr
   simp only [Option.some.injEq] at e
   subst e
   simp only [fines, Bool.true_or, Bool.true_and] at hf
   have h2 := reads_fine h xs Ts ps hl' hr hf
   intro k r' hk
   cases k with
   | zero =>
    simp only [List.getElem?_cons_zero, Option.some.injEq] at hk
    exact .inl ⟨b, rfl, hk.symm⟩
   | succ k => simpa using h2 k r' (by simpa using hk)
  ·split at e
   ·rename_i f caps hav
    split at e
    case h_2 => cases e
    rename_i cs r hcs hr
    simp only [Option.some.injEq] at e
    subst e
    simp only [fines, Bool.false_or, Bool.and_eq_true, List.isEmpty_iff] at hf
    obtain ⟨hf1, hf2⟩ := hf
    have h2 := reads_fine h xs Ts ps hl' hr hf2
    intro k r' hk
    cases k with
    | succ k => simpa using h2 k r' (by simpa using hk)
    | zero =>
     simp only [List.getElem?_cons_zero, Option.some.injEq] at hk
     subst hk
     rcases hall 0 _ rfl with ⟨b', hb', _⟩ | ⟨x', hx', hok⟩
     ·simp at hb'
     ·simp only [List.getElem?_cons_zero, Option.some.injEq] at hx'
      subst hx'
      refine .inr ⟨x, rfl, fun H' => ?_⟩
      obtain ⟨vs, v1, v2, v3⟩ := hok H'
      exact ⟨vs, v1, v2, fun j c hj => by rw [hf1] at hj; simp at hj⟩
   ·rename_i av _ hav
    split at e
    case h_2 => cases e
    rename_i b r hb hr
    simp only [Option.some.injEq] at e
    subst e
    simp only [fines, Bool.false_or, Bool.and_eq_true, Bool.or_eq_true] at hf
    obtain ⟨hf1, hf2⟩ := hf
    have h2 := reads_fine h xs Ts ps hl' hr hf2
    intro k r' hk
    cases k with
    | succ k => simpa using h2 k r' (by simpa using hk)
    | zero =>
     simp only [List.getElem?_cons_zero, Option.some.injEq] at hk
     subst hk
     rcases hf1 with hs | hs
     ·rcases hall 0 _ rfl with ⟨b', hb', _⟩ | ⟨x', hx', hok⟩
      ·simp at hb'
      ·simp only [List.getElem?_cons_zero, Option.some.injEq] at hx'
       subst hx'
       refine .inr ⟨x, rfl, fun H' => ?_⟩
       obtain ⟨cs, c1, c2⟩ := hok H'
       exact ⟨cs, c1, M_solid _ hs c2⟩
     ·refine .inr ⟨x, rfl, fun H' => ?_⟩
      have hh := opv_holds h hav
      cases x with
      | func f => simp [fineA] at hs
      | global f => simp [fineA] at hs
      | tmp i =>
       simp only [St.opv, Option.some.injEq] at hav
       subst hav
       simp only [fineA] at hs
       split at hs
       ·rename_i b0 hb0
        rw [hb0] at hh hb
        simp only [St.rdA, Option.some.injEq] at hb
        subst hb
        obtain ⟨cs, c1, c2⟩ := hh
        exact ⟨cs, c1, K_M rfl (M_isK _ hs c2)⟩
       ·cases hs
      | const c =>
       have hk : ∀ a0, av = .v a0 [] → ∀ H', ArgOK w (Av σ Z) H' (.tv (kTV b)) (a.eval (.const c)) fun _ => False := fun a0 e H' => by
        subst e
        simp only [St.rdA, Option.some.injEq] at hb
        subst hb
        have hh := opv_holds h hav
        obtain ⟨cs, c1, c2⟩ := hh
        exact ⟨cs, c1, K_M rfl (M_K (fun g _ hg => hg) _ rfl (fun g hg => by obtain ⟨j, hj, _⟩ := hg; cases hj) c2)⟩
       simp only [St.opv] at hav
       cases hc : constTV Θ T c with
       | none => rw [hc] at hav; cases hav
       | some a0 =>
        rw [hc] at hav
        simp only [Option.map_some, Option.some.injEq] at hav
        exact hk a0 hav.symm H'
   ·cases e
end Go.Pv
namespace Go.Pv
set_option linter.unusedVariables false
set_option linter.unusedSimpArgs false
variable {P : Program} {w w' : World} {A A' B Wr : Nat → Prop} {H H' : Nat → Value}
theorem M_bare : ∀ (t : Ty) {m : Md} {x : t.I} {cs : List Value} {ow : Nat → Prop} {hs : List Path}, bareM m = true → M w A H t m x cs ow hs → M w A H' t m x cs ow hs
 | .int _, _, _, _, _, _, _, h => by simp only [M] at h ⊢; exact h
 | .bool, _, _, _, _, _, _, h => by simp only [M] at h ⊢; exact h
 | .str, _, _, _, _, _, _, h => by simp only [M] at h ⊢; exact h
 | .unit, _, _, _, _, _, _, h => by simp only [M] at h ⊢; exact h
 | .arr _ _, _, _, _, _, _, _, h => by simp only [M] at h ⊢; exact h
 | .sl t, m, xs, cs, ow, hs, hb, h => by
  simp only [M] at h ⊢
  rcases h with h | h | ⟨T, tag, me, X, c, rfl, e2, hc, ht, h⟩
  ·exact .inl h
  ·exact .inr (.inl h)
  ·simp only [bareM, Bool.and_eq_true] at hb
   obtain ⟨hb1, hb2⟩ := hb
   cases tag with
   | some _ => cases hb1
   | none =>
    refine .inr (.inr ⟨T, none, me, X, c, rfl, e2, hc, fun h hh => (by cases hh), ?_⟩)
    rcases h with h | ⟨g, cur, τ, h1, h2, h3, h4, h5, h6⟩
    ·exact .inl h
    ·exact .inr ⟨g, cur, τ, h1, h2, h3, h4, h5, fun j hj => M_bare t hb2 (h6 j hj)⟩
 | .ptr t, m, x, cs, ow, hs, hb, h => by
  simp only [M] at h ⊢
  rcases h with h | h | ⟨T, tag, me, g, cur, rfl, e2, ht, hg, hw, h⟩
  ·exact .inl h
  ·exact .inr (.inl h)
  ·simp only [bareM, Bool.and_eq_true] at hb
   obtain ⟨hb1, hb2⟩ := hb
   cases tag with
   | some _ => cases hb1
   | none => exact .inr (.inr ⟨T, none, me, g, cur, rfl, e2, fun h hh => (by cases hh), hg, hw, M_bare t hb2 h⟩)
 | .pair a b, m, x, cs, ow, hs, hb, h => by
  simp only [M] at h ⊢
  rcases h with h | h | ⟨ma, mb, c0, c1, s, rfl, e2, h0, h1⟩
  ·exact .inl h
  ·exact .inr (.inl h)
  ·simp only [bareM, Bool.and_eq_true] at hb
   exact .inr (.inr ⟨ma, mb, c0, c1, s, rfl, e2, M_bare a hb.1 h0, M_bare b hb.2 h1⟩)
theorem tagM_isK : ∀ (t : Ty) {m : Md} {n : Nat}, m.isK = true → (tagM t m n).isK = true
 | .int _, m, n, h => by simpa [tagM] using h
 | .bool, m, n, h => by simpa [tagM] using h
 | .str, m, n, h => by simpa [tagM] using h
 | .unit, m, n, h => by simpa [tagM] using h
 | .arr _ _, m, n, h => by simpa [tagM] using h
 | .sl t, m, n, h => by cases m <;> simp_all [tagM, Md.isK]
 | .ptr t, m, n, h => by cases m <;> simp_all [tagM, Md.isK]
 | .pair a b, m, n, h => by
  cases m with
  | k => simp [tagM, Md.isK]
  | o => simp [Md.isK] at h
  | p ma mb =>
   simp only [Md.isK, Bool.and_eq_true] at h
   simp only [tagM, Md.isK, Bool.and_eq_true]
   exact ⟨tagM_isK a h.1, tagM_isK b h.2⟩
theorem mergeV_isK : ∀ (t : Ty) {m : Md} {x y : t.I}, m.isK = true → mergeV t m x y = x
 | .int _, m, x, y, h => rfl
 | .bool, m, x, y, h => rfl
 | .str, m, x, y, h => rfl
 | .unit, m, x, y, h => rfl
 | .arr _ _, m, x, y, h => rfl
 | .sl t, m, x, y, h => by cases m <;> simp_all [mergeV, Md.isK]
 | .ptr t, m, x, y, h => by cases m <;> simp_all [mergeV, Md.isK]
 | .pair a b, m, x, y, h => by
  cases m with
  | k => simp [mergeV]
  | o => simp [Md.isK] at h
  | p ma mb =>
   simp only [Md.isK, Bool.and_eq_true] at h
   simp only [mergeV]
   rw [mergeV_isK a h.1, mergeV_isK b h.2]
theorem M_tag : ∀ (t : Ty) {m : Md} {x : t.I} {cs : List Value} {ow : Nat → Prop} {n : Nat}, lendable t m = true → M w A H t m x cs ow [] → (∀ (j : Nat) (u : Value), cs[j]? = some u → H' (n + j) = u) → M w A H' t (tagM t m n) x cs ow []
 | .int _, _, _, _, _, _, _, h, _ => by simp only [M, tagM] at h ⊢; exact h
 | .bool, _, _, _, _, _, _, h, _ => by simp only [M, tagM] at h ⊢; exact h
 | .str, _, _, _, _, _, _, h, _ => by simp only [M, tagM] at h ⊢; exact h
 | .unit, _, _, _, _, _, _, h, _ => by simp only [M, tagM] at h ⊢; exact h
 | .arr _ _, _, _, _, _, _, _, h, _ => by simp only [M, tagM] at h ⊢; exact h
 | .sl t, m, xs, cs, ow, n, hl, h, hH => by
  simp only [M] at h ⊢
  rcases h with ⟨h, _⟩ | ⟨hk, h⟩ | ⟨T, tag, me, X, c, rfl, rfl, hc, ht, h⟩
  ·simp at h
  ·exact .inr (.inl ⟨tagM_isK (.sl t) hk, h⟩)
  ·simp only [lendable, Bool.and_eq_true] at hl
   refine .inr (.inr ⟨T, some n, me, X, c, rfl, rfl, hc, fun h hh => ?_, ?_⟩)
   ·injection hh with hh
    subst hh
    exact hH 0 _ rfl
   ·rcases h with h | ⟨g, cur, τ, h1, h2, h3, h4, h5, h6⟩
    ·exact .inl h
    ·exact .inr ⟨g, cur, τ, h1, h2, h3, h4, h5, fun j hj => M_bare t hl (h6 j hj)⟩
 | .ptr t, m, x, cs, ow, n, hl, h, hH => by
  simp only [M] at h ⊢
  rcases h with ⟨h, _⟩ | ⟨hk, h⟩ | ⟨T, tag, me, g, cur, rfl, rfl, ht, hg, hw, h⟩
  ·simp at h
  ·exact .inr (.inl ⟨tagM_isK (.ptr t) hk, h⟩)
  ·simp only [lendable, Bool.and_eq_true] at hl
   refine .inr (.inr ⟨T, some n, me, g, cur, rfl, rfl, fun h hh => ?_, hg, hw, M_bare t hl h⟩)
   injection hh with hh
   subst hh
   exact hH 0 _ rfl
 | .pair a b, m, x, cs, ow, n, hl, h, hH => by
  simp only [M] at h ⊢
  rcases h with ⟨h, _⟩ | ⟨hk, h⟩ | ⟨ma, mb, c0, c1, s, rfl, rfl, h0, h1⟩
  ·simp at h
  ·exact .inr (.inl ⟨tagM_isK (.pair a b) hk, h⟩)
  ·simp only [lendable, Bool.and_eq_true] at hl
   have hl0 := (M_ok a h0).1
   refine .inr (.inr ⟨_, _, c0, c1, s, rfl, rfl, M_tag a hl.1 h0 (fun j u hj => hH j u ?_), M_tag b hl.2 h1 (fun j u hj => ?_)⟩)
   ·rw [List.getElem?_append_left (List.getElem?_eq_some_iff.1 hj).1]; exact hj
   ·rw [Nat.add_assoc]
    refine hH (a.size + j) u ?_
    rw [List.getElem?_append_right (by omega), hl0, Nat.add_sub_cancel_left]
    exact hj
theorem M_untag (hst : Stays w w' A A') : ∀ (t : Ty) {m : Md} {x y : t.I} {cs cs' : List Value} {ow ow' : Nat → Prop} {n : Nat}, lendable t m = true → (lendS t m = true ∨ Stays w' w' B A') → M w A H t m x cs ow [] → (∀ (j : Nat) (u : Value), cs[j]? = some u → H' (n + j) = u) →
  M w' B H' t (tagM t m n) y cs' ow' [] → M w' A' H t m (mergeV t m x y) cs ow' []
 | .int _, _, _, _, _, _, _, _, _, _, _, h, _, _ => by simp only [M, mergeV] at h ⊢; exact ⟨h.1, K_stays hst _ h.2⟩
 | .bool, _, _, _, _, _, _, _, _, _, _, h, _, _ => by simp only [M, mergeV] at h ⊢; exact ⟨h.1, K_stays hst _ h.2⟩
 | .str, _, _, _, _, _, _, _, _, _, _, h, _, _ => by simp only [M, mergeV] at h ⊢; exact ⟨h.1, K_stays hst _ h.2⟩
 | .unit, _, _, _, _, _, _, _, _, _, _, h, _, _ => by simp only [M, mergeV] at h ⊢; exact ⟨h.1, K_stays hst _ h.2⟩
 | .arr _ _, _, _, _, _, _, _, _, _, _, _, h, _, _ => by simp only [M, mergeV] at h ⊢; exact ⟨h.1, K_stays hst _ h.2⟩
 | .sl t, m, xs, ys, cs, cs', ow, ow', n, hl, hB, h, hH, h' => by
  simp only [M] at h
  rcases h with ⟨h, _⟩ | ⟨hk, h⟩ | ⟨T, tag, me, X, c, rfl, rfl, hc, ht, h⟩
  ·simp at h
  ·rw [mergeV_isK _ hk]
   exact K_M hk (K_stays hst _ h)
  ·simp only [lendable, Bool.and_eq_true] at hl
   simp only [tagM, M] at h'
   rcases h' with ⟨h', _⟩ | ⟨hk, _⟩ | ⟨T2, tag2, me2, X2, c2, e1, e2, hc2, ht2, h'⟩
   ·simp at h'
   ·simp [Md.isK] at hk
   ·injection e1 with e1 e1' e1''
    subst e1 e1' e1''
    have q1 := ht2 n rfl
    rw [show H' n = .slice X xs.length c from hH 0 _ rfl] at q1
    injection q1 with q1 q2 q3
    subst q1 q3
    simp only [M, mergeV]
    refine .inr (.inr ⟨T, tag, me, X, c, rfl, by rw [q2], hc2, fun h hh => by rw [ht h hh, q2], ?_⟩)
    rcases h' with h' | ⟨g, cur, τ, k1, k2, k3, k4, k5, k6⟩
    ·exact .inl h'
    ·exact .inr ⟨g, cur, τ, k1, k2, k3, k4, k5, fun j hj => hB.elim (fun hs => M_solid t hs (M_bare t hl (k6 j hj))) fun hst => M_move hst t (fun _ _ _ => rfl) (fun _ h _ => h) (fun _ h => h) (M_bare t hl (k6 j hj))⟩
 | .ptr t, m, x, y, cs, cs', ow, ow', n, hl, hB, h, hH, h' => by
  simp only [M] at h
  rcases h with ⟨h, _⟩ | ⟨hk, h⟩ | ⟨T, tag, me, g, cur, rfl, rfl, ht, hg, hw, h⟩
  ·simp at h
  ·rw [mergeV_isK _ hk]
   exact K_M hk (K_stays hst _ h)
  ·simp only [lendable, Bool.and_eq_true] at hl
   simp only [tagM, M] at h'
   rcases h' with ⟨h', _⟩ | ⟨hk, _⟩ | ⟨T2, tag2, me2, g2, cur2, e1, e2, ht2, hg2, hw2, h'⟩
   ·simp at h'
   ·simp [Md.isK] at hk
   ·injection e1 with e1 e1' e1''
    subst e1 e1' e1''
    have q1 := ht2 n rfl
    rw [show H' n = .pointer (some ⟨g, 0, none⟩) from hH 0 _ rfl] at q1
    injection q1 with q1
    injection q1 with q1
    injection q1 with q1
    subst q1
    simp only [M, mergeV]
    exact .inr (.inr ⟨T, tag, me, g, cur2, rfl, rfl, ht, hg2, hw2, hB.elim (fun hs => M_solid t hs (M_bare t hl h')) fun hst => M_move hst t (fun _ _ _ => rfl) (fun _ h _ => h) (fun _ h => h) (M_bare t hl h')⟩)
 | .pair a b, m, x, y, cs, cs', ow, ow', n, hl, hB, h, hH, h' => by
  simp only [M] at h
  rcases h with ⟨h, _⟩ | ⟨hk, h⟩ | ⟨ma, mb, c0, c1, s, rfl, rfl, h0, h1⟩
  ·simp at h
  ·rw [mergeV_isK _ hk]
   exact K_M hk (K_stays hst _ h)
  ·simp only [lendable, Bool.and_eq_true] at hl
   have hBa : lendS a ma = true ∨ Stays w' w' B A' := hB.imp (fun h => by simp only [lendS, Bool.and_eq_true] at h; exact h.1) id
   have hBb : lendS b mb = true ∨ Stays w' w' B A' := hB.imp (fun h => by simp only [lendS, Bool.and_eq_true] at h; exact h.2) id
   have hl0 := (M_ok a h0).1
   have hH0 : ∀ (j : Nat) (u : Value), c0[j]? = some u → H' (n + j) = u := fun j u hj => hH j u (by rw [List.getElem?_append_left (List.getElem?_eq_some_iff.1 hj).1]; exact hj)
   have hH1 : ∀ (j : Nat) (u : Value), c1[j]? = some u → H' (n + a.size + j) = u := fun j u hj => by
    rw [Nat.add_assoc]
    refine hH (a.size + j) u ?_
    rw [List.getElem?_append_right (by omega), hl0, Nat.add_sub_cancel_left]
    exact hj
   simp only [tagM, M] at h'
   simp only [M, mergeV]
   rcases h' with ⟨h', _⟩ | ⟨hk, h'⟩ | ⟨ma2, mb2, d0, d1, s2, e1, e2, k0, k1⟩
   ·simp at h'
   ·simp only [Md.isK, Bool.and_eq_true] at hk
    simp only [K] at h'
    obtain ⟨d0, d1, e2, k0, k1⟩ := h'
    exact .inr (.inr ⟨ma, mb, c0, c1, fun _ => True, rfl, rfl, M_untag hst a hl.1 hBa h0 hH0 (K_M hk.1 k0), M_untag hst b hl.2 hBb h1 hH1 (K_M hk.2 k1)⟩)
   ·injection e1 with e1 e1'
    subst e1 e1'
    exact .inr (.inr ⟨ma, mb, c0, c1, s2, rfl, rfl, M_untag hst a hl.1 hBa h0 hH0 k0, M_untag hst b hl.2 hBb h1 hH1 k1⟩)
end Go.Pv
namespace Go.Pv
set_option linter.unusedVariables false
set_option linter.unusedSimpArgs false
variable {P : Program} {w w' : World} {A A' Wr : Nat → Prop} {H : Nat → Value} {tm tm' : Nat → Value} {S S' S1 : St} {σ σ1 σ2 : Nat → Option Nat} {w0 : World} {W0 Z : Nat → Prop} {a : Act} {own : Nat → Prop} {v : Value} {Θ : Tab} {dst : Option Nat} {O : Orc} {hh : Hint} {Γ : Gl}
theorem Fr.trans {W1 : Nat → Prop} (h : Fr w0 W0 w) (h1 : Fr w W1 w') (hw : ∀ g, W1 g → g < w0.heap.size → W0 g) : Fr w0 W0 w' := by
 refine ⟨h1.os.trans h.os, h1.tape.trans h.tape, h1.output.trans h.output, Nat.le_trans h.size h1.size, fun g hg hn => ?_⟩
 rw [h1.block g (by have := h.size; omega) (fun hx => hn (hw g hx hg))]
 exact h.block g hg hn
theorem call_ok (hT : tabB P hh.tab = true) (hO : OrcOK Γ P O w0 W0) (h : RelS σ w0 W0 Z H S a w) {o : Oper} {f : FuncId} {cal : Option Nat} {as : List Operand} {ts : List TypeId} {K : St → Option Ret} {ret : Ret} {capv : List Value}
  (hcal : (cal = none ∧ capv = []) ∨ ∃ i, cal = some i ∧ tmOf a i = .func (.func f) #[] capv.toArray) (e : peCall hh O o f cal as ts S K = some ret) :
  Does P f (as.map a.eval ++ capv) w fun v w' => ∃ S', K S' = some ret ∧ Rel w0 W0 Z H S' (a.put o.dst v) w' ∧ ((∀ p ∈ O.sig f, p = .val) → Ext w w') := by
 unfold peCall at e
 split at e
 case h_2 => cases e
 rename_i l S1 hl
 split at e
 case h_2 => cases e
 rename_i args cs hargs hcs
 obtain ⟨σ1, ow, τ, t1, t2, t3, t4, t5, t6, t7⟩ := takes_spec as ts (O.sig f) 0 h hl
 obtain ⟨r1, r2⟩ := reads_spec t1 as ts l t4 hargs
 -- the captured values
 have hcap : cs.length = capv.length ∧ ∀ (j : Nat) (c : TV), cs[j]? = some c → ptrTV c = true ∧ ∃ u, capv[j]? = some u ∧ Go.Pv.K w (Pk σ1 S1.length) c.t c.x [u] := by
  rcases hcal with ⟨rfl, rfl⟩ | ⟨i, rfl, hv⟩
  ·simp only [capsIn, Option.some.injEq] at hcs
   subst hcs
   exact ⟨rfl, fun j c hj => by simp at hj⟩
  ·simp only [capsIn] at hcs
   split at hcs
   case h_2 => cases hcs
   rename_i f' caps hat
   cases hb : Nat.beq f' f with
   | false => rw [hb] at hcs; cases hcs
   | true =>
    rw [hb] at hcs
    simp only [cond_true] at hcs
    have hold := t1.holds i
    rw [hat] at hold
    obtain ⟨vs, v1, v2, v3⟩ := hold
    rw [hv] at v1
    injection v1 with _ _ v1
    have hvs : capv = vs := by
     have := congrArg Array.toList v1
     simpa using this
    subst hvs
    split at hcs
    case h_2 => cases hcs
    rename_i l' hl'
    cases hp : l'.all ptrTV with
    | false => rw [hp] at hcs; cases hcs
    | true =>
     rw [hp] at hcs
     simp only [cond_true, Option.some.injEq] at hcs
     subst hcs
     obtain ⟨c1, c2⟩ := capTVs_spec t1 hl' v2 v3
     exact ⟨by omega, fun j c hj => ⟨List.all_eq_true.1 hp c (List.mem_of_getElem? hj), c2 j c hj⟩⟩
 -- the callee's arguments
 let σc : Nat → Option Nat := fun g => open Classical in if ow g then some (τ g) else none
 have hσc : ∀ g i, σc g = some i ↔ ow g ∧ τ g = i := fun g i => by
  simp only [σc]
  split
  ·rename_i hx; exact ⟨fun hg => ⟨hx, by injection hg⟩, fun hg => by rw [hg.2]⟩
  ·rename_i hx; exact ⟨fun hg => (by cases hg), fun hg => absurd hg.1 hx⟩
 have hOwn : ∀ g, Own σc g ↔ ow g := fun g => ⟨fun ⟨i, hi⟩ => ((hσc g i).1 hi).1, fun hg => ⟨τ g, (hσc g _).2 ⟨hg, rfl⟩⟩⟩
 have hpk : ∀ g, ow g → Pk σ1 S1.length g := fun g hg => by rw [t2]; exact t3.now g hg
 obtain ⟨fine, hfine⟩ : ∃ fine, fine = (cs.isEmpty && fines S1 as l args) := ⟨_, rfl⟩
 let B : Nat → Prop := fun g => fine = true ∧ Av σ Z g ∧ ¬ ow g
 have hstT : Stays w w (Av σ Z) (Av σc B) := ⟨fun _ _ _ => rfl, fun g _ hg => by
  rcases hg with hg | hg
  ·obtain ⟨i, _, hi⟩ := t3.was g ((hOwn g).1 hg)
   exact .inl ⟨i, hi⟩
  ·exact hg.2.1⟩
 have hstF : Stays w w (Av σ1 Z) (Av σc B) := ⟨fun _ _ _ => rfl, fun g hl hg => t3.Av.2 (hstT.wr g hl hg)⟩
 have hstP : fine = false → Stays w w (Pk σ1 S1.length) (Av σc B) := fun hn => ⟨fun _ _ _ => rfl, fun g _ hg => by
  rcases hg with hg | hg
  ·exact hpk g ((hOwn g).1 hg)
  ·have h1 := hg.1; rw [hn] at h1; cases h1⟩
 have r3 := fun hf : fine = true => reads_fine t1 as ts l t4 hargs (by rw [hf] at hfine; exact (Bool.and_eq_true _ _ ▸ hfine.symm).2)
 have hin : In Γ B H w σc (args ++ cs.map .tv) (as.map a.eval ++ capv) := by
  refine ⟨by simp [r1, hcap.1], fun g i hg => ?_, fun g hg => ⟨?_, ?_⟩, fun g o hg => ⟨?_, ?_⟩, fun j r hj => ?_⟩
  ·obtain ⟨q1, q2⟩ := (hσc g i).1 hg
   have := (t5 g q1).2
   obtain ⟨k, _, hk⟩ := t3.was g q1
   exact ⟨by simp only [List.length_append]; omega, h.lt g k hk⟩
  ·cases hc : σc g with
   | none => rfl
   | some i => exact absurd ((hσc g i).1 hc).1 hg.2.2
  ·rcases hg.2.1 with ⟨i, hi⟩ | hz
   ·exact h.lt g i hi
   ·have := (h.old g hz).2; have := h.fr.size; omega
  ·cases hc : σc g with
   | none => rfl
   | some i =>
    obtain ⟨k, _, hk⟩ := t3.was g ((hσc g i).1 hc).1
    obtain ⟨e1, e2⟩ := hO.env g o hg
    rcases h.new g k hk with hx | hx
    ·have := lt_of_some e2; omega
    ·exact absurd hx e1
  ·obtain ⟨e1, e2⟩ := hO.env g o hg
   rw [h.fr.block g (lt_of_some e2) e1, e2]
  ·rcases Nat.lt_or_ge j args.length with hjl | hjl
   ·rw [List.getElem?_append_left hjl] at hj
    rw [List.getElem?_append_left (by simp only [List.length_map]; omega), List.getElem?_map]
    rcases r2 j r hj with ⟨b, hb, rfl⟩ | ⟨x, hx, hok⟩
    ·obtain ⟨x, c, q1, q2, q3⟩ := t7 j b hb
     rw [q1]
     exact ⟨_, rfl, c, q2, M_move hstT _ (fun _ _ _ => rfl) (fun g hg _ => (hσc g j).2 ⟨hg.1, by rw [hg.2]; omega⟩) (fun _ h => h) q3⟩
    ·have fin : ∀ {A0 : Nat → Prop}, Stays w w A0 (Av σc B) → ArgOK w A0 H r (a.eval x) (fun _ => False) → ArgOK w (Av σc B) H r (a.eval x) (fun g => σc g = some j) := fun hst hok => by
      cases r with
      | tv b =>
       obtain ⟨c, c1, c2⟩ := hok
       exact ⟨c, c1, M_move hst _ (fun _ _ _ => rfl) (fun _ hg _ => hg.elim) (fun _ h => h) c2⟩
      | fn f' caps =>
       obtain ⟨vs, c1, c2, c3⟩ := hok
       exact ⟨vs, c1, c2, fun k c hk => by obtain ⟨u, u1, u2⟩ := c3 k c hk; exact ⟨u, u1, K_stays hst _ u2⟩⟩
     cases hfn : fine with
     | false =>
      rw [hx]
      exact ⟨_, rfl, fin (hstP hfn) (hok H)⟩
     | true =>
      rcases r3 hfn j r hj with ⟨b, hb, rfl⟩ | ⟨x', hx', hok'⟩
      ·obtain ⟨x, c, q1, q2, q3⟩ := t7 j b hb
       rw [q1]
       exact ⟨_, rfl, c, q2, M_move hstT _ (fun _ _ _ => rfl) (fun g hg _ => (hσc g j).2 ⟨hg.1, by rw [hg.2]; omega⟩) (fun _ h => h) q3⟩
      ·rw [hx] at hx'
       injection hx' with hx'
       subst hx'
       rw [hx]
       exact ⟨_, rfl, fin hstF (hok' H)⟩
   ·rw [List.getElem?_append_right hjl, List.getElem?_map] at hj
    cases hc : cs[j - args.length]? with
    | none => rw [hc] at hj; cases hj
    | some c =>
     rw [hc] at hj
     injection hj with hj
     subst hj
     obtain ⟨u0, u, u1, u2⟩ := hcap.2 _ c hc
     refine ⟨u, ?_, ?_⟩
     ·rw [List.getElem?_append_right (by simp only [List.length_map]; omega)]
      simpa [r1] using u1
     ·have hfn : fine = false := by
       cases hf : fine with
       | false => rfl
       | true =>
        rw [hf] at hfine
        cases cs with
        | nil => simp at hc
        | cons _ _ => simp at hfine
      have hK := K_stays (hstP hfn) _ u2
      obtain ⟨ct, cm, cx⟩ := c
      unfold ptrTV at u0
      split at u0
      ·rename_i t ht
       simp only at ht u0 hK
       subst ht
       exact ⟨[u], by simp [matchV, isAgg], K_M u0 hK⟩
      ·cases u0
 refine ((hO.sd f).1 _ _ ret w σc _ H B e hin).mono fun v w' hv => ?_
 obtain ⟨rt, hrt, hout⟩ := hv
 split at hrt
 case h_2 => cases hrt
 cases hcnd : (rt.res.all (fun d => solid d.t d.m) || (cs.isEmpty && fines S1 as l args)) with
 | false => rw [hcnd] at hrt; cases hrt
 | true =>
 rw [hcnd] at hrt
 simp only [cond_true] at hrt
 rw [← hfine, Bool.or_eq_true] at hcnd
 refine ⟨_, hrt, ?_, fun hall g hg => hout.fr.block g hg (fun hx => t6 hall g ((hOwn g).1 hx))⟩
 -- behind the call
 obtain ⟨σ', vs, q1, q2, q3, q4, _⟩ := hout.res
 let n := S1.length
 let σr : Nat → Option Nat := fun g => match σ' g with
  | some i => some (S1.length + i)
  | none => open Classical in if ow g then none else σ1 g
 have hσr : ∀ g i, σr g = some i → (∃ k, σ' g = some k ∧ i = S1.length + k) ∨ (σ' g = none ∧ ¬ ow g ∧ σ1 g = some i) := fun g i hg => by
  simp only [σr] at hg
  split at hg
  ·rename_i k hk
   injection hg with hg
   exact .inl ⟨k, hk, hg.symm⟩
  ·rename_i hk
   split at hg
   ·cases hg
   ·exact .inr ⟨hk, by assumption, hg⟩
 have hσr1 : ∀ g k, σ' g = some k → σr g = some (S1.length + k) := fun g k hk => by simp only [σr, hk]
 have hσr2 : ∀ g i, σ' g = none → ¬ ow g → σ1 g = some i → σr g = some i := fun g i h1 h2 h3 => by simp only [σr, h1, if_neg h2, h3]
 have hkeep : ∀ g, g < w.heap.size → ¬ ow g → w'.heap[g]? = w.heap[g]? := fun g hg hn => hout.fr.block g hg (fun hx => hn ((hOwn g).1 hx))
 have hold' : ∀ g, g < w.heap.size → ∀ k, σ' g = some k → ow g := fun g hg k hk => by
  rcases (q3 g k hk).1 with hx | hx
  ·omega
  ·exact (hOwn g).1 hx
 have hst : Stays w w' (Av σ1 Z) (Av σr Z) := ⟨fun g hn hg => hkeep g hg (fun hx => hn (by obtain ⟨i, _, hi⟩ := hpk g hx; exact .inl ⟨i, hi⟩)), fun g hg hx => by
  rcases hx with ⟨i, hx⟩ | hx
  ·rcases hσr g i hx with ⟨k, hk, _⟩ | ⟨_, _, hk⟩
   ·obtain ⟨i, _, hi⟩ := hpk g (hold' g hg k hk)
    exact .inl ⟨i, hi⟩
   ·exact .inl ⟨i, hk⟩
  ·exact .inr hx⟩
 have hownlt : ∀ g, ow g → ∀ i, σ1 g = some i → S1.length ≤ i := fun g hg i hi => by
  obtain ⟨j, hj, hj2⟩ := hpk g hg
  rw [hi] at hj2
  injection hj2 with hj2
  omega
 have hR : RelS σr w0 W0 Z H S1 a w' := by
  refine ⟨t1.len, t1.defers, t1.fr.trans hout.fr (fun g hg hl => ?_), fun g i hg => ?_, fun g i hg => ?_, fun g hg => ⟨?_, (t1.old g hg).2⟩, fun i => ?_⟩
  ·obtain ⟨i, _, hi⟩ := hpk g ((hOwn g).1 hg)
   rcases t1.new g i hi with hx | hx
   ·omega
   ·exact hx
  ·rcases hσr g i hg with ⟨k, hk, _⟩ | ⟨_, _, hk⟩
   ·rcases (q3 g k hk).1 with hx | hx
    ·have := t1.fr.size; exact .inl (by omega)
    ·obtain ⟨i, _, hi⟩ := hpk g ((hOwn g).1 hx)
     exact t1.new g i hi
   ·exact t1.new g i hk
  ·rcases hσr g i hg with ⟨k, hk, _⟩ | ⟨_, _, hk⟩
   ·exact (q3 g k hk).2
   ·have := t1.lt g i hk; have := hout.fr.size; omega
  ·obtain ⟨z1, z2⟩ := t1.old g hg
   have hno : ¬ ow g := fun hx => by obtain ⟨i, _, hi⟩ := hpk g hx; rw [z1] at hi; cases hi
   have : σ' g = none := by
    cases hk : σ' g with
    | none => rfl
    | some k => exact absurd (hold' g (by have := t1.fr.size; omega) k hk) hno
   simp only [σr, this, if_neg hno, z1]
  ·by_cases hil : i < S1.length
   ·refine (t1.holds i).kept hst (fun g hg hl => ?_) (fun s hs => ?_)
    ·have hno : ¬ ow g := fun hx => by have := hownlt g hx i hg; omega
     refine ⟨hkeep g hl hno, hσr2 g i ?_ hno hg⟩
     cases hk : σ' g with
     | none => rfl
     | some k => exact absurd (hold' g hl k hk) hno
    ·by_cases hsl : s < S1.length
     ·exact ⟨fun _ _ h => h, rfl, _, t1.holds s, fun g hg hl => hkeep g hl (fun hx => by have := hownlt g hx s hg; omega)⟩
     ·have hd : S1.at s = .dead := Classical.byContradiction fun hx => hsl (at_lt hx)
      exact ⟨fun _ _ h => h, rfl, fun _ => False, by rw [hd]; trivial, fun _ h => h.elim⟩
   ·have hd : S1.at i = .dead := Classical.byContradiction fun hx => hil (at_lt hx)
    rw [hd]
    trivial
 refine ⟨_, hR.give0 (ow := fun g => ∃ k, σ' g = some k) (Nat.le_refl _) (fun _ _ _ => rfl) hR.fr (fun g ⟨k, hk⟩ => ⟨(q3 g k hk).2, .inl ⟨S1.length + k, by omega, hσr1 g k hk⟩⟩) fun d _ g1 g2 => ?_⟩
 -- the results
 have hkey : fine = true → Stays w' w' (Av σ' B) (Av (grant σr o.dst fun g => ∃ k, σ' g = some k) Z) := fun hfn => ⟨fun _ _ _ => rfl, fun g _ hg => by
  rcases g2 g hg with (⟨i, hi⟩ | hz) | hx
  ·rcases hσr g i hi with ⟨k, hk, _⟩ | ⟨_, hno, hk⟩
   ·exact .inl ⟨k, hk⟩
   ·exact .inr ⟨hfn, t3.Av.1 (.inl ⟨i, hk⟩), hno⟩
  ·refine .inr ⟨hfn, .inr hz, fun hx => ?_⟩
   obtain ⟨i, _, hi⟩ := hpk g hx
   rw [(t1.old g hz).1] at hi
   cases hi
  ·exact .inl hx⟩
 have hres : ∀ (i : Nat) (b : TV), rt.res[i]? = some b → ∃ u cs, vs[i]? = some u ∧ matchV b.t u cs ∧ M w' (Av (grant σr o.dst fun g => ∃ k, σ' g = some k) Z) H b.t b.m b.x cs (fun g => σ' g = some i) [] := fun i b hb => by
  obtain ⟨u, c, u1, u2, u3⟩ := q4 i b hb
  refine ⟨u, c, u1, u2, ?_⟩
  rcases hcnd with hs | hfn
  ·exact M_solid _ (List.all_eq_true.1 hs b (List.mem_of_getElem? hb)) u3
  ·exact M_move (hkey hfn) _ (fun _ _ _ => rfl) (fun _ h _ => h) (fun _ h => h) u3
 have htup : ∀ l : List TV, l = rt.res → Holds w' (Av (grant σr o.dst fun g => ∃ k, σ' g = some k) Z) H (tmOf (a.put o.dst v)) (S1.put o.dst (.tup (l.map some))) (fun g => grant σr o.dst (fun g => ∃ k, σ' g = some k) g = some d) (.tup (l.map some)) (.tuple vs.toArray) := fun l hl => by
  subst hl
  refine ⟨vs, fun g => (σ' g).getD 0, rfl, by simp [q2], fun j b hj => ?_⟩
  rw [List.getElem?_map] at hj
  cases hb : rt.res[j]? with
  | none => rw [hb] at hj; cases hj
  | some b' =>
   rw [hb] at hj
   simp only [Option.map_some, Option.some.injEq] at hj
   subst hj
   obtain ⟨u, c, u1, u2, u3⟩ := hres j b' hb
   exact ⟨u, c, u1, u2, M_move (Stays.refl _ _) _ (fun _ _ _ => rfl) (fun g hg _ => ⟨g1 g ⟨j, hg⟩, by show (σ' g).getD 0 = j; rw [hg]; rfl⟩) (fun _ h => h) u3⟩
 subst q1
 match hres' : rt.res, q2 with
 | [b], q2 =>
  match vs, q2 with
  | [u], _ =>
   obtain ⟨u', c, u1, u2, u3⟩ := hres 0 b (by rw [hres']; rfl)
   simp only [List.getElem?_cons_zero, Option.some.injEq] at u1
   subst u1
   exact ⟨c, u2, M_move (Stays.refl _ _) _ (fun _ _ _ => rfl) (fun g hg _ => g1 g ⟨0, hg⟩) (fun _ h => h) u3⟩
 | [], q2 =>
  match vs, q2 with
  | [], _ => exact htup [] hres'.symm
 | b :: b' :: r, q2 =>
  match vs, q2 with
  | u :: u' :: vr, _ => exact htup (b :: b' :: r) hres'.symm
end Go.Pv
namespace Go.Pv
set_option linter.unusedVariables false
set_option linter.unusedSimpArgs false
variable {P : Program} {w w' : World} {A A' Wr : Nat → Prop} {H H' : Nat → Value} {tm tm' : Nat → Value} {S S' S1 : St} {σ σ1 σ2 : Nat → Option Nat} {w0 : World} {W0 Z : Nat → Prop} {a : Act} {own : Nat → Prop} {v : Value} {Θ : Tab} {dst : Option Nat} {O : Orc} {hh : Hint} {Γ : Gl}
theorem putCells_same (cur : List Value) (off n : Nat) (h : off + n ≤ cur.length) : putCells cur off ((cur.drop off).take n) = cur := by
 have hl : ((cur.drop off).take n).length = n := by rw [List.length_take, List.length_drop]; omega
 apply List.ext_getElem?
 intro k
 rw [put_get _ _ _ _ (by omega), hl]
 by_cases h1 : k < off
 ·rw [if_pos h1]
 ·rw [if_neg h1]
  by_cases h2 : k < off + n
  ·rw [if_pos h2, List.getElem?_take, if_pos (by omega), List.getElem?_drop]
   congr 1; omega
  ·rw [if_neg h2]
theorem after_call {ow : Nat → Prop} {σc σ' : Nat → Option Nat} (t1 : RelS σ1 w0 W0 Z H S1 a w) (hpk : ∀ g, ow g → Pk σ1 S1.length g) (hOwn : ∀ g, Own σc g ↔ ow g) (hfr : Fr w (Own σc) w')
  (q3 : ∀ g i, σ' g = some i → (w.heap.size ≤ g ∨ Own σc g) ∧ g < w'.heap.size) :
  ∃ σr, RelS σr w0 W0 Z H S1 a w' ∧ (∀ g k, σ' g = some k → σr g = some (S1.length + k)) ∧ Stays w w' (Av σ1 Z) (Av σr Z) ∧
   (∀ g i, i < S1.length → σr g = some i → σ1 g = some i) ∧ (∀ g i, i < S1.length → σ1 g = some i → w'.heap[g]? = w.heap[g]?) ∧ (∀ g i, σr g = some i → (∃ k, σ' g = some k) ∨ (¬ ow g ∧ σ1 g = some i)) := by
 let σr : Nat → Option Nat := fun g => match σ' g with
  | some i => some (S1.length + i)
  | none => open Classical in if ow g then none else σ1 g
 have hσr : ∀ g i, σr g = some i → (∃ k, σ' g = some k ∧ i = S1.length + k) ∨ (σ' g = none ∧ ¬ ow g ∧ σ1 g = some i) := fun g i hg => by
  simp only [σr] at hg
  split at hg
  ·rename_i k hk
   injection hg with hg
   exact .inl ⟨k, hk, hg.symm⟩
  ·rename_i hk
   split at hg
   ·cases hg
   ·exact .inr ⟨hk, by assumption, hg⟩
 have hσr1 : ∀ g k, σ' g = some k → σr g = some (S1.length + k) := fun g k hk => by simp only [σr, hk]
 have hσr2 : ∀ g i, σ' g = none → ¬ ow g → σ1 g = some i → σr g = some i := fun g i h1 h2 h3 => by simp only [σr, h1, if_neg h2, h3]
 have hkeep : ∀ g, g < w.heap.size → ¬ ow g → w'.heap[g]? = w.heap[g]? := fun g hg hn => hfr.block g hg (fun hx => hn ((hOwn g).1 hx))
 have hold' : ∀ g, g < w.heap.size → ∀ k, σ' g = some k → ow g := fun g hg k hk => by
  rcases (q3 g k hk).1 with hx | hx
  ·omega
  ·exact (hOwn g).1 hx
 have hst : Stays w w' (Av σ1 Z) (Av σr Z) := ⟨fun g hn hg => hkeep g hg (fun hx => hn (by obtain ⟨i, _, hi⟩ := hpk g hx; exact .inl ⟨i, hi⟩)), fun g hg hx => by
  rcases hx with ⟨i, hx⟩ | hx
  ·rcases hσr g i hx with ⟨k, hk, _⟩ | ⟨_, _, hk⟩
   ·obtain ⟨i, _, hi⟩ := hpk g (hold' g hg k hk)
    exact .inl ⟨i, hi⟩
   ·exact .inl ⟨i, hk⟩
  ·exact .inr hx⟩
 have hownlt : ∀ g, ow g → ∀ i, σ1 g = some i → S1.length ≤ i := fun g hg i hi => by
  obtain ⟨j, hj, hj2⟩ := hpk g hg
  rw [hi] at hj2
  injection hj2 with hj2
  omega
 refine ⟨σr, ?_, hσr1, hst, fun g i hi hg => ?_, fun g i hi hg => hkeep g (t1.lt g i hg) (fun hx => by have := hownlt g hx i hg; omega), fun g i hg => by
  rcases hσr g i hg with ⟨k, hk, _⟩ | ⟨_, h1, h2⟩
  ·exact .inl ⟨k, hk⟩
  ·exact .inr ⟨h1, h2⟩⟩
 rotate_left
 ·rcases hσr g i hg with ⟨k, _, hk⟩ | ⟨_, _, hk⟩
  ·omega
  ·exact hk
 refine ⟨t1.len, t1.defers, t1.fr.trans hfr (fun g hg hl => ?_), fun g i hg => ?_, fun g i hg => ?_, fun g hg => ⟨?_, (t1.old g hg).2⟩, fun i => ?_⟩
 ·obtain ⟨i, _, hi⟩ := hpk g ((hOwn g).1 hg)
  rcases t1.new g i hi with hx | hx
  ·omega
  ·exact hx
 ·rcases hσr g i hg with ⟨k, hk, _⟩ | ⟨_, _, hk⟩
  ·rcases (q3 g k hk).1 with hx | hx
   ·have := t1.fr.size; exact .inl (by omega)
   ·obtain ⟨i, _, hi⟩ := hpk g ((hOwn g).1 hx)
    exact t1.new g i hi
  ·exact t1.new g i hk
 ·rcases hσr g i hg with ⟨k, hk, _⟩ | ⟨_, _, hk⟩
  ·exact (q3 g k hk).2
  ·have := t1.lt g i hk; have := hfr.size; omega
 ·obtain ⟨z1, z2⟩ := t1.old g hg
  have hno : ¬ ow g := fun hx => by obtain ⟨i, _, hi⟩ := hpk g hx; rw [z1] at hi; cases hi
  have : σ' g = none := by
   cases hk : σ' g with
   | none => rfl
   | some k => exact absurd (hold' g (by have := t1.fr.size; omega) k hk) hno
  simp only [σr, this, if_neg hno, z1]
 ·by_cases hil : i < S1.length
  ·refine (t1.holds i).kept hst (fun g hg hl => ?_) (fun s hs => ?_)
   ·have hno : ¬ ow g := fun hx => by have := hownlt g hx i hg; omega
    refine ⟨hkeep g hl hno, hσr2 g i ?_ hno hg⟩
    cases hk : σ' g with
    | none => rfl
    | some k => exact absurd (hold' g hl k hk) hno
   ·by_cases hsl : s < S1.length
    ·exact ⟨fun _ _ h => h, rfl, _, t1.holds s, fun g hg hl => hkeep g hl (fun hx => by have := hownlt g hx s hg; omega)⟩
    ·have hd : S1.at s = .dead := Classical.byContradiction fun hx => hsl (at_lt hx)
     exact ⟨fun _ _ h => h, rfl, fun _ => False, by rw [hd]; trivial, fun _ h => h.elim⟩
  ·have hd : S1.at i = .dead := Classical.byContradiction fun hx => hil (at_lt hx)
   rw [hd]
   trivial
theorem lend_place (h : RelS σ w0 W0 Z H S a w) {T : TypeId} {x : Operand} {av : AV} {b : TV} {s : Nat} {p : Path} {cs : List Value} (ho : S.opv Θ T x = some av) (hl : lplace x av = some (s, p)) (e : S.takeA x av = some (b, S1)) (hk : b.m.isK = false) (hm : matchV b.t (a.eval x) cs) :
  (p = [] ∧ s < S.length ∧ matchV b.t (tmOf a s) cs) ∨ ∃ r ex cs0, p ≠ [] ∧ S1.at s = .v r (ex ++ [p]) ∧ matchV r.t (tmOf a s) cs0 ∧ cellsAt w p r.t cs0 = some cs ∧ valid p r.t r.x ∧ getP p r.t r.m r.x = some b ∧ ∀ q ∈ ex, clash q p = false := by
 have hh := opv_holds h ho
 cases av with
 | v a0 ex =>
  cases x with
  | tmp i =>
   simp only [lplace, Option.some.injEq, Prod.mk.injEq] at hl
   obtain ⟨rfl, rfl⟩ := hl
   exact .inl ⟨rfl, at_lt (by simp only [St.opv, Option.some.injEq] at ho; rw [ho]; exact fun e => by cases e), hm⟩
  | const c => simp [lplace] at hl
  | func f => simp [lplace] at hl
  | global g => simp [lplace] at hl
 | al t s' p' =>
  simp only [lplace, Option.some.injEq, Prod.mk.injEq] at hl
  obtain ⟨rfl, rfl⟩ := hl
  obtain ⟨r, cs0, cs1, hr, hc, hm1⟩ := hh
  simp only [St.takeA] at e
  split at e
  case h_2 => cases e
  rename_i b' hb
  cases hk' : b'.m.isK with
  | true =>
   rw [hk'] at e
   simp only [cond_true, Option.some.injEq, Prod.mk.injEq] at e
   obtain ⟨rfl, rfl⟩ := e
   rw [hk] at hk'; cases hk'
  | false =>
   rw [hk'] at e
   simp only [cond_false] at e
   have hpr := place_read h hr hc hb
   obtain ⟨hbt, _⟩ := hpr
   cases hp : p' with
   | nil =>
    subst hp
    simp only [Option.some.injEq, Prod.mk.injEq] at e
    obtain ⟨rfl, rfl⟩ := e
    simp only [cellsAt, Option.some.injEq] at hc
    subst hc
    obtain ⟨b2, g1, g2⟩ := hr.get
    simp only [getP, Option.some.injEq] at g1
    subst g1
    have hrt : r.t = b'.t := by rw [hbt]; exact g2
    refine .inl ⟨rfl, at_lt (by obtain ⟨ex0, hs0, _⟩ := hr.at_; rw [hs0]; exact fun e => by cases e), ?_⟩
    rw [hbt] at hm ⊢
    obtain rfl := matchV_inj hm hm1
    have := hr.mat
    rw [hrt, hbt] at this
    exact this
   | cons stp pp =>
    rw [hp] at e
    obtain ⟨ex, b2, cs', ow0, j1, j2, j3, j4, hM, j5, j6, j7⟩ := ref_focus h hr
    rw [j1] at e
    simp only [Option.some.injEq, Prod.mk.injEq] at e
    rw [← hp] at e
    obtain ⟨rfl, rfl⟩ := e
    obtain ⟨r3, ex3, q1, q2, q3⟩ := place_glance hb
    rw [j1] at q1
    injection q1 with q1 q1'
    subst q1 q1'
    rw [j3] at q3
    injection q3 with q3
    subst q3
    rw [hbt] at hm
    obtain rfl := matchV_inj hm hm1
    have hlen : ((S.weaken s').cover s' p').length = S.length := by simp [St.weaken, St.cover]
    have hsl : s' < S.length := at_lt (by rw [j1]; exact fun e => by cases e)
    have hatS : St.at (((S.weaken s').cover s' p').set s' (.v r (ex ++ [p']))) s' = .v r (ex ++ [p']) := by rw [at_set, if_pos ⟨rfl, by rw [hlen]; exact hsl⟩]
    exact .inr ⟨r, ex, cs0, by simp, by rw [← hp]; exact hatS, hr.mat, by rw [← hp]; exact hc, by rw [← hp]; exact hr.val, by rw [← hp]; exact j3, by rw [← hp]; exact q2⟩
 | _ => simp [lplace] at hl
theorem refill_hole {b : TV} {s : Nat} {p : Path} {r : TV} {ex : List Path} {cs0 cs : List Value} {ow2 : Nat → Prop} {b0 : TV} {m : Md} {z : r.t.I} (h : RelS σ w0 W0 Z H S a w) (hown : ∀ g, ow2 g → ∃ i, S.length ≤ i ∧ σ g = some i)
  (hat : S.at s = .v r (ex ++ [p])) (hmat : matchV r.t (tmOf a s) cs0) (hc : cellsAt w p r.t cs0 = some cs) (hval : valid p r.t r.x) (hget : getP p r.t r.m r.x = some b0) (hcl : ∀ q ∈ ex, clash q p = false)
  (hset : setP b p r.t r.m r.x = some (m, z)) (hM : M w (Av σ Z) H b.t b.m b.x cs ow2 []) : ∃ σ2, RelS σ2 w0 W0 Z H (S.put (some s) (.v ⟨r.t, m, z⟩ ex)) a w ∧ ∀ g i, S.length ≤ i → ¬ ow2 g → σ g = some i → σ2 g = some i := by
 have hh := h.holds s
 rw [hat] at hh
 obtain ⟨cs0', hm0, hM0⟩ := hh
 obtain rfl := matchV_inj hmat hm0
 have hopen : open_ p (ex ++ [p]) := by
  intro q hq s' r' e
  rcases List.mem_append.1 hq with hq | hq
  ·exact open_of_clash hcl q hq s' r' e
  ·rw [List.mem_singleton.1 hq] at e
   have := congrArg List.length e
   simp at this
 obtain ⟨cs', ow', c1, c2, c3, hback⟩ := focusW p hM0 hopen hval hget
 rw [hc] at c1
 injection c1 with c1
 subst c1
 have hty : b.t = b0.t := setP_ty p hset hget
 obtain ⟨hloc, hback⟩ := hback b (m, z) hty hset
 have hlen : cs.length = b.t.size := (M_ok _ hM).1
 let σ2 : Nat → Option Nat := fun g' => open Classical in if ow2 g' then some s else σ g'
 have hσ2 : ∀ g' i, σ2 g' = some i → (ow2 g' ∧ i = s) ∨ (¬ ow2 g' ∧ σ g' = some i) := fun g' i hg' => by
  simp only [σ2] at hg'
  split at hg'
  ·injection hg' with hg'; exact .inl ⟨by assumption, hg'.symm⟩
  ·exact .inr ⟨by assumption, hg'⟩
 have hσ2' : ∀ g' i, ¬ ow2 g' → σ g' = some i → σ2 g' = some i := fun g' i hn hg' => by simp only [σ2, if_neg hn, hg']
 have hsl : s < S.length := at_lt (by rw [hat]; exact fun e => by cases e)
 have hAv2 : ∀ g', Av σ2 Z g' → Av σ Z g' := fun g' hg' => by
  rcases hg' with ⟨i, hg'⟩ | hg'
  ·rcases hσ2 g' i hg' with ⟨hx, _⟩ | ⟨_, hx⟩
   ·obtain ⟨j, _, hj⟩ := hown g' hx
    exact .inl ⟨j, hj⟩
   ·exact .inl ⟨i, hx⟩
  ·exact .inr hg'
 have hno : ∀ g i, i < S.length → σ g = some i → ¬ ow2 g := fun g i hi hg hx => by
  obtain ⟨j, hj, hj2⟩ := hown g hx
  rw [hg] at hj2
  injection hj2 with hj2
  omega
 have hst : Stays w w (Av σ Z) (Av σ2 Z) := ⟨fun _ _ _ => rfl, fun g _ hg => hAv2 g hg⟩
 have hl0 : cs0.length = r.t.size := (M_ok _ hM0).1
 have hres := hback w (Av σ2 Z) cs ow2 ex hst (by rw [hlen, hty]) (fun g hg1 hg2 _ => by
   unfold BlkUpd
   split
   ·rename_i q hq
    split
    ·rename_i hgq
     obtain ⟨_, _, cur, T, hw, hb, hcs⟩ := hloc q.1 q.2 hq
     subst hgq
     refine ⟨cur, T, hw, ?_⟩
     rw [hcs, putCells_same _ _ _ (by simpa using hb)]
     simpa using hw
    ·rfl
   ·rfl) (M_move hst _ (fun _ _ _ => rfl) (fun g hg _ => hg) (fun _ hx => by cases hx) hM) (fun g hg1 _ hg2 => absurd hg1 (hno g s hsl hg2)) (fun q hq1 hq2 => by
   rcases List.mem_append.1 hq2 with hq2 | hq2
   ·exact hq2
   ·exact absurd (by rw [List.mem_singleton.1 hq2]; simp) (hq1 []))
 have hupd : updC p r.t cs0 cs = cs0 := by
  cases hp : memless p with
  | false => exact memful_upd p hp
  | true =>
   have h1 := memless_cells (w := w) p hp hget hl0
   rw [hc] at h1
   injection h1 with h1
   rw [memless_upd p hp hget hl0 (by rw [hlen, hty]), h1]
   exact putCells_same _ _ _ (by rw [hl0]; exact memless_fit p hp hget)
 rw [hupd] at hres
 refine ⟨σ2, ?_, fun g i _ hn hg => hσ2' g i hn hg⟩
 have := h.put (dst := some s) (av := .v ⟨r.t, m, z⟩ ex) (v := tmOf a s) hst h.fr (fun g i hg => ?_) (fun g hg => ?_) (fun i g hi hd hg => ⟨rfl, hσ2' g i (hno g i hi hg) hg⟩) (fun d hd hdl _ => ?_)
 ·rw [put_same] at this
  exact this
 ·rcases hσ2 g i hg with ⟨hx, _⟩ | ⟨_, hx⟩
  ·obtain ⟨j, _, hj⟩ := hown g hx
   exact ⟨h.new g j hj, h.lt g j hj⟩
  ·exact ⟨h.new g i hx, h.lt g i hx⟩
 ·have h0 := (h.old g hg).1
  simp only [σ2]
  split
  ·rename_i hx
   obtain ⟨j, _, hj⟩ := hown g hx
   rw [h0] at hj; cases hj
  ·exact h0
 ·injection hd with hd
  subst hd
  refine ⟨cs0, hmat, M_move (Stays.refl _ _) _ (fun _ _ _ => rfl) (fun g hg _ => ?_) (fun _ h => h) hres⟩
  rcases hg with ⟨k1, _⟩ | k1
  ·exact hσ2' g s (hno g s hsl k1) k1
  ·simp only [σ2, if_pos k1]
theorem refill_slot {b : TV} {s : Nat} {cs : List Value} {ow2 : Nat → Prop} (h : RelS σ w0 W0 Z H S a w) (hown : ∀ g, ow2 g → ∃ i, S.length ≤ i ∧ σ g = some i)
  (hs : s < S.length) (hmat : matchV b.t (tmOf a s) cs) (hM : M w (Av σ Z) H b.t b.m b.x cs ow2 []) : ∃ σ2, RelS σ2 w0 W0 Z H (S.put (some s) (.v b [])) a w ∧ ∀ g i, S.length ≤ i → ¬ ow2 g → σ g = some i → σ2 g = some i := by
 refine ⟨grant σ (some s) ow2, ?_, fun g i hi hn hg => by
  unfold grant
  rw [if_neg hn]
  exact release_keep (fun e => by injection e with e; omega) hg⟩
 have := h.give (dst := some s) (v := tmOf a s) (ow := ow2) (A' := Av σ Z) (fun _ _ => rfl) h.fr (fun g hg => by
  obtain ⟨i, hi, hi2⟩ := hown g hg
  exact ⟨h.lt g i hi2, .inl ⟨i, hi, hi2⟩⟩) (fun g _ hg => by
  rcases hg with hg | hg
  ·exact hg
  ·obtain ⟨i, hi, hi2⟩ := hown g hg
   exact .inl ⟨i, hi2⟩) hmat hM
 rw [put_same] at this
 exact this
theorem lend_ok (hT : tabB P hh.tab = true) (hO : OrcOK Γ P O w0 W0) (h : RelS σ w0 W0 Z H S a w) {o : Oper} {f : FuncId} {j : Nat} {as : List Operand} {ts : List TypeId} {K : St → Option Ret} {ret : Ret}
  (e : peLend hh O o f j as ts S K = some ret) : Does P f (as.map a.eval) w fun v w' => ∃ S', K S' = some ret ∧ Rel w0 W0 Z H S' (a.put o.dst v) w' := by
 unfold peLend at e
 split at e
 case h_2 => cases e
 rename_i x T hx hT'
 split at e
 case h_2 => cases e
 rename_i av hav
 split at e
 case h_2 => cases e
 rename_i s p b S1 hlp htk
 cases hcond : (!b.m.isK && lendable b.t b.m) with
 | false => rw [hcond] at e; cases e
 | true =>
 rw [hcond] at e
 simp only [cond_true] at e
 simp only [Bool.and_eq_true, Bool.not_eq_true'] at hcond
 obtain ⟨hk, hlb⟩ := hcond
 split at e
 case h_2 => cases e
 rename_i args hargs
 obtain ⟨fine, hfine⟩ : ∃ fine, fine = fines S1 as ((List.replicate as.length none).set j (some ⟨b.t, tagM b.t b.m 0, b.x⟩)) args := ⟨_, rfl⟩
 cases hls : (lendS b.t b.m || fines S1 as ((List.replicate as.length none).set j (some ⟨b.t, tagM b.t b.m 0, b.x⟩)) args) with
 | false => rw [hls] at e; cases e
 | true =>
 rw [hls] at e
 simp only [cond_true] at e
 rw [← hfine, Bool.or_eq_true] at hls
 obtain ⟨σ1, cs, ow, t1, hm, hM, t3, t2⟩ := takeA_spec h hav htk
 have hplace := lend_place h hav hlp htk hk hm
 have hjl : j < as.length := (List.getElem?_eq_some_iff.1 hx).1
 obtain ⟨r1, r2⟩ := reads_spec t1 as ts _ (by simp) hargs
 let H' : Nat → Value := fun n => cs.getD n undef
 have hH' : ∀ (j : Nat) (u : Value), cs[j]? = some u → H' (0 + j) = u := fun j u hj => by
  simp only [H', Nat.zero_add, List.getD_eq_getElem?_getD, hj, Option.getD_some]
 have hMt := M_tag (H' := H') (n := 0) b.t hlb hM hH'
 let σc : Nat → Option Nat := fun g => open Classical in if ow g then some j else none
 have hσc : ∀ g i, σc g = some i ↔ ow g ∧ j = i := fun g i => by
  simp only [σc]
  split
  ·rename_i hx; exact ⟨fun hg => ⟨hx, by injection hg⟩, fun hg => by rw [hg.2]⟩
  ·rename_i hx; exact ⟨fun hg => (by cases hg), fun hg => absurd hg.1 hx⟩
 have hOwn : ∀ g, Own σc g ↔ ow g := fun g => ⟨fun ⟨i, hi⟩ => ((hσc g i).1 hi).1, fun hg => ⟨j, (hσc g _).2 ⟨hg, rfl⟩⟩⟩
 have hpk : ∀ g, ow g → Pk σ1 S1.length g := fun g hg => by rw [t2]; exact t3.now g hg
 let B : Nat → Prop := fun g => fine = true ∧ Av σ Z g ∧ ¬ ow g
 have hstT : Stays w w (Av σ Z) (Av σc B) := ⟨fun _ _ _ => rfl, fun g _ hg => by
  rcases hg with hg | hg
  ·obtain ⟨i, _, hi⟩ := t3.was g ((hOwn g).1 hg)
   exact .inl ⟨i, hi⟩
  ·exact hg.2.1⟩
 have hstF : Stays w w (Av σ1 Z) (Av σc B) := ⟨fun _ _ _ => rfl, fun g hl hg => t3.Av.2 (hstT.wr g hl hg)⟩
 have hstP : fine = false → Stays w w (Pk σ1 S1.length) (Av σc B) := fun hn => ⟨fun _ _ _ => rfl, fun g _ hg => by
  rcases hg with hg | hg
  ·exact hpk g ((hOwn g).1 hg)
  ·have h1 := hg.1; rw [hn] at h1; cases h1⟩
 have r3 := fun hf : fine = true => reads_fine t1 as ts _ (by simp) hargs (hfine.symm.trans hf)
 have hin : In Γ B H' w σc args (as.map a.eval) := by
  refine ⟨by simp [r1], fun g i hg => ?_, fun g hg => ⟨?_, ?_⟩, fun g o hg => ⟨?_, ?_⟩, fun k r hk' => ?_⟩
  ·obtain ⟨q1, q2⟩ := (hσc g i).1 hg
   obtain ⟨k, _, hk⟩ := t3.was g q1
   exact ⟨by omega, h.lt g k hk⟩
  ·cases hc : σc g with
   | none => rfl
   | some i => exact absurd ((hσc g i).1 hc).1 hg.2.2
  ·rcases hg.2.1 with ⟨i, hi⟩ | hz
   ·exact h.lt g i hi
   ·have := (h.old g hz).2; have := h.fr.size; omega
  ·cases hc : σc g with
   | none => rfl
   | some i =>
    obtain ⟨k, _, hk⟩ := t3.was g ((hσc g i).1 hc).1
    obtain ⟨e1, e2⟩ := hO.env g o hg
    rcases h.new g k hk with hx | hx
    ·have := lt_of_some e2; omega
    ·exact absurd hx e1
  ·obtain ⟨e1, e2⟩ := hO.env g o hg
   rw [h.fr.block g (lt_of_some e2) e1, e2]
  ·rw [List.getElem?_map]
   rcases r2 k r hk' with ⟨b', hb', rfl⟩ | ⟨x', hx', hok⟩
   ·rw [List.getElem?_set] at hb'
    split at hb'
    ·rename_i hjk
     subst hjk
     simp only [List.length_replicate, if_pos hjl, Option.some.injEq] at hb'
     subst hb'
     rw [hx]
     exact ⟨_, rfl, cs, hm, M_move hstT _ (fun _ _ _ => rfl) (fun g hg _ => (hσc g j).2 ⟨hg, rfl⟩) (fun _ h => h) hMt⟩
    ·rw [List.getElem?_replicate] at hb'
     split at hb' <;> simp at hb'
   ·have fin : ∀ {A0 : Nat → Prop}, Stays w w A0 (Av σc B) → ArgOK w A0 H' r (a.eval x') (fun _ => False) → ArgOK w (Av σc B) H' r (a.eval x') (fun g => σc g = some k) := fun hst hok => by
     cases r with
     | tv b =>
      obtain ⟨c, c1, c2⟩ := hok
      exact ⟨c, c1, M_move hst _ (fun _ _ _ => rfl) (fun _ hg _ => hg.elim) (fun _ h => h) c2⟩
     | fn f' caps =>
      obtain ⟨vs, c1, c2, c3⟩ := hok
      exact ⟨vs, c1, c2, fun k c hk => by obtain ⟨u, u1, u2⟩ := c3 k c hk; exact ⟨u, u1, K_stays hst _ u2⟩⟩
    cases hfn : fine with
    | false =>
     rw [hx']
     exact ⟨_, rfl, fin (hstP hfn) (hok H')⟩
    | true =>
     rcases r3 hfn k r hk' with ⟨b', hb', rfl⟩ | ⟨x2, hx2, hok'⟩
     ·rw [List.getElem?_set] at hb'
      split at hb'
      ·rename_i hjk
       subst hjk
       simp only [List.length_replicate, if_pos hjl, Option.some.injEq] at hb'
       subst hb'
       rw [hx]
       exact ⟨_, rfl, cs, hm, M_move hstT _ (fun _ _ _ => rfl) (fun g hg _ => (hσc g j).2 ⟨hg, rfl⟩) (fun _ h => h) hMt⟩
      ·rw [List.getElem?_replicate] at hb'
       split at hb' <;> simp at hb'
     ·rw [hx'] at hx2
      injection hx2 with hx2
      subst hx2
      rw [hx']
      exact ⟨_, rfl, fin hstF (hok' H')⟩
 refine ((hO.sd f).1 _ _ ret w σc _ H' B e hin).mono fun v w' hv => ?_
 obtain ⟨rt, hrt, hout⟩ := hv
 split at hrt
 case h_2 => cases hrt
 rename_i c hrefs
 cases hall : rt.res.all (fun d => solid d.t d.m && bareM d.m) with
 | false => rw [hall] at hrt; cases hrt
 | true =>
 rw [hall] at hrt
 simp only [cond_true] at hrt
 split at hrt
 case isFalse => cases hrt
 rename_i hct
 split at hrt
 case isFalse => cases hrt
 rename_i hcm
 split at hrt
 case h_2 => cases hrt
 rename_i S2 hS2
 obtain ⟨σ', vs, q1, q2, q3, q4, q5⟩ := hout.res
 obtain ⟨cs', hMc⟩ := q5 c hrefs
 obtain ⟨σr, hR, hσr1, hst, hσr2, hsame, hσr3⟩ := after_call t1 hpk hOwn hout.fr q3
 -- what comes back
 obtain ⟨ct, cm, cx⟩ := c
 simp only at hct hcm hMc hS2
 subst hct
 subst hcm
 have hst2 : Stays w w' (Av σ Z) (Av σr Z) := ⟨fun g hn hl => hst.same g (fun hx => hn (t3.Av.1 hx)) hl, fun g hl hg => t3.Av.1 (hst.wr g hl hg)⟩
 have hkey : lendS b.t b.m = true ∨ Stays w' w' (Av σ' B) (Av σr Z) := hls.imp id fun hfn => ⟨fun _ _ _ => rfl, fun g _ hg => by
  rcases hg with ⟨i, hi⟩ | hz
  ·rcases hσr3 g i hi with ⟨k, hk⟩ | ⟨hno, hk⟩
   ·exact .inl ⟨k, hk⟩
   ·exact .inr ⟨hfn, t3.Av.1 (.inl ⟨i, hk⟩), hno⟩
  ·refine .inr ⟨hfn, .inr hz, fun hx => ?_⟩
   obtain ⟨i, _, hi⟩ := hpk g hx
   rw [(t1.old g hz).1] at hi
   cases hi⟩
 have hMb := M_untag (B := Av σ' B) (A' := Av σr Z) hst2 b.t hlb hkey hM hH' hMc
 have hown : ∀ g, σ' g = some rt.res.length → ∃ i, S1.length ≤ i ∧ σr g = some i := fun g hg => ⟨_, by omega, hσr1 g _ hg⟩
 have hR2 : ∃ σ2, RelS σ2 w0 W0 Z H S2 a w' ∧ ∀ g i, S1.length ≤ i → ¬ σ' g = some rt.res.length → σr g = some i → σ2 g = some i := by
  rcases hplace with ⟨rfl, hsl0, hmt⟩ | ⟨r, ex, cs0, hp, hat, hmt, hcl, hval, hget, hclash⟩
  ·simp only [St.refill, Option.some.injEq] at hS2
   subst hS2
   exact refill_slot (b := ⟨b.t, b.m, _⟩) hR hown (by rw [t2]; exact hsl0) hmt hMb
  ·cases p with
   | nil => exact absurd rfl hp
   | cons stp pp =>
   simp only [St.refill, hat] at hS2
   split at hS2
   case h_2 => cases hS2
   rename_i m z hset
   simp only [Option.some.injEq, List.dropLast_concat] at hS2
   subst hS2
   have hh0 := t1.holds s
   rw [hat] at hh0
   obtain ⟨cs0', hm0, hM0⟩ := hh0
   obtain rfl := matchV_inj hmt hm0
   have hopen : open_ (stp :: pp) (ex ++ [stp :: pp]) := by
    intro q hq s' r' e
    rcases List.mem_append.1 hq with hq | hq
    ·exact open_of_clash hclash q hq s' r' e
    ·rw [List.mem_singleton.1 hq] at e
     have := congrArg List.length e
     simp at this
   have hsl : s < S1.length := at_lt (by rw [hat]; exact fun e => by cases e)
   have hcl' := (cells_same hst (stp :: pp) none hM0 (fun g hg _ => hsame g s hsl hg) hopen hval).1
   exact refill_hole (b := ⟨b.t, b.m, _⟩) hR hown hat hmt (hcl'.trans hcl) hval hget hclash hset hMb
 refine ⟨_, hrt, ?_⟩
 obtain ⟨σ3, hR3, hR4⟩ := hR2
 have hlen2 : S2.length = S1.length := by have := hR3.len; have := t1.len; omega
 obtain ⟨n, hn⟩ : ∃ n, n = rt.res.length := ⟨_, rfl⟩
 have hpar : ∀ g k, k < n → σ' g = some k → σ3 g = some (S1.length + k) := fun g k hk hg => hR4 g _ (by omega) (fun e => by rw [hg] at e; injection e with e; omega) (hσr1 g k hg)
 refine ⟨_, hR3.give0 (ow := fun g => ∃ k, k < n ∧ σ' g = some k) (Nat.le_refl _) (fun _ _ _ => rfl) hR3.fr (fun g ⟨k, hk1, hk⟩ => ⟨(q3 g k hk).2, .inl ⟨S1.length + k, by omega, hpar g k hk1 hk⟩⟩) fun d _ g1 g2 => ?_⟩
 have hres : ∀ (i : Nat) (b : TV), rt.res[i]? = some b → ∃ u cs, vs[i]? = some u ∧ matchV b.t u cs ∧ M w' (Av (grant σ3 o.dst fun g => ∃ k, k < n ∧ σ' g = some k) Z) H b.t b.m b.x cs (fun g => i < n ∧ σ' g = some i) [] := fun i b hb => by
  obtain ⟨u, c, u1, u2, u3⟩ := q4 i b hb
  have hil : i < n := by rw [hn]; exact (List.getElem?_eq_some_iff.1 hb).1
  have hsb := List.all_eq_true.1 hall b (List.mem_of_getElem? hb)
  simp only [Bool.and_eq_true] at hsb
  exact ⟨u, c, u1, u2, M_move (Stays.refl _ _) _ (fun _ _ _ => rfl) (fun g hg _ => ⟨hil, hg⟩) (fun _ h => h) (M_bare _ hsb.2 (M_solid _ hsb.1 u3))⟩
 have htup : ∀ l : List TV, l = rt.res → Holds w' (Av (grant σ3 o.dst fun g => ∃ k, k < n ∧ σ' g = some k) Z) H (tmOf (a.put o.dst v)) (S2.put o.dst (.tup (l.map some))) (fun g => grant σ3 o.dst (fun g => ∃ k, k < n ∧ σ' g = some k) g = some d) (.tup (l.map some)) (.tuple vs.toArray) := fun l hl => by
  subst hl
  refine ⟨vs, fun g => (σ' g).getD 0, rfl, by simp [q2], fun j b hj => ?_⟩
  rw [List.getElem?_map] at hj
  cases hb : rt.res[j]? with
  | none => rw [hb] at hj; cases hj
  | some b' =>
   rw [hb] at hj
   simp only [Option.map_some, Option.some.injEq] at hj
   subst hj
   obtain ⟨u, c, u1, u2, u3⟩ := hres j b' hb
   exact ⟨u, c, u1, u2, M_move (Stays.refl _ _) _ (fun _ _ _ => rfl) (fun g hg _ => ⟨g1 g ⟨j, hg⟩, by show (σ' g).getD 0 = j; rw [hg.2]; rfl⟩) (fun _ h => h) u3⟩
 subst q1
 match hres' : rt.res, q2 with
 | [b], q2 =>
  match vs, q2 with
  | [u], _ =>
   obtain ⟨u', c, u1, u2, u3⟩ := hres 0 b (by rw [hres']; rfl)
   simp only [List.getElem?_cons_zero, Option.some.injEq] at u1
   subst u1
   exact ⟨c, u2, M_move (Stays.refl _ _) _ (fun _ _ _ => rfl) (fun g hg _ => g1 g ⟨0, hg⟩) (fun _ h => h) u3⟩
 | [], q2 =>
  match vs, q2 with
  | [], _ => exact htup [] hres'.symm
 | b :: b' :: r, q2 =>
  match vs, q2 with
  | u :: u' :: vr, _ => exact htup (b :: b' :: r) hres'.symm
end Go.Pv
namespace Go.Pv
set_option linter.unusedVariables false
set_option linter.unusedSimpArgs false
variable {P : Program} {w w' : World} {A A' Wr : Nat → Prop} {H : Nat → Value} {tm tm' : Nat → Value} {S S' S1 : St} {σ σ1 σ2 : Nat → Option Nat} {w0 : World} {W0 Z : Nat → Prop} {a : Act} {own : Nat → Prop} {v : Value} {Θ : Tab} {dst : Option Nat}
theorem RelS.drop (h : RelS σ w0 W0 Z H S a w) (ow : Nat → Prop) (how : ∀ g, ow g → ∀ i, σ g = some i → S.length ≤ i) :
  ∃ σ2, RelS σ2 w0 W0 Z H S a w ∧ (∀ g, Av σ2 Z g → Av σ Z g ∧ ¬ ow g ∨ Z g) := by
 let σ2 : Nat → Option Nat := fun g => open Classical in if ow g then none else σ g
 have h2 : ∀ g i, σ2 g = some i → ¬ ow g ∧ σ g = some i := fun g i hg => by
  simp only [σ2] at hg
  split at hg
  ·cases hg
  ·exact ⟨by assumption, hg⟩
 have h3 : ∀ g i, ¬ ow g → σ g = some i → σ2 g = some i := fun g i hn hg => by simp only [σ2, if_neg hn, hg]
 have hst : Stays w w (Av σ Z) (Av σ2 Z) := ⟨fun _ _ _ => rfl, fun g _ hg => by
  rcases hg with ⟨i, hi⟩ | hz
  ·exact .inl ⟨i, (h2 g i hi).2⟩
  ·exact .inr hz⟩
 refine ⟨σ2, ⟨h.len, h.defers, h.fr, fun g i hg => h.new g i (h2 g i hg).2, fun g i hg => h.lt g i (h2 g i hg).2, fun g hg => ⟨?_, (h.old g hg).2⟩, fun i => ?_⟩, fun g hg => ?_⟩
 ·simp only [σ2]
  split
  ·rfl
  ·exact (h.old g hg).1
 ·by_cases hil : i < S.length
  ·refine (h.holds i).kept hst (fun g hg _ => ⟨rfl, h3 g i (fun hx => ?_) hg⟩) (fun s hs => ⟨fun _ _ h => h, rfl, _, h.holds s, fun _ _ _ => rfl⟩)
   have := how g hx i hg
   omega
  ·have hd : S.at i = .dead := Classical.byContradiction fun hx => hil (at_lt hx)
   rw [hd]; trivial
 ·rcases hg with ⟨i, hi⟩ | hz
  ·exact .inl ⟨.inl ⟨i, (h2 g i hi).2⟩, (h2 g i hi).1⟩
  ·exact .inr hz
theorem valid_noIdx : ∀ (p : Path) {t : Ty} {m : Md} {x : t.I} {b : TV}, noIdx p = true → getP p t m x = some b → valid p t x
 | [], _, _, _, _, _, _ => trivial
 | .idx _ :: _, _, _, _, _, h, _ => by simp [noIdx] at h
 | .deref :: p, t, m, x, b, h, e => by
  cases t <;> simp only [getP] at e <;> first | cases e | exact valid_noIdx p h e
 | .fst :: p, t, m, x, b, h, e => by
  cases t <;> simp only [getP] at e <;> first | cases e | exact valid_noIdx p h e
 | .snd :: p, t, m, x, b, h, e => by
  cases t <;> simp only [getP] at e <;> first | cases e | exact valid_noIdx p h e
theorem RelS.freeze (h : RelS σ w0 W0 Z H S a w) {d : Nat} {r : TV} (hat : S.at d = .v r []) : Rel w0 W0 Z H (S.put (some d) (.v (kTV r) [])) a w := by
 have hh := h.holds d
 rw [hat] at hh
 obtain ⟨cs, hm, hM⟩ := hh
 have h0 : ∀ g, σ g = some d → ¬ Av (release σ (some d)) Z g := fun g hg hx => by
  rcases hx with ⟨i, hi⟩ | hz
  ·obtain ⟨h1, h2⟩ := release_some hi
   rw [hg] at h1
   exact h2 h1
  ·rw [(h.old g hz).1] at hg; cases hg
 have hst : Stays w w (Av σ Z) (Av (release σ (some d)) Z) := ⟨fun _ _ _ => rfl, fun g _ hg => Av_release hg⟩
 refine ⟨release σ (some d), ?_⟩
 have := h.put (dst := some d) (av := .v (kTV r) []) (v := tmOf a d) hst h.fr (fun g i hg => ⟨h.new g i (release_some hg).1, h.lt g i (release_some hg).1⟩) (fun g hg => by
  unfold release
  split
  ·rfl
  ·exact (h.old g hg).1) (fun i g _ hd hg => ⟨rfl, release_keep hd hg⟩) (fun d' hd' _ _ => by
  injection hd' with hd'
  subst hd'
  refine ⟨cs, hm, K_M (t := r.t) rfl (M_K (fun g _ hx => Av_release hx) r.t rfl h0 hM)⟩)
 rw [put_same] at this
 exact this
theorem rel_ownAt (h : Rel w0 W0 Z H S a w) {d : Nat} (e : ownAt S d = some (true, S')) : Rel w0 W0 Z H S' a w := by
 obtain ⟨σ, h⟩ := h
 unfold ownAt at e
 split at e
 case h_2 => cases e
 rename_i t s st pp hat
 split at e
 case h_2 => cases e
 rename_i r ex hs
 split at e
 case h_2 => cases e
 rename_i b hget
 cases hk : b.m.isK with
 | true => rw [hk] at e; cases e
 | false =>
 rw [hk] at e
 simp only [cond_false, Option.some.injEq, Prod.mk.injEq] at e
 obtain ⟨hcl, rfl⟩ := e
 have hal := h.holds d
 rw [hat] at hal
 obtain ⟨σ1, cs2, ow, t1, hm, hM, hk1, hn⟩ := takeC_spec0 (vv := tmOf a d) h (by simp) hal hs hget hk (fun q hq => by simpa using List.all_eq_true.1 hcl q hq)
 have := t1.give (dst := some d) (v := tmOf a d) (ow := ow) (A' := Av σ1 Z) (fun _ _ => rfl) t1.fr (fun g hg => by
  obtain ⟨i, hi, hi2⟩ := hk1.now g hg
  exact ⟨t1.lt g i hi2, .inl ⟨i, by omega, hi2⟩⟩) (fun g _ hg => by
  rcases hg with hg | hg
  ·exact hg
  ·obtain ⟨i, hi, hi2⟩ := hk1.now g hg
   exact .inl ⟨i, hi2⟩) hm hM
 rw [put_same] at this
 exact ⟨_, this⟩
theorem rel_frz1 (h : Rel w0 W0 Z H S a w) (q : Nat × Path) : Rel w0 W0 Z H (S.frz1 q) a w := by
 obtain ⟨σ, h⟩ := h
 obtain ⟨s, p⟩ := q
 unfold St.frz1
 simp only
 split
 case h_2 => exact ⟨σ, h⟩
 rename_i r hat
 split
 case h_2 => exact ⟨σ, h⟩
 rename_i b hget
 cases hc : (b.m.isK || !noIdx p) with
 | true => exact ⟨σ, h⟩
 | false =>
 simp only [cond_false]
 simp only [Bool.or_eq_false_iff, Bool.not_eq_false'] at hc
 obtain ⟨hk, hni⟩ := hc
 split
 ·exact h.freeze hat
 rename_i hp
 split
 case h_2 => exact ⟨σ, h⟩
 rename_i m z hset
 have hh := h.holds s
 rw [hat] at hh
 obtain ⟨cs0, hmat, hM0⟩ := hh
 have hval := valid_noIdx p hni hget
 have hopen : open_ p [] := fun _ hq => by cases hq
 obtain ⟨cs, ow', k1, k2, k3⟩ := focus p hM0 hopen hval hget
 have hal : ∃ t vv, Holds w (Av σ Z) H (tmOf a) S (fun _ => False) (.al t s p) vv ∧ t = b.t ∧ matchV t vv cs := by
  obtain ⟨vv, hvv⟩ : ∃ vv, matchV b.t vv cs := by
   unfold matchV
   cases hg : isAgg b.t with
   | true => exact ⟨_, by rw [if_pos rfl]⟩
   | false =>
    have hl := (M_ok _ k3).1
    have h1 := size_one0 hg
    rw [h1] at hl
    obtain ⟨u, rfl⟩ := List.length_eq_one_iff.1 hl
    exact ⟨u, by simp⟩
  exact ⟨b.t, vv, ⟨r, cs0, cs, ⟨⟨[], hat, hopen⟩, hval, ⟨b, hget, rfl⟩, hmat⟩, k1, hvv⟩, rfl, hvv⟩
 obtain ⟨t, vv, hal, rfl, hvv⟩ := hal
 obtain ⟨σ1, cs2, ow, t1, hm, hM, hk1, hn⟩ := takeC_spec0 (vv := vv) h hp hal hat hget hk (fun _ hq => by cases hq)
 obtain rfl := matchV_inj hvv hm
 obtain ⟨σ2, d1, d2⟩ := t1.drop ow (fun g hg i hi => by
  obtain ⟨j, hj, hj2⟩ := hk1.now g hg
  rw [hi] at hj2
  injection hj2 with hj2
  omega)
 have hK : K w (Av σ2 Z) b.t b.x cs := M_K (fun g _ hx => by
  rcases d2 g hx with hx | hx
  ·exact hx.1
  ·exact .inr hx) b.t rfl (fun g hg hx => by
  rcases d2 g hx with hx | hx
  ·exact hx.2 hg
  ·obtain ⟨j, _, hj⟩ := hk1.now g hg
   rw [(t1.old g hx).1] at hj; cases hj) hM
 have hat1 : St.at (((S.weaken s).cover s p).set s (.v r [p])) s = .v r ([] ++ [p]) := by
  rw [at_set, if_pos ⟨rfl, by simp only [St.weaken, St.cover, List.length_map]; exact at_lt (by rw [hat]; exact fun e => by cases e)⟩]
  rfl
 obtain ⟨σ3, h3, _⟩ := refill_hole (b := kTV b) (ow2 := fun _ => False) (ex := []) d1 (fun _ h => h.elim) hat1 hmat k1 hval hget (fun _ hq => by cases hq) hset (K_M (t := b.t) rfl hK)
 exact ⟨σ3, h3⟩
theorem rel_frzs : ∀ (l : List (Nat × List (Nat × Path))) {id : Nat}, Rel w0 W0 Z H S a w → Rel w0 W0 Z H (frzs l id S) a w
 | [], _, h => h
 | q :: r, id, h => by
  unfold frzs
  cases Nat.beq q.1 id with
  | true =>
   simp only [cond_true]
   generalize q.2 = l
   induction l generalizing S with
   | nil => exact h
   | cons x l ih => exact ih (rel_frz1 h x)
  | false => exact rel_frzs r h
end Go.Pv
namespace Go.Pv
set_option linter.unusedVariables false
set_option linter.unusedSimpArgs false
variable {Γ : Gl} {P : Program} {w w' : World} {A A' Wr : Nat → Prop} {H : Nat → Value} {tm tm' : Nat → Value} {S S' S1 : St} {σ σ1 σ2 : Nat → Option Nat} {w0 : World} {W0 Z : Nat → Prop} {a : Act} {own : Nat → Prop} {v : Value} {Θ : Tab} {dst : Option Nat} {O : Orc} {hh : Hint} {Q : Exit → Act → World → Prop} {K : St → Option Ret} {ret : Ret}
def Then (w0 : World) (W0 Z : Nat → Prop) (H : Nat → Value) (K : St → Option Ret) (ret : Ret) (a : Act) (w : World) : Prop := ∃ S, K S = some ret ∧ Rel w0 W0 Z H S a w
theorem op_call {o : Oper} {c : Call} {f : FuncId} {capv : List Value} (ho : o.op = .call c) (hc : ∃ x, c.callee = .value x ∧ a.eval x = .func (.func f) #[] capv.toArray) {R : Value → World → Prop} (hd : Does P f (c.args.toList.map a.eval ++ capv) w R)
  {N : Act → World → Prop} (hN : ∀ v w', R v w' → N (a.put o.dst v) w') : o.wp P a w N Q := by
 obtain ⟨x, hx, hv⟩ := hc
 have hrun : (execOp a.eval o).run P w = (callFunc f (c.args.toList.map a.eval ++ capv).toArray).run P w := by
  simp only [execOp, ho, resolve, hx, Deferred.ofValue, hv, Sem.run_bind, Sem.run_pure, Result.andThen_ok, invoke]
  congr 2
  apply Array.toList_inj.1
  simp
 unfold Oper.wp
 rw [hrun]
 rcases hd with ⟨h1, h2⟩ | ⟨v, w', h1, h2⟩
 ·rw [h1, Oper.upon_enter]
  refine h2.mono fun e w' he => ?_
  cases e with
  | returned v => exact hN _ _ he
  | panicked c => exact he.elim
  | outgrown => exact he.elim
 ·rw [h1, Oper.upon_value]
  exact hN _ _ h2
theorem adds_call {f : FuncId} {c : Call} (hc : c.callee = .value (.func f)) (h : adds O (.call c) = true) : ∀ p ∈ O.sig f, p = .val := by
 obtain ⟨callee, args, ats⟩ := c
 simp only at hc
 subst hc
 simp only [adds, List.all_eq_true] at h
 intro p hp
 have := h p hp
 cases p <;> first | rfl | cases this
theorem quiet_adds {op : Op} (h : quiet op = true) : addsE op = true := by
 unfold addsE
 split <;> first | rfl | exact h
theorem lendAt_not : ∀ (l : List Pass) (n : Nat) {j : Nat}, lendAt l n = some j → ¬ ∀ p ∈ l, p = .val
 | [], n, j, h, _ => by cases h
 | .lend :: r, n, j, h, hv => by have := hv .lend (by simp); cases this
 | .val :: r, n, j, h, hv => lendAt_not r (n + 1) (by simpa [lendAt] using h) (fun p hp => hv p (by simp [hp]))
 | .take :: r, n, j, h, hv => by have := hv .take (by simp); cases this
theorem nil_ok (hT : tabB P hh.tab = true) (h : RelS σ w0 W0 Z H S a w) {T : TypeId} {x : Operand} {eq : Bool} {dst : Option Nat} (e : peNil hh dst T eq x S K = some ret) :
  (∃ A n c, a.eval x = .slice A n c) ∧ ∃ q, (binOp (bif eq then .eql else .neq) T (a.eval x) (.slice none 0 0)).run P w = .ok (.bool q) w ∧ ∃ S', K S' = some ret ∧ Rel w0 W0 Z H S' (a.put dst (.bool q)) w := by
 unfold peNil at e
 split at e
 case h_2 => cases e
 rename_i t m xs hx
 cases hTi : hh.tab.is T (.sl t) with
 | false => rw [hTi] at e; cases e
 | true =>
 rw [hTi] at e
 simp only [cond_true] at e
 obtain ⟨cs, h1, h2, _⟩ := rd_spec h hx
 simp only [Go.Pv.K] at h2
 obtain ⟨A, c, rfl, hc, hpos⟩ := h2
 have hv : a.eval x = .slice A (List.length xs) c := by simpa [matchV, isAgg] using h1.symm
 obtain ⟨i, hi, hty⟩ := is_find hTi
 obtain ⟨_, hu, hTT⟩ := tab_ti hT hi
 obtain ⟨u1, _, _⟩ := und_sl hu hty
 rw [hTT] at u1
 have hin : ∀ d, (Op.equalIn (d + 1) T (.slice A (List.length xs) c) (.slice none 0 0)).run P w = .ok A.isNone w := fun d => by
  simp only [Op.equalIn, Sem.run_bind, run_underlying u1, Result.andThen_ok]
  cases A <;> simp
 have hrun : (Op.equal T (a.eval x) (.slice none 0 0)).run P w = .ok A.isNone w := by
  rw [hv]
  exact hin 9999
 have hq : (binOp (bif eq then .eql else .neq) T (a.eval x) (.slice none 0 0)).run P w = .ok (.bool (bif eq then A.isNone else !A.isNone)) w := by
  cases eq <;> simp [binOp, hrun]
 refine ⟨⟨A, _, c, hv⟩, _, hq, ?_⟩
 have put : ∀ q : Bool, Rel w0 W0 Z H (S.put dst (.v ⟨.bool, .k, q⟩ [])) (a.put dst (.bool q)) w := fun q => ⟨_, h.pure (holds_bool q)⟩
 cases hemp : List.isEmpty xs with
 | true =>
  rw [hemp] at e
  simp only [cond_true] at e
  obtain ⟨e1, e2⟩ := both_some e
  cases hb : (bif eq then A.isNone else !A.isNone) with
  | true => exact ⟨_, e1, put true⟩
  | false => exact ⟨_, e2, put false⟩
 | false =>
  rw [hemp] at e
  simp only [cond_false] at e
  have hp : 0 < List.length xs := by
   cases xs with
   | nil => simp at hemp
   | cons _ _ => simp
  obtain ⟨g, off, cur, T', fr, rfl, _⟩ := hpos hp
  cases eq with
  | true => exact ⟨_, e, put false⟩
  | false => exact ⟨_, e, put true⟩
theorem op_ok (hT : tabB P hh.tab = true) (hO : OrcOK Γ P O w0 W0) (h : RelS σ w0 W0 Z H S a w) {o : Oper} (e : peOp hh O o S K = some ret) :
  o.wp P a w (fun a' w' => Then w0 W0 Z H K ret a' w' ∧ (adds O o.op = true → Ext w w')) Q := by
 unfold peOp at e
 split at e
 ·rename_i f as ts ho
  split at e
  ·rename_i j hj
   have hd := lend_ok hT hO h e
   rw [← List.append_nil (as.toList.map a.eval)] at hd
   refine op_call ho (capv := []) ⟨_, rfl, by simp [Act.eval]⟩ hd ?_
   intro v w' ⟨S', h1, h2⟩
   exact ⟨⟨S', h1, h2⟩, fun hx => absurd (adds_call rfl (by rw [ho] at hx; exact hx)) (lendAt_not _ _ hj)⟩
  refine op_call ho (capv := []) ⟨_, rfl, by simp [Act.eval]⟩ (call_ok hT hO h (.inl ⟨rfl, rfl⟩) e) ?_
  intro v w' ⟨S', h1, h2, h3⟩
  exact ⟨⟨S', h1, h2⟩, fun hx => h3 (adds_call rfl (by rw [ho] at hx; exact hx))⟩
 ·rename_i i as ts ho
  split at e
  case h_2 => cases e
  rename_i f caps hat
  have hold := h.holds i
  rw [hat] at hold
  obtain ⟨vs, v1, v2, v3⟩ := hold
  refine op_call ho (capv := vs) ⟨_, rfl, v1⟩ (call_ok hT hO h (.inr ⟨i, rfl, v1⟩) e) ?_
  intro v w' ⟨S', h1, h2, h3⟩
  refine ⟨⟨S', h1, h2⟩, fun hx => ?_⟩
  rw [ho] at hx
  cases hx
 ·rename_i T x T' ho
  obtain ⟨⟨A, n, c, hv⟩, q, hq, S', hS, hR⟩ := nil_ok hT h (eq := true) e
  unfold Oper.wp
  have hr : (execOp a.eval o).run P w = .ok (.value (.bool q)) w := by
   have hq' : (binOp .eql T (a.eval x) (a.eval (.const (.slice none 0 0)))).run P w = .ok (.bool q) w := hq
   have hg : (eqGuard .eql T x (.const (.slice none 0 0)) (a.eval x) (a.eval (.const (.slice none 0 0)))).run P w = .ok () w := by
    rw [hv]
    simp [eqGuard, Act.eval]
   simp only [execOp, ho, Sem.run_bind]
   rw [hg]
   simp only [Result.andThen_ok]
   rw [hq']
   rfl
  rw [hr, Oper.upon_value]
  exact ⟨⟨S', hS, hR⟩, fun _ => Ext.refl w⟩
 ·rename_i T x T' ho
  obtain ⟨⟨A, n, c, hv⟩, q, hq, S', hS, hR⟩ := nil_ok hT h (eq := false) e
  unfold Oper.wp
  have hr : (execOp a.eval o).run P w = .ok (.value (.bool q)) w := by
   have hq' : (binOp .neq T (a.eval x) (a.eval (.const (.slice none 0 0)))).run P w = .ok (.bool q) w := hq
   have hg : (eqGuard .neq T x (.const (.slice none 0 0)) (a.eval x) (a.eval (.const (.slice none 0 0)))).run P w = .ok () w := by
    rw [hv]
    simp [eqGuard, Act.eval]
   simp only [execOp, ho, Sem.run_bind]
   rw [hg]
   simp only [Result.andThen_ok]
   rw [hq']
   rfl
  rw [hr, Oper.upon_value]
  exact ⟨⟨S', hS, hR⟩, fun _ => Ext.refl w⟩
 ·rename_i n1 n2 n3 n4
  split at e
  case h_2 => cases e
  rename_i g S1 hev
  cases g with
  | false => cases e
  | true =>
  simp only [cond_true] at e
  by_cases hadd : addsE o.op = true
  ·obtain ⟨w', v, r1, r2, r3⟩ := evx_ok hT h hadd hev
   unfold Oper.wp
   rw [r1, Oper.upon_value]
   exact ⟨⟨S1, e, r3⟩, fun _ => r2⟩
  ·obtain ⟨w', v, r1, r3⟩ := ev_ok hT h hev
   have hna : ¬ adds O o.op = true := fun hx => by
    apply hadd
    revert hx n1
    generalize o.op = op
    intro n1 hx
    unfold adds at hx
    split at hx <;> first | rfl | (exact absurd rfl (n1 _ _ _)) | exact quiet_adds hx
   unfold Oper.wp
   rcases r1 with r1 | ⟨rfl, r1⟩
   ·rw [r1, Oper.upon_value]
    exact ⟨⟨S1, e, r3⟩, fun hx => absurd hx hna⟩
   ·rw [r1, Oper.upon_skip]
    exact ⟨⟨S1, e, r3⟩, fun hx => absurd hx hna⟩
end Go.Pv
namespace Go.Pv
set_option linter.unusedVariables false
set_option linter.unusedSimpArgs false
variable {Γ : Gl} {P : Program} {w w' : World} {A A' Wr : Nat → Prop} {H : Nat → Value} {tm tm' : Nat → Value} {S S' S1 : St} {σ σ1 σ2 : Nat → Option Nat} {w0 : World} {W0 Z : Nat → Prop} {a : Act} {own : Nat → Prop} {v : Value} {Θ : Tab} {dst : Option Nat} {O : Orc} {hh : Hint} {Q : Exit → Act → World → Prop} {K : St → Option Ret} {ret : Ret} {ops : Array Oper}
theorem tm_get {i : Nat} (h : RelS σ w0 W0 Z H S a w) (hi : i < S.length) : a.tmps[i]? = some (tmOf a i) := by
 have hl : i < a.tmps.size := by rw [← h.len]; exact hi
 unfold tmOf
 rw [Array.getD_eq_getD_getElem?, Array.getElem?_eq_getElem hl]
 rfl
theorem yield_bool (h : RelS σ w0 W0 Z H S a w) {j d : Nat} {m : Md} {q : Bool} {ex : List Path} (hd : (ops[j]?).bind (·.dst) = some d) (hat : S.at d = .v ⟨.bool, m, q⟩ ex) : yielded ops a.tmps j = some q ∧ tmOf a d = .bool q := by
 have hl := at_lt (S := S) (i := d) (by rw [hat]; exact fun e => by cases e)
 have hh := h.holds d
 rw [hat] at hh
 obtain ⟨cs, h1, h2⟩ := hh
 simp only [M] at h2
 have hv := match_bool h1 h2.2
 refine ⟨?_, hv⟩
 unfold yielded
 rw [hd, Option.bind_some, tm_get h hl, hv]
theorem yield_undef (h : RelS σ w0 W0 Z H S a w) {j d : Nat} (hd : (ops[j]?).bind (·.dst) = some d) (hat : S.at d = .undef) : yielded ops a.tmps j = none := by
 have hl := at_lt (S := S) (i := d) (by rw [hat]; exact fun e => by cases e)
 have hh := h.holds d
 rw [hat] at hh
 have hv : tmOf a d = undef := hh
 unfold yielded
 rw [hd, Option.bind_some, tm_get h hl, hv]
 rfl
theorem Rel.undef (h : RelS σ w0 W0 Z H S a w) (dst : Option Nat) : Rel w0 W0 Z H (S.put dst .undef) (a.put dst Go.undef) w := ⟨_, h.pure (av := .undef) (v := Go.undef) rfl⟩
theorem set_self {S : St} {d : Nat} {a : AV} (h : S.at d = a) (hd : a ≠ .dead) : S.set d a = S := by
 unfold St.at at h
 rw [List.getD_eq_getElem?_getD] at h
 by_cases hl : d < S.length
 ·rw [List.getElem?_eq_getElem hl] at h
  simp only [Option.getD_some] at h
  subst h
  simp
 ·rw [List.getElem?_eq_none (by omega)] at h
  exact absurd h.symm hd
theorem step_cases (h : RelS σ w0 W0 Z H S a w) {i : Nat} {o : Oper} (ho : ops[i]? = some o) (e : peStep hh O ops i S K = some ret) :
  (Region.wanted o (yielded ops a.tmps) = true ∧ ∃ σ' S', RelS σ' w0 W0 Z H S' a w ∧ peOp hh O o S' K = some ret) ∨
  (Region.wanted o (yielded ops a.tmps) = false ∧ Then w0 W0 Z H K ret (a.put o.dst undef) w) := by
 unfold peStep at e
 rw [ho] at e
 simp only at e
 split at e
 ·rename_i hg
  exact .inl ⟨by simp [Region.wanted, hg], σ, S, h, e⟩
 ·rename_i j want hg
  split at e
  case h_2 => cases e
  rename_i d hd
  split at e
  ·rename_i m q ex hat
   obtain ⟨hy, hv⟩ := yield_bool h hd hat
   have hw : Region.wanted o (yielded ops a.tmps) = (q == want) := by
    unfold Region.wanted
    rw [hg]
    simp only [hy]
    cases q <;> cases want <;> rfl
   have hself := set_self hat (fun e => by cases e)
   cases q with
   | true =>
    simp only [cond_true, hself] at e
    cases want with
    | true => exact .inl ⟨hw, σ, _, h, e⟩
    | false => exact .inr ⟨hw, _, e, Rel.undef h o.dst⟩
   | false =>
    simp only [cond_false, hself] at e
    cases want with
    | true => exact .inr ⟨hw, _, e, Rel.undef h o.dst⟩
    | false => exact .inl ⟨hw, σ, _, h, e⟩
  ·rename_i hat
   have hy := yield_undef h hd hat
   refine .inr ⟨?_, _, e, Rel.undef h o.dst⟩
   unfold Region.wanted
   rw [hg]
   simp only [hy]
   rfl
  ·cases e
theorem step_ok (hT : tabB P hh.tab = true) (hO : OrcOK Γ P O w0 W0) (h : RelS σ w0 W0 Z H S a w) {i : Nat} (e : peStep hh O ops i S K = some ret) :
  wpOp P ops Q i (fun a' w' => Then w0 W0 Z H K ret a' w' ∧ (∀ o, ops[i]? = some o → adds O o.op = true → Ext w w')) a w := by
 unfold wpOp
 cases ho : ops[i]? with
 | none => unfold peStep at e; rw [ho] at e; cases e
 | some o =>
  simp only
  rcases step_cases h ho e with ⟨hw, σ', S', h', e'⟩ | ⟨hw, hthen⟩
  ·rw [if_pos hw]
   refine .inl (Oper.wp_mono (fun a' w' h => ⟨h.1, fun o' ho' => ?_⟩) (op_ok hT hO h' e'))
   injection ho' with ho'
   subst ho'
   exact h.2
  ·rw [if_neg (by rw [hw]; exact Bool.false_ne_true)]
   exact ⟨hthen, fun _ _ _ => Ext.refl w⟩
theorem idx_ok (hT : tabB P hh.tab = true) (hO : OrcOK Γ P O w0 W0) (hQ : ∀ a w, Then w0 W0 Z H K ret a w → Q .normal a w) : ∀ (l : List Nat) {S : St} {a : Act} {w : World}, peIdx hh O ops l S K = some ret → Rel w0 W0 Z H S a w → wpOps P ops Q l a w
 | [], S, a, w, e, h => hQ a w ⟨S, e, h⟩
 | i :: l, S, a, w, e, ⟨σ, h⟩ => by
  rw [wpOps_cons]
  simp only [peIdx] at e
  refine wpOp_mono (fun a' w' h' => ?_) (step_ok hT hO h e)
  obtain ⟨⟨S', h1, h2⟩, _⟩ := h'
  exact idx_ok hT hO hQ l h1 h2
theorem Ext.trans {w1 w2 w3 : World} (h : Ext w1 w2) (h' : Ext w2 w3) : Ext w1 w3 := fun g hg => by
 have h1 := h g hg
 have : g < w2.heap.size := by
  rw [Array.getElem?_eq_getElem hg] at h1
  exact lt_of_some h1
 rw [h' g this, h1]
def wpE (P : Program) (ops : Array Oper) (Q : Exit → Act → World → Prop) (ad : Nat → Bool) : Nat → Array Bool → Act → World → Prop
 | 0, listed, a, w => Region.ready .any ops listed = [] ∧ Q .normal a w
 | n + 1, listed, a, w => (Region.ready .any ops listed = [] → Q .normal a w) ∧
  ∀ i ∈ Region.ready .any ops listed, wpOp P ops Q i (fun a' w' => (ad i = true → Ext w w') ∧ wpE P ops Q ad n (listed.setIfInBounds i true) a' w') a w
theorem wpE_any {ad : Nat → Bool} : ∀ (n : Nat) {listed : Array Bool} {a : Act} {w : World}, wpE P ops Q ad n listed a w → wpAny P .any ops Q n listed a w
 | 0, _, _, _, h => h
 | n + 1, _, _, _, h => ⟨h.1, fun i hi => wpOp_mono (fun _ _ h' => wpE_any n h'.2) (h.2 i hi)⟩
theorem wpE_first {ad : Nat → Bool} {i : Nat} {oi : Oper} {v : Value} (hi : ops[i]? = some oi) (hsel : ∀ (j : Nat) (o : Oper) cs b, ops[j]? = some o → o.op ≠ .select cs b)
  (hQ : ∀ c a w, Q (.panic c) (a.put oi.dst v) w → Q (.panic c) a w) {D : Nat → Bool} (hDi : D i = true)
  (hD : ∀ j oj, ops[j]? = some oj → D j = true → j ≠ i → ∃ e ∈ oj.after, Region.binds .any e = true ∧ D e.on = true) :
  ∀ (fuel : Nat) (listed : Array Bool) (a : Act) (w : World), (∀ j, D j = true → listed.getD j true = false) →
   (∀ j oj, ops[j]? = some oj → D j = false → listed.getD j true = false → oi.apart ops oj = true ∧ ad j = true) →
   i ∈ Region.ready .any ops listed → YieldsIf P ops (Ext w) oi v a → wpE P ops Q ad fuel (listed.setIfInBounds i true) (a.put oi.dst v) w → wpE P ops Q ad (fuel + 1) listed a w := by
 intro fuel
 induction fuel with
 | zero =>
  intro listed a w _ _ hr hy HH
  refine ⟨fun h => (by rw [h] at hr; cases hr), fun j hj => ?_⟩
  by_cases hji : j = i
  ·subst hji; exact hy.wpOp hi (Ext.refl w) ⟨fun _ => Ext.refl w, HH⟩
  ·have := ready_mono hj hji
   rw [HH.1] at this
   cases this
 | succ fuel ih =>
  intro listed a w hun hfree hr hy HH
  refine ⟨fun h => (by rw [h] at hr; cases hr), fun j hj => ?_⟩
  by_cases hji : j = i
  ·subst hji; exact hy.wpOp hi (Ext.refl w) ⟨fun _ => Ext.refl w, HH⟩
  ·have h1 := HH.2 j (ready_mono hj hji)
   obtain ⟨hjun, oj, hoj, hall⟩ := mem_ready.1 hj
   have hDj : D j = false := by
    cases hd : D j with
    | false => rfl
    | true =>
     obtain ⟨e, he, hb, hde⟩ := hD j oj hoj hd hji
     have h2 := hall e he hb
     have h3 := hun e.on hde
     rcases Nat.lt_or_ge e.on listed.size with hl | hl
     ·simp [hl] at h2 h3; rw [h3] at h2; cases h2
     ·simp [Array.getElem?_eq_none hl] at h2
   obtain ⟨hap, had⟩ := hfree j oj hoj hDj hjun
   have h2 := wpOp_putIf hoj hap (fun cs b => hsel i oi cs b hi) (fun cs b => hsel j oj cs b hoj) hQ hy h1
   refine wpOp_mono (fun a' w' h3 => ⟨fun _ => h3.2.1 had, ?_⟩) h2
   have hext := h3.2.1 had
   refine ih (listed.setIfInBounds j true) a' w' (fun k hk => ?_) (fun k ok hk hdk hun' => hfree k ok hk hdk ?_) (ready_mono hr (Ne.symm hji)) ?_ ?_
   ·have hjk : j ≠ k := fun e => by subst e; rw [hDj] at hk; cases hk
    rw [getD_set_ne true hjk]
    exact hun k hk
   ·by_cases hjk : j = k
    ·subst hjk; exact hjun
    ·rw [getD_set_ne true hjk] at hun'; exact hun'
   ·exact h3.1.imp (fun ⟨q1, q2⟩ => ⟨q1, fun w2 hw2 => q2 w2 (hext.trans hw2)⟩) id
   ·rw [Array.setIfInBounds_comm _ _ hji]
    exact h3.2.2
theorem wpE_first1 {ad : Nat → Bool} {i : Nat} {oi : Oper} {v : Value} (hi : ops[i]? = some oi) (hsel : ∀ (j : Nat) (o : Oper) cs b, ops[j]? = some o → o.op ≠ .select cs b)
  (hQ : ∀ c a w, Q (.panic c) (a.put oi.dst v) w → Q (.panic c) a w) {D : Nat → Bool} (hDi : D i = true)
  (hD : ∀ j oj, ops[j]? = some oj → D j = true → j ≠ i → ∃ e ∈ oj.after, Region.binds .any e = true ∧ D e.on = true) :
  ∀ (fuel : Nat) (listed : Array Bool) (a : Act) (w : World), (∀ j, D j = true → listed.getD j true = false) →
   (∀ j oj, ops[j]? = some oj → D j = false → listed.getD j true = false → oi.apart ops oj = true) →
   i ∈ Region.ready .any ops listed → YieldsIf P ops (fun _ => True) oi v a → wpE P ops Q ad fuel (listed.setIfInBounds i true) (a.put oi.dst v) w → wpE P ops Q ad (fuel + 1) listed a w := by
 intro fuel
 induction fuel with
 | zero =>
  intro listed a w _ _ hr hy HH
  refine ⟨fun h => (by rw [h] at hr; cases hr), fun j hj => ?_⟩
  by_cases hji : j = i
  ·subst hji; exact hy.wpOp hi trivial ⟨fun _ => Ext.refl w, HH⟩
  ·have := ready_mono hj hji
   rw [HH.1] at this
   cases this
 | succ fuel ih =>
  intro listed a w hun hfree hr hy HH
  refine ⟨fun h => (by rw [h] at hr; cases hr), fun j hj => ?_⟩
  by_cases hji : j = i
  ·subst hji; exact hy.wpOp hi trivial ⟨fun _ => Ext.refl w, HH⟩
  ·have h1 := HH.2 j (ready_mono hj hji)
   obtain ⟨hjun, oj, hoj, hall⟩ := mem_ready.1 hj
   have hDj : D j = false := by
    cases hd : D j with
    | false => rfl
    | true =>
     obtain ⟨e, he, hb, hde⟩ := hD j oj hoj hd hji
     have h2 := hall e he hb
     have h3 := hun e.on hde
     rcases Nat.lt_or_ge e.on listed.size with hl | hl
     ·simp [hl] at h2 h3; rw [h3] at h2; cases h2
     ·simp [Array.getElem?_eq_none hl] at h2
   have hap := hfree j oj hoj hDj hjun
   have h2 := wpOp_putIf hoj hap (fun cs b => hsel i oi cs b hi) (fun cs b => hsel j oj cs b hoj) hQ hy h1
   refine wpOp_mono (fun a' w' h3 => ⟨h3.2.1, ?_⟩) h2
   refine ih (listed.setIfInBounds j true) a' w' (fun k hk => ?_) (fun k ok hk hdk hun' => hfree k ok hk hdk ?_) (ready_mono hr (Ne.symm hji)) ?_ ?_
   ·have hjk : j ≠ k := fun e => by subst e; rw [hDj] at hk; cases hk
    rw [getD_set_ne true hjk]
    exact hun k hk
   ·by_cases hjk : j = k
    ·subst hjk; exact hjun
    ·rw [getD_set_ne true hjk] at hun'; exact hun'
   ·exact h3.1
   ·rw [Array.setIfInBounds_comm _ _ hji]
    exact h3.2.2
theorem bit_pow (j k : Nat) : Nat.testBit (2 ^ j) k = decide (j = k) := Nat.testBit_two_pow
theorem afterM_spec {o : Oper} {k : Nat} (h : Nat.testBit (afterM o) k = true) : ∃ e ∈ o.after, Region.binds .any e = true ∧ e.on = k := by
 have key : ∀ (l : List Edge), Nat.testBit (l.foldr (fun e m => bif Region.binds .any e then m ||| 2 ^ e.on else m) 0) k = true → ∃ e ∈ l, Region.binds .any e = true ∧ e.on = k := by
  intro l
  induction l with
  | nil => intro h; simp at h
  | cons e r ih =>
   intro h
   simp only [List.foldr_cons] at h
   cases hb : Region.binds .any e with
   | false =>
    rw [hb] at h
    obtain ⟨e', h1, h2⟩ := ih h
    exact ⟨e', List.mem_cons_of_mem _ h1, h2⟩
   | true =>
    rw [hb] at h
    simp only [cond_true, Nat.testBit_or, Bool.or_eq_true, bit_pow, decide_eq_true_eq] at h
    rcases h with h | h
    ·obtain ⟨e', h1, h2⟩ := ih h
     exact ⟨e', List.mem_cons_of_mem _ h1, h2⟩
    ·exact ⟨e, List.mem_cons_self .., hb, h⟩
 obtain ⟨e, h1, h2⟩ := key _ h
 exact ⟨e, by simpa using h1, h2⟩
theorem afterM_has {o : Oper} {e : Edge} (he : e ∈ o.after) (hb : Region.binds .any e = true) : Nat.testBit (afterM o) e.on = true := by
 have key : ∀ (l : List Edge), e ∈ l → Nat.testBit (l.foldr (fun e m => bif Region.binds .any e then m ||| 2 ^ e.on else m) 0) e.on = true := by
  intro l
  induction l with
  | nil => intro h; cases h
  | cons e' r ih =>
   intro h
   simp only [List.foldr_cons]
   rcases List.mem_cons.1 h with rfl | h
   ·rw [hb]
    simp [Nat.testBit_or, bit_pow]
   ·cases Region.binds .any e' <;> simp [Nat.testBit_or, ih h]
 exact key _ (by simpa using he)
theorem waitM_mono (i : Nat) : ∀ (r : List Nat) (j acc k : Nat), Nat.testBit acc k = true → Nat.testBit (waitM i r j acc) k = true
 | [], _, _, _, h => h
 | m :: r, j, acc, k, h => by
  simp only [waitM]
  refine waitM_mono i r _ _ k ?_
  cases (Nat.beq j i || !(Nat.beq (m &&& acc) 0)) <;> simp [Nat.testBit_or, h]
theorem waitM_self (i : Nat) : ∀ (r : List Nat) (j acc : Nat), j ≤ i → i < j + r.length → Nat.testBit (waitM i r j acc) i = true
 | [], _, _, h1, h2 => by simp at h2; omega
 | m :: r, j, acc, h1, h2 => by
  simp only [waitM]
  by_cases hj : j = i
  ·subst hj
   refine waitM_mono _ r _ _ _ ?_
   simp [Nat.testBit_or, bit_pow]
  ·exact waitM_self i r _ _ (by omega) (by simp only [List.length_cons] at h2; omega)
theorem waitM_spec (i : Nat) : ∀ (r : List Nat) (j acc k : Nat), Nat.testBit (waitM i r j acc) k = true →
  Nat.testBit acc k = true ∨ ∃ q m, k = j + q ∧ r[q]? = some m ∧ (k = i ∨ ∃ t, Nat.testBit m t = true ∧ Nat.testBit (waitM i r j acc) t = true)
 | [], _, _, _, h => .inl h
 | m :: r, j, acc, k, h => by
  simp only [waitM] at h ⊢
  rcases waitM_spec i r _ _ k h with h1 | ⟨q, m', h1, h2, h3⟩
  ·cases hc : (Nat.beq j i || !(Nat.beq (m &&& acc) 0)) with
   | false => rw [hc] at h1; exact .inl h1
   | true =>
    rw [hc] at h1
    simp only [cond_true, Nat.testBit_or, Bool.or_eq_true, bit_pow, decide_eq_true_eq] at h1
    rcases h1 with h1 | rfl
    ·exact .inl h1
    ·refine .inr ⟨0, m, by omega, rfl, ?_⟩
     rw [Bool.or_eq_true] at hc
     rcases hc with hc | hc
     ·exact .inl (Nat.eq_of_beq_eq_true hc)
     ·right
      have hne : m &&& acc ≠ 0 := fun e => by rw [e] at hc; cases hc
      obtain ⟨t, ht⟩ := Nat.exists_testBit_of_ne_zero hne
      rw [Nat.testBit_and, Bool.and_eq_true] at ht
      refine ⟨t, ht.1, waitM_mono i r _ _ t ?_⟩
      simp [Nat.testBit_or, ht.2]
  ·exact .inr ⟨q + 1, m', by omega, by simpa using h2, h3⟩
theorem apartAll_spec {oi : Oper} {rest : Nat} : ∀ (r : List Oper) (j : Nat), apartAll O ops oi rest r j = true → ∀ (q : Nat) (oj : Oper), r[q]? = some oj → Nat.testBit rest (j + q) = true → oi.apart ops oj = true ∧ adds O oj.op = true
 | [], _, _, q, oj, h, _ => by simp at h
 | o :: r, j, h, q, oj, hq, ht => by
  simp only [apartAll, Bool.and_eq_true] at h
  cases q with
  | zero =>
   simp only [List.getElem?_cons_zero, Option.some.injEq] at hq
   subst hq
   rw [Nat.add_zero] at ht
   rw [ht] at h
   simpa using h.1
  | succ q => exact apartAll_spec r (j + 1) h.2 q oj (by simpa using hq) (by rw [← ht]; congr 1; omega)
theorem stepq_ok (hT : tabB P hh.tab = true) (h : RelS σ w0 W0 Z H S a w) {i : Nat} {o : Oper} (ho : ops[i]? = some o) (hq : quiet o.op = true) (hn : nilT o.op = false) (e : peStep hh O ops i S K = some ret) :
  ∃ v, YieldsIf P ops (Ext w) o v a ∧ Then w0 W0 Z H K ret (a.put o.dst v) w := by
 rcases step_cases h ho e with ⟨hw, σ', S', h', e'⟩ | ⟨hw, hthen⟩
 ·unfold peOp at e'
  split at e'
  ·rename_i f as ts hop; rw [hop] at hq; cases hq
  ·rename_i i' as ts hop; rw [hop] at hq; cases hq
  ·rename_i hop; rw [hop] at hn; cases hn
  ·rename_i hop; rw [hop] at hn; cases hn
  ·split at e'
   case h_2 => cases e'
   rename_i g S1 hev
   cases g with
   | false => cases e'
   | true =>
    obtain ⟨v, h1, h2⟩ := evq_ok hT h' hq hev
    exact ⟨v, .inl ⟨hw, h1⟩, S1, e', h2⟩
 ·exact ⟨undef, .inr ⟨hw, rfl⟩, hthen⟩
theorem apartOnly_spec {oi : Oper} {rest : Nat} : ∀ (r : List Oper) (j : Nat), apartOnly ops oi rest r j = true → ∀ (q : Nat) (oj : Oper), r[q]? = some oj → Nat.testBit rest (j + q) = true → oi.apart ops oj = true
 | [], _, _, q, oj, h, _ => by simp at h
 | o :: r, j, h, q, oj, hq, ht => by
  simp only [apartOnly, Bool.and_eq_true] at h
  cases q with
  | zero =>
   simp only [List.getElem?_cons_zero, Option.some.injEq] at hq
   subst hq
   rw [Nat.add_zero] at ht
   rw [ht] at h
   simpa using h.1
  | succ q => exact apartOnly_spec r (j + 1) h.2 q oj (by simpa using hq) (by rw [← ht]; congr 1; omega)
theorem apartOnly_of {oi : Oper} {rest : Nat} : ∀ (r : List Oper) (j : Nat), (∀ (q : Nat) (oj : Oper), r[q]? = some oj → Nat.testBit rest (j + q) = true → oi.apart ops oj = true) → apartOnly ops oi rest r j = true
 | [], _, _ => rfl
 | o :: r, j, h => by
  unfold apartOnly
  rw [Bool.and_eq_true]
  refine ⟨?_, apartOnly_of r (j + 1) fun q oj hq ht => h (q + 1) oj (by simpa using hq) (by rw [← ht]; congr 1; omega)⟩
  cases hb : Nat.testBit rest j with
  | false => rfl
  | true => exact h 0 o rfl (by rw [Nat.add_zero]; exact hb)
theorem stepS_ok (hT : tabB P hh.tab = true) (h : RelS σ w0 W0 Z H S a w) {i : Nat} {o : Oper} (ho : ops[i]? = some o) (hqT : stillT hh.tab o.op = true) (e : peStep hh O ops i S K = some ret) :
  ∃ v, YieldsIf P ops (fun _ => True) o v a ∧ Then w0 W0 Z H K ret (a.put o.dst v) w := by
 have hq : still o.op = true := by unfold stillT at hqT; simp only [Bool.and_eq_true] at hqT; exact hqT.1.1
 have hnn : nilT o.op = false := by unfold stillT at hqT; simp only [Bool.and_eq_true, Bool.not_eq_true'] at hqT; exact hqT.1.2
 have hq' : stillE o.op = true := by
  unfold still at hq
  split at hq <;> first | (rename_i hop; rw [hop]; rfl) | cases hq
 rcases step_cases h ho e with ⟨hw, σ', S', h', e'⟩ | ⟨hw, hthen⟩
 ·unfold peOp at e'
  split at e'
  ·rename_i f as ts hop; rw [hop] at hq; cases hq
  ·rename_i i' as ts hop; rw [hop] at hq; cases hq
  ·rename_i hop; rw [hop] at hnn; simp [nilT] at hnn
  ·rename_i hop; rw [hop] at hnn; simp [nilT] at hnn
  ·split at e'
   case h_2 => cases e'
   rename_i g S1 hev
   cases g with
   | false => cases e'
   | true =>
    obtain ⟨v, h1, h2⟩ := evs_ok hT h' hq' (by unfold stillT at hqT; simp only [Bool.and_eq_true] at hqT; exact hqT.2) hev
    exact ⟨v, .inl ⟨hw, fun w _ => h1 w⟩, S1, e', h2⟩
 ·exact ⟨undef, .inr ⟨hw, rfl⟩, hthen⟩
def Bits (ops : Array Oper) (listed : Array Bool) (L : Nat) : Prop := listed.size = ops.size ∧ ∀ j, j < ops.size → listed[j]? = some (Nat.testBit L j)
theorem Bits.set {listed : Array Bool} {L i : Nat} (h : Bits ops listed L) (hi : i < ops.size) : Bits ops (listed.setIfInBounds i true) (L ||| 2 ^ i) := by
 refine ⟨by simp [h.1], fun j hj => ?_⟩
 rw [Array.getElem?_setIfInBounds]
 by_cases hij : i = j
 ·subst hij
  simp [h.1, hi, Nat.testBit_or, bit_pow]
 ·rw [if_neg hij, h.2 j hj, Nat.testBit_or, bit_pow]
  simp [hij]
theorem Bits.getD {listed : Array Bool} {L : Nat} (h : Bits ops listed L) {j : Nat} (hj : j < ops.size) (d : Bool) : listed.getD j d = Nat.testBit L j := by
 rw [Array.getD_eq_getD_getElem?, h.2 j hj]; rfl
theorem Bits.out {listed : Array Bool} {L : Nat} (h : Bits ops listed L) {j : Nat} (hj : ¬ j < ops.size) (d : Bool) : listed.getD j d = d := by
 rw [Array.getD_eq_getD_getElem?, Array.getElem?_eq_none (by rw [h.1]; omega)]; rfl
def pairOK (ops : Array Oper) (as : List Nat) (i j : Nat) : Prop := ∃ m oi oj, as[j]? = some m ∧ ops[i]? = some oi ∧ ops[j]? = some oj ∧ i ≠ j ∧ (Nat.testBit m i = true ∨ disjB ops oi oj = true)
theorem pairs_spec {as : List Nat} : ∀ {l : List Nat}, pairsB ops as l = true ↔ l.Pairwise (pairOK ops as)
 | [] => by simp [pairsB]
 | i :: r => by
  simp only [pairsB, Bool.and_eq_true, List.all_eq_true, List.pairwise_cons, pairs_spec (l := r)]
  refine and_congr (forall_congr' fun j => forall_congr' fun hj => ?_) Iff.rfl
  constructor
  ·intro h
   split at h
   case h_2 => cases h
   rename_i m oi oj h1 h2 h3
   simp only [Bool.and_eq_true, Bool.not_eq_true', Bool.or_eq_true] at h
   exact ⟨m, oi, oj, h1, h2, h3, fun e => by (subst e; rw [Nat.beq_refl] at h; cases h.1), h.2⟩
  ·rintro ⟨m, oi, oj, h1, h2, h3, h4, h5⟩
   rw [h1, h2, h3]
   simp only [Bool.and_eq_true, Bool.not_eq_true', Bool.or_eq_true]
   refine ⟨?_, h5⟩
   cases hb : Nat.beq i j with
   | false => rfl
   | true => exact absurd (Nat.eq_of_beq_eq_true hb) h4
theorem deps_mono {as : List Nat} : ∀ (l : List Nat) {L L' : Nat}, (∀ k, Nat.testBit L k = true → Nat.testBit L' k = true) → depsB as L l = true → depsB as L' l = true
 | [], _, _, _, _ => rfl
 | i :: r, L, L', hL, h => by
  simp only [depsB, Bool.and_eq_true] at h ⊢
  refine ⟨?_, deps_mono r (fun k hk => ?_) h.2⟩
  ·have h1 := h.1
   split at h1
   case h_2 => cases h1
   rename_i m hm
   have h2 := Nat.eq_of_beq_eq_true h1
   have : m &&& L' = m := Nat.eq_of_testBit_eq fun k => by
    rw [Nat.testBit_and]
    cases hk : Nat.testBit m k with
    | false => rfl
    | true =>
     have h3 : Nat.testBit (m &&& L) k = true := by rw [h2]; exact hk
     rw [Nat.testBit_and, hk] at h3
     rw [hL k (by simpa using h3)]
     rfl
   rw [this]
   exact Nat.beq_refl m
  ·rw [Nat.testBit_or, Bool.or_eq_true] at hk ⊢
   exact hk.imp (hL k) id
theorem deps_out {as : List Nat} {j : Nat} : ∀ (p r : List Nat) {L : Nat}, depsB as L (p ++ j :: r) = true → depsB as (L ||| 2 ^ j) (p ++ r) = true
 | [], r, L, h => by
  simp only [List.nil_append, depsB, Bool.and_eq_true] at h
  exact h.2
 | x :: p, r, L, h => by
  simp only [List.cons_append, depsB, Bool.and_eq_true] at h ⊢
  have h0 : depsB as (L ||| 2 ^ j) [x] = true := deps_mono [x] (L := L) (fun k hk => by rw [Nat.testBit_or, hk]; rfl) (by simp only [depsB, Bool.and_eq_true]; exact ⟨h.1, trivial⟩)
  simp only [depsB, Bool.and_eq_true] at h0
  refine ⟨h0.1, ?_⟩
  have := deps_out p r h.2
  rwa [Nat.or_assoc, Nat.or_comm (2 ^ x), ← Nat.or_assoc] at this
theorem maskOf_bit : ∀ (l : List Nat) (k : Nat), Nat.testBit (maskOf l) k = decide (k ∈ l)
 | [], k => by simp [maskOf]
 | i :: r, k => by
  have h : maskOf (i :: r) = maskOf r ||| 2 ^ i := rfl
  rw [h, Nat.testBit_or, maskOf_bit r k, bit_pow]
  by_cases h1 : k ∈ r <;> by_cases h2 : i = k <;> simp [h1, h2, eq_comm]
def OT.bare : OT → Prop
 | .own _ _ => False
 | _ => True
theorem own_strip : ∀ (l : OT) {S : St} {a : Act} {w : World}, peTree hh O ops l S K = some ret → Rel w0 W0 Z H S a w →
  ∃ (l' : OT) (S' : St), l'.bare ∧ peTree hh O ops l' S' K = some ret ∧ Rel w0 W0 Z H S' a w ∧ l'.len = l.len ∧ ∀ (Θ : Tab) (as : List Nat) (full L : Nat), ordGo Θ O ops as full L l = true → ordGo Θ O ops as full L l' = true
 | .own d t, S, a, w, e, h => by
  simp only [peTree] at e
  split at e
  case h_2 => cases e
  rename_i g S1 hg
  cases g with
  | false => cases e
  | true =>
   obtain ⟨l', S', h1, h2, h3, h4, h5⟩ := own_strip t e (rel_ownAt h hg)
   exact ⟨l', S', h1, h2, h3, by simp only [OT.len]; exact h4, fun Θ as full L ho => h5 Θ as full L (by simpa only [ordGo] using ho)⟩
 | .done, S, a, w, e, h => ⟨.done, S, trivial, e, h, rfl, fun _ _ _ _ h => h⟩
 | .one i t, S, a, w, e, h => ⟨.one i t, S, trivial, e, h, rfl, fun _ _ _ _ h => h⟩
 | .any q t, S, a, w, e, h => ⟨.any q t, S, trivial, e, h, rfl, fun _ _ _ _ h => h⟩
 | .par q ds t, S, a, w, e, h => ⟨.par q ds t, S, trivial, e, h, rfl, fun _ _ _ _ h => h⟩
theorem order_ok (hT : tabB P hh.tab = true) (hO : OrcOK Γ P O w0 W0) (hQ : ∀ a w, Then w0 W0 Z H K ret a w → Q .normal a w) (hQp : ∀ c a w, ¬ Q (.panic c) a w) (hsel : Region.noSelect ops = true) :
  ∀ (n : Nat) (L : Nat) (l : OT) {listed : Array Bool} {S : St} {a : Act} {w : World}, ordGo hh.tab O ops (ops.toList.map afterM) (2 ^ ops.size - 1) L l = true → Bits ops listed L → l.len ≤ n → peTree hh O ops l S K = some ret → Rel w0 W0 Z H S a w →
   wpE P ops Q (fun j => match ops[j]? with | some o => adds O o.op | none => false) n listed a w := by
 have hfin : ∀ {listed : Array Bool} {L : Nat}, Bits ops listed L → L = 2 ^ ops.size - 1 → Region.ready .any ops listed = [] := by
  intro listed L hb hL
  refine List.eq_nil_iff_forall_not_mem.2 fun j hj => ?_
  obtain ⟨h1, oj, h2, _⟩ := mem_ready.1 hj
  have hj := (Array.getElem?_eq_some_iff.1 h2).1
  rw [hb.getD hj, hL, Nat.testBit_two_pow_sub_one] at h1
  simp [hj] at h1
 intro n
 induction n with
 | zero =>
  intro L l listed S a w ho hb hn e h
  obtain ⟨l, S, hbare, e, h, hlen, hog⟩ := own_strip l e h
  replace ho := hog _ _ _ _ ho
  rw [← hlen] at hn
  clear hog hlen
  cases l with
  | own _ _ => exact hbare.elim
  | one _ _ => simp [OT.len] at hn
  | any q _ =>
   cases q with
   | nil => simp [ordGo, anyB] at ho
   | cons _ _ => simp [OT.len] at hn
  | par q _ _ =>
   cases q with
   | nil => simp [ordGo, parB] at ho
   | cons _ _ => simp [OT.len] at hn
  | done =>
   simp only [ordGo] at ho
   exact ⟨hfin hb (Nat.eq_of_beq_eq_true ho), hQ a w ⟨S, e, h⟩⟩
 | succ n ih =>
  intro L l listed S a w ho hb hn e h
  obtain ⟨l, S, hbare, e, h, hlen, hog⟩ := own_strip l e h
  replace ho := hog _ _ _ _ ho
  rw [← hlen] at hn
  clear hog hlen
  have hlt2 : ∀ (l : OT) (L : Nat), ordGo hh.tab O ops (ops.toList.map afterM) (2 ^ ops.size - 1) L l = true → L < 2 ^ ops.size := by
   intro l
   induction l with
   | done =>
    intro L h
    have := Nat.eq_of_beq_eq_true h
    have := Nat.two_pow_pos ops.size
    omega
   | one i t ih =>
    intro L h
    simp only [ordGo, Bool.and_eq_true] at h
    exact Nat.lt_of_le_of_lt Nat.left_le_or (ih _ h.2)
   | any q t ih =>
    intro L h
    simp only [ordGo, Bool.and_eq_true] at h
    exact Nat.lt_of_le_of_lt Nat.left_le_or (ih _ h.2)
   | par q ds t ih =>
    intro L h
    simp only [ordGo, Bool.and_eq_true] at h
    exact Nat.lt_of_le_of_lt Nat.left_le_or (ih _ h.2)
   | own d t ih =>
    intro L h
    simp only [ordGo] at h
    exact ih _ h
  have hL2 := hlt2 l L ho
  have facts0 : ∀ (i : Nat) (oi : Oper), ops[i]? = some oi → waitM i (ops.toList.map afterM) 0 0 &&& L = 0 →
    (∀ j, Nat.testBit (waitM i (ops.toList.map afterM) 0 0) j = true → Nat.testBit L j = false) ∧ Nat.testBit (waitM i (ops.toList.map afterM) 0 0) i = true ∧
    (∀ j oj, ops[j]? = some oj → Nat.testBit (waitM i (ops.toList.map afterM) 0 0) j = true → j ≠ i → ∃ e ∈ oj.after, Region.binds .any e = true ∧ Nat.testBit (waitM i (ops.toList.map afterM) 0 0) e.on = true) ∧
    (∀ j, Nat.testBit (waitM i (ops.toList.map afterM) 0 0) j = true → j < ops.size) := by
   intro i oi hoi c3
   have hi : i < ops.size := (Array.getElem?_eq_some_iff.1 hoi).1
   have hW3 : ∀ j, Nat.testBit (waitM i (ops.toList.map afterM) 0 0) j = true → Nat.testBit L j = false := fun j hj => by
    have : Nat.testBit (waitM i (ops.toList.map afterM) 0 0 &&& L) j = false := by rw [c3]; simp
    rw [Nat.testBit_and, hj] at this
    simpa using this
   have hWi : Nat.testBit (waitM i (ops.toList.map afterM) 0 0) i = true := waitM_self i _ 0 0 (Nat.zero_le _) (by simpa using hi)
   have hWs : ∀ j oj, ops[j]? = some oj → Nat.testBit (waitM i (ops.toList.map afterM) 0 0) j = true → j ≠ i → ∃ e ∈ oj.after, Region.binds .any e = true ∧ Nat.testBit (waitM i (ops.toList.map afterM) 0 0) e.on = true := fun j oj hoj hj hji => by
    rcases waitM_spec i _ _ _ j hj with hx | ⟨q, m, hq, hm, hx⟩
    ·simp at hx
    ·rw [Nat.zero_add] at hq
     subst hq
     rw [List.getElem?_map, Array.getElem?_toList, hoj] at hm
     simp only [Option.map_some, Option.some.injEq] at hm
     subst hm
     rcases hx with hx | ⟨t, h1, h2⟩
     ·exact absurd hx hji
     ·obtain ⟨e, he, hbd, rfl⟩ := afterM_spec h1
      exact ⟨e, he, hbd, h2⟩
   have hWlt : ∀ j, Nat.testBit (waitM i (ops.toList.map afterM) 0 0) j = true → j < ops.size := fun j hj => by
    rcases waitM_spec i _ _ _ j hj with hx | ⟨q, m, hq, hm, hx⟩
    ·simp at hx
    ·have := (List.getElem?_eq_some_iff.1 hm).1
     simp at this
     omega
   exact ⟨hW3, hWi, hWs, hWlt⟩
  have facts : ∀ (i : Nat) (oi : Oper), ops[i]? = some oi → Nat.testBit L i = false → afterM oi &&& L = afterM oi → waitM i (ops.toList.map afterM) 0 0 &&& L = 0 →
    (∀ j, Nat.testBit (waitM i (ops.toList.map afterM) 0 0) j = true → Nat.testBit L j = false) ∧ Nat.testBit (waitM i (ops.toList.map afterM) 0 0) i = true ∧
    (∀ j oj, ops[j]? = some oj → Nat.testBit (waitM i (ops.toList.map afterM) 0 0) j = true → j ≠ i → ∃ e ∈ oj.after, Region.binds .any e = true ∧ Nat.testBit (waitM i (ops.toList.map afterM) 0 0) e.on = true) ∧
    (∀ j, Nat.testBit (waitM i (ops.toList.map afterM) 0 0) j = true → j < ops.size) ∧ i ∈ Region.ready .any ops listed := by
   intro i oi hoi c1 c2 c3
   have hi : i < ops.size := (Array.getElem?_eq_some_iff.1 hoi).1
   obtain ⟨hW3, hWi, hWs, hWlt⟩ := facts0 i oi hoi c3
   refine ⟨hW3, hWi, hWs, hWlt, mem_ready.2 ⟨by rw [hb.getD hi]; exact c1, oi, hoi, fun e he hbd => ?_⟩⟩
   have h1 := afterM_has he hbd
   have h2 : Nat.testBit (afterM oi &&& L) e.on = true := by rw [c2]; exact h1
   rw [Nat.testBit_and, h1] at h2
   have h3 : Nat.testBit L e.on = true := by simpa using h2
   by_cases hl : e.on < ops.size
   ·rw [hb.getD hl]; exact h3
   ·rw [Nat.testBit_lt_two_pow (Nat.lt_of_lt_of_le hL2 (Nat.pow_le_pow_right (by decide) (by omega)))] at h3
    cases h3
  cases l with
  | done =>
   simp only [ordGo] at ho
   have hr := hfin hb (Nat.eq_of_beq_eq_true ho)
   exact ⟨fun _ => hQ a w ⟨S, e, h⟩, fun i hi => by rw [hr] at hi; cases hi⟩
  | own _ _ => exact hbare.elim
  | any q t =>
   simp only [ordGo, Bool.and_eq_true] at ho
   obtain ⟨hc, hot⟩ := ho
   have hc0 := hc
   unfold anyB at hc
   simp only [Bool.and_eq_true, Bool.not_eq_true', List.all_eq_true] at hc
   obtain ⟨⟨⟨hne, hmem⟩, hpairs⟩, hdeps⟩ := hc
   have hpw := pairs_spec.1 hpairs
   have get : ∀ i ∈ q, ∃ oi, ops[i]? = some oi ∧ i < ops.size := fun i hi => by
    have h1 : i < ops.size := Nat.lt_of_lt_of_le (Nat.lt_succ_self _) (Nat.le_of_ble_eq_true (hmem i hi).1.1.1)
    exact ⟨ops[i], Array.getElem?_eq_getElem h1, h1⟩
   have unl : ∀ i ∈ q, Nat.testBit L i = false := fun i hi => (hmem i hi).1.1.2
   -- the first is ready
   obtain ⟨i0, q0, rfl⟩ : ∃ i0 q0, q = i0 :: q0 := by
    cases q with
    | nil => simp at hne
    | cons i0 q0 => exact ⟨i0, q0, rfl⟩
   obtain ⟨oi0, hoi0, hi0⟩ := get i0 (by simp)
   have hd0 := hdeps
   simp only [depsB, Bool.and_eq_true] at hd0
   have hd1 := hd0.1
   rw [List.getElem?_map, Array.getElem?_toList, hoi0] at hd1
   simp only [Option.map_some] at hd1
   obtain ⟨_, _, _, _, hr0⟩ := facts i0 oi0 hoi0 (unl i0 (by simp)) (Nat.eq_of_beq_eq_true hd1) (Nat.eq_of_beq_eq_true (hmem i0 (by simp)).1.2)
   refine ⟨fun hx => (by rw [hx] at hr0; cases hr0), fun j hj => ?_⟩
   obtain ⟨j1, oj, hoj, j3⟩ := mem_ready.1 hj
   have hjl := (Array.getElem?_eq_some_iff.1 hoj).1
   have nowait : ∀ i ∈ i0 :: q0, j ≠ i → Nat.testBit (waitM i (ops.toList.map afterM) 0 0) j = false := fun i hi hji => by
    cases hw : Nat.testBit (waitM i (ops.toList.map afterM) 0 0) j with
    | false => rfl
    | true =>
     exfalso
     obtain ⟨oi, hoi, hil⟩ := get i hi
     obtain ⟨w3, _, ws, wlt⟩ := facts0 i oi hoi (Nat.eq_of_beq_eq_true (hmem i hi).1.2)
     obtain ⟨e, he, hbd, h6⟩ := ws j oj hoj hw hji
     have h7 := j3 e he hbd
     rw [hb.getD (wlt _ h6), w3 _ h6] at h7
     cases h7
   have hjq : j ∈ i0 :: q0 := by
    refine Classical.byContradiction fun hnj => ?_
    have hz := Nat.eq_of_beq_eq_true (hmem i0 (by simp)).2
    have h4 : Nat.testBit (2 ^ ops.size - 1 ^^^ (waitM i0 (ops.toList.map afterM) 0 0 ||| L ||| maskOf (i0 :: q0))) j = false := by rw [hz]; simp
    rw [Nat.testBit_xor, Nat.testBit_two_pow_sub_one, Nat.testBit_or, Nat.testBit_or, maskOf_bit, nowait i0 (by simp) (fun e => hnj (by simp [e]))] at h4
    rw [hb.getD hjl] at j1
    rw [j1] at h4
    simp [hjl, hnj] at h4
   obtain ⟨p, r, hpr⟩ := List.append_of_mem hjq
   rw [hpr] at hc0 hpw hdeps hmem nowait unl e hn
   clear hd0 hd1 hr0 hjq get
   have hfront : ∀ x ∈ p, ∃ ox, ops[x]? = some ox ∧ disjB ops ox oj = true := fun x hx => by
    obtain ⟨m, ox, oj', h1, h2, h3, h4, h5⟩ := (List.pairwise_append.1 hpw).2.2 x hx j (by simp)
    rw [hoj] at h3
    injection h3 with h3
    subst h3
    refine ⟨ox, h2, h5.resolve_left fun hm => ?_⟩
    rw [List.getElem?_map, Array.getElem?_toList, hoj] at h1
    simp only [Option.map_some, Option.some.injEq] at h1
    subst h1
    obtain ⟨e, he, hbd, rfl⟩ := afterM_spec hm
    have h7 := j3 e he hbd
    have hxl := (Array.getElem?_eq_some_iff.1 h2).1
    rw [hb.getD hxl, unl _ (by simp [hx])] at h7
    cases h7
   simp only [peTree] at e
   have e2 := grp_front hO.det hoj p r hfront e
   unfold peGrp at e2
   rw [hoj] at e2
   simp only at e2
   cases gj : grpOK O ops S oj with
   | false => rw [gj] at e2; cases e2
   | true =>
   rw [gj] at e2
   simp only [cond_true] at e2
   obtain ⟨σ, h⟩ := h
   refine wpOp_mono (fun a' w' h' => ?_) (step_ok hT hO h e2)
   obtain ⟨⟨S', k1, k2⟩, k3⟩ := h'
   have hjn : j ∉ p ++ r := fun hx => by
    rw [List.pairwise_append, List.pairwise_cons] at hpw
    rcases List.mem_append.1 hx with hx | hx
    ·obtain ⟨_, _, _, _, _, _, h4, _⟩ := hpw.2.2 j hx j (by simp); exact h4 rfl
    ·obtain ⟨_, _, _, _, _, _, h4, _⟩ := hpw.2.1.1 j hx; exact h4 rfl
   have hmask : L ||| maskOf (p ++ j :: r) = L ||| 2 ^ j ||| maskOf (p ++ r) := Nat.eq_of_testBit_eq fun k => by
    rw [Nat.testBit_or, Nat.testBit_or, Nat.testBit_or, maskOf_bit, maskOf_bit, bit_pow]
    have hm : decide (k ∈ p ++ j :: r) = (decide (j = k) || decide (k ∈ p ++ r)) := by
     rw [← Bool.decide_or]
     apply decide_eq_decide.2
     simp only [List.mem_append, List.mem_cons]
     constructor
     ·rintro (h | h | h)
      ·exact .inr (.inl h)
      ·exact .inl h.symm
      ·exact .inr (.inr h)
     ·rintro (h | h | h)
      ·exact .inr (.inl h.symm)
      ·exact .inl h
      ·exact .inr (.inr h)
    rw [hm, Bool.or_assoc]
   refine ⟨fun had => ?_, ?_⟩
   ·simp only [hoj] at had
    exact k3 oj hoj had
   ·have hot' : ordGo hh.tab O ops (ops.toList.map afterM) (2 ^ ops.size - 1) (L ||| 2 ^ j ||| maskOf (p ++ r)) t = true := by rw [← hmask, ← hpr]; exact hot
    cases hpe : p ++ r with
    | nil =>
     rw [hpe] at k1 hot'
     simp only [peGrp] at k1
     refine ih _ t (by simpa [maskOf] using hot') (hb.set hjl) ?_ k1 k2
     simp only [OT.len, List.length_append, List.length_cons] at hn
     omega
    | cons z zs =>
     refine ih (L ||| 2 ^ j) (.any (p ++ r) t) ?_ (hb.set hjl) ?_ k1 k2
     ·simp only [ordGo, Bool.and_eq_true]
      refine ⟨?_, hot'⟩
      unfold anyB
      simp only [Bool.and_eq_true, Bool.not_eq_true', List.all_eq_true]
      refine ⟨⟨⟨by rw [hpe]; rfl, fun i hi => ?_⟩, pairs_spec.2 (hpw.sublist (by simp))⟩, deps_out p r hdeps⟩
      have hi' : i ∈ p ++ j :: r := by simp only [List.mem_append, List.mem_cons] at hi ⊢; exact hi.imp id .inr
      have hij : j ≠ i := fun e => hjn (by rw [e]; exact hi)
      obtain ⟨⟨⟨m1, m2⟩, m3⟩, m4⟩ := hmem i hi'
      refine ⟨⟨⟨m1, ?_⟩, ?_⟩, ?_⟩
      ·rw [Nat.testBit_or, m2, bit_pow]; simp [hij]
      ·have hz : waitM i (ops.toList.map afterM) 0 0 &&& (L ||| 2 ^ j) = 0 := Nat.eq_of_testBit_eq fun k => by
        have hk : Nat.testBit (waitM i (ops.toList.map afterM) 0 0 &&& L) k = false := by rw [Nat.eq_of_beq_eq_true m3]; simp
        rw [Nat.testBit_and] at hk
        rw [Nat.testBit_and, Nat.testBit_or, bit_pow, Nat.zero_testBit]
        by_cases hkj : j = k
        ·subst hkj
         rw [nowait i hi' hij]
         rfl
        ·simp only [hkj, decide_false, Bool.or_false]
         exact hk
       rw [hz]; rfl
      ·have hz := Nat.eq_of_beq_eq_true m4
       have : waitM i (ops.toList.map afterM) 0 0 ||| (L ||| 2 ^ j) ||| maskOf (p ++ r) = waitM i (ops.toList.map afterM) 0 0 ||| L ||| maskOf (p ++ j :: r) := by rw [Nat.or_assoc, ← hmask, Nat.or_assoc]
       rw [this]
       exact m4
     ·simp only [OT.len, List.length_append, List.length_cons] at hn ⊢
      omega
  | par q ds t =>
   simp only [ordGo, Bool.and_eq_true] at ho
   obtain ⟨hc, hot⟩ := ho
   have hc0 := hc
   unfold parB at hc
   simp only [Bool.and_eq_true, Bool.not_eq_true', List.all_eq_true] at hc
   obtain ⟨⟨⟨⟨hne, hmem⟩, hpairs⟩, hdeps⟩, hsides⟩ := hc
   have hpw := parPairs_spec.1 hpairs
   have get : ∀ i ∈ q, ∃ oi, ops[i]? = some oi ∧ i < ops.size := fun i hi => by
    have h1 : i < ops.size := Nat.lt_of_lt_of_le (Nat.lt_succ_self _) (Nat.le_of_ble_eq_true (hmem i hi).1.1.1)
    exact ⟨ops[i], Array.getElem?_eq_getElem h1, h1⟩
   have unl : ∀ i ∈ q, Nat.testBit L i = false := fun i hi => (hmem i hi).1.1.2
   -- the first is ready
   obtain ⟨i0, q0, rfl⟩ : ∃ i0 q0, q = i0 :: q0 := by
    cases q with
    | nil => simp at hne
    | cons i0 q0 => exact ⟨i0, q0, rfl⟩
   obtain ⟨oi0, hoi0, hi0⟩ := get i0 (by simp)
   have hd0 := hdeps
   simp only [depsB, Bool.and_eq_true] at hd0
   have hd1 := hd0.1
   rw [List.getElem?_map, Array.getElem?_toList, hoi0] at hd1
   simp only [Option.map_some] at hd1
   obtain ⟨hW3, hWi, hWs, hWlt, hr0⟩ := facts i0 oi0 hoi0 (unl i0 (by simp)) (Nat.eq_of_beq_eq_true hd1) (Nat.eq_of_beq_eq_true (hmem i0 (by simp)).1.2)
   have side : ∀ x ∈ i0 :: q0, ∀ ox, ops[x]? = some ox → sideB ds ox = true ∧ nilT ox.op = false := fun x hx ox hox => by
    have := hsides x hx
    rw [hox] at this
    simpa only [Bool.and_eq_true, Bool.not_eq_true'] using this
   -- those that wait for none that is ready
   have nowait : ∀ j, j ∈ Region.ready .any ops listed → ∀ i ∈ i0 :: q0, j ≠ i → Nat.testBit (waitM i (ops.toList.map afterM) 0 0) j = false := fun j hj i hi hji => by
    obtain ⟨j1, oj, hoj, j3⟩ := mem_ready.1 hj
    cases hw : Nat.testBit (waitM i (ops.toList.map afterM) 0 0) j with
    | false => rfl
    | true =>
     exfalso
     obtain ⟨oi, hoi, hil⟩ := get i hi
     obtain ⟨w3, _, ws, wlt⟩ := facts0 i oi hoi (Nat.eq_of_beq_eq_true (hmem i hi).1.2)
     obtain ⟨e, he, hbd, h6⟩ := ws j oj hoj hw hji
     have h7 := j3 e he hbd
     rw [hb.getD (wlt _ h6), w3 _ h6] at h7
     cases h7
   -- when one of them is done
   have tail : ∀ (p r : List Nat) (j : Nat), i0 :: q0 = p ++ j :: r → j ∈ Region.ready .any ops listed → ∀ {S' : St} {a' : Act} {w' : World}, (bif wholeB ds S' then peIdx hh O ops (p ++ r) S' (fun S1 => peTree hh O ops t S1 K) else none) = some ret → Rel w0 W0 Z H S' a' w' →
     wpE P ops Q (fun j => match ops[j]? with | some o => adds O o.op | none => false) n (listed.setIfInBounds j true) a' w' := by
    intro p r j hpr hjr S' a' w' k1 k2
    have hjl : j < ops.size := by
     obtain ⟨_, oj, hoj, _⟩ := mem_ready.1 hjr
     exact (Array.getElem?_eq_some_iff.1 hoj).1
    have hnw := nowait j hjr
    rw [hpr] at hpw hdeps hmem hsides hn hnw
    have hjn : j ∉ p ++ r := fun hx => by
     rw [List.pairwise_append, List.pairwise_cons] at hpw
     rcases List.mem_append.1 hx with hx | hx
     ·obtain ⟨_, _, _, _, h4, _⟩ := hpw.2.2 j hx j (by simp); exact h4 rfl
     ·obtain ⟨_, _, _, _, h4, _⟩ := hpw.2.1.1 j hx; exact h4 rfl
    have hmask : L ||| maskOf (p ++ j :: r) = L ||| 2 ^ j ||| maskOf (p ++ r) := Nat.eq_of_testBit_eq fun k => by
     rw [Nat.testBit_or, Nat.testBit_or, Nat.testBit_or, maskOf_bit, maskOf_bit, bit_pow]
     have hm : decide (k ∈ p ++ j :: r) = (decide (j = k) || decide (k ∈ p ++ r)) := by
      rw [← Bool.decide_or]
      apply decide_eq_decide.2
      simp only [List.mem_append, List.mem_cons]
      constructor
      ·rintro (h | h | h)
       ·exact .inr (.inl h)
       ·exact .inl h.symm
       ·exact .inr (.inr h)
      ·rintro (h | h | h)
       ·exact .inr (.inl h.symm)
       ·exact .inl h
       ·exact .inr (.inr h)
     rw [hm, Bool.or_assoc]
    have hot' : ordGo hh.tab O ops (ops.toList.map afterM) (2 ^ ops.size - 1) (L ||| 2 ^ j ||| maskOf (p ++ r)) t = true := by rw [← hmask, ← hpr]; exact hot
    cases hpe : p ++ r with
    | nil =>
     rw [hpe] at k1 hot'
     simp only [peIdx] at k1
     cases hw1 : wholeB ds S' with
     | false => rw [hw1] at k1; cases k1
     | true =>
     rw [hw1] at k1
     simp only [cond_true] at k1
     refine ih _ t (by simpa [maskOf] using hot') (hb.set hjl) ?_ k1 k2
     simp only [OT.len, List.length_append, List.length_cons] at hn
     omega
    | cons z zs =>
     refine ih (L ||| 2 ^ j) (.par (p ++ r) ds t) ?_ (hb.set hjl) ?_ k1 k2
     ·simp only [ordGo, Bool.and_eq_true]
      refine ⟨?_, hot'⟩
      unfold parB
      simp only [Bool.and_eq_true, Bool.not_eq_true', List.all_eq_true]
      refine ⟨⟨⟨⟨by rw [hpe]; rfl, fun i hi => ?_⟩, parPairs_spec.2 (hpw.sublist (by simp))⟩, deps_out p r hdeps⟩, fun i hi => hsides i (by simp only [List.mem_append, List.mem_cons] at hi ⊢; exact hi.imp id .inr)⟩
      have hi' : i ∈ p ++ j :: r := by simp only [List.mem_append, List.mem_cons] at hi ⊢; exact hi.imp id .inr
      have hij : j ≠ i := fun e => hjn (by rw [e]; exact hi)
      obtain ⟨⟨⟨m1, m2⟩, m3⟩, m4⟩ := hmem i hi'
      refine ⟨⟨⟨m1, ?_⟩, ?_⟩, ?_⟩
      ·rw [Nat.testBit_or, m2, bit_pow]; simp [hij]
      ·have hz : waitM i (ops.toList.map afterM) 0 0 &&& (L ||| 2 ^ j) = 0 := Nat.eq_of_testBit_eq fun k => by
        have hk : Nat.testBit (waitM i (ops.toList.map afterM) 0 0 &&& L) k = false := by rw [Nat.eq_of_beq_eq_true m3]; simp
        rw [Nat.testBit_and] at hk
        rw [Nat.testBit_and, Nat.testBit_or, bit_pow, Nat.zero_testBit]
        by_cases hkj : j = k
        ·subst hkj
         rw [hnw i hi' hij]
         rfl
        ·simp only [hkj, decide_false, Bool.or_false]
         exact hk
       rw [hz]; rfl
      ·rw [Bool.or_eq_true] at m4 ⊢
       refine m4.imp (fun m4 => ?_) fun m4 => ?_
       ·have : waitM i (ops.toList.map afterM) 0 0 ||| (L ||| 2 ^ j) ||| maskOf (p ++ r) = waitM i (ops.toList.map afterM) 0 0 ||| L ||| maskOf (p ++ j :: r) := by rw [Nat.or_assoc, ← hmask, Nat.or_assoc]
        rw [this]
        exact m4
       ·unfold freeB at m4 ⊢
        split at m4
        case h_2 => cases m4
        rename_i oi hoi
        rw [Bool.and_eq_true] at m4 ⊢
        refine ⟨m4.1, apartOnly_of _ _ fun k ok hk hbit => apartOnly_spec _ _ m4.2 k ok hk ?_⟩
        rw [Nat.testBit_xor, Nat.testBit_and, Nat.testBit_or, Nat.testBit_or] at hbit ⊢
        rw [Nat.testBit_or] at hbit
        revert hbit
        cases Nat.testBit (2 ^ ops.size - 1) (0 + k) <;> cases Nat.testBit (waitM i (ops.toList.map afterM) 0 0) (0 + k) <;> cases Nat.testBit L (0 + k) <;> cases Nat.testBit (afterM oi) (0 + k) <;> simp
     ·simp only [OT.len, List.length_append, List.length_cons] at hn ⊢
      omega
   simp only [peTree] at e
   cases hwh : wholeB ds S with
   | false => rw [hwh] at e; cases e
   | true =>
   rw [hwh] at e
   simp only [cond_true] at e
   rcases (Bool.or_eq_true _ _).mp (hmem i0 (by simp)).2 with hz | hz
   rotate_left
   ·-- the first may always go first
    unfold freeB at hz
    rw [hoi0] at hz
    simp only [Bool.and_eq_true] at hz
    obtain ⟨hq, hap⟩ := hz
    obtain ⟨s1, s2⟩ := side i0 (by simp) oi0 hoi0
    have e2 : peStep hh O ops i0 S (fun S1 => bif wholeB ds S1 then peIdx hh O ops ([] ++ q0) S1 (fun S1 => peTree hh O ops t S1 K) else none) = some ret := by
     simp only [peIdx] at e
     obtain ⟨X, x1, x2, x3⟩ := step_whole hO.det hwh hoi0 s1 s2 e
     rw [x1, x2]
     exact x3
    obtain ⟨σ, h⟩ := h
    obtain ⟨v, hy, S', k1, k2⟩ := stepS_ok hT h hoi0 hq e2
    refine wpE_first1 hoi0 (Region.noSelect_spec hsel) (fun c a w hx => absurd hx (hQp _ _ _)) (D := fun j => Nat.testBit (waitM i0 (ops.toList.map afterM) 0 0) j) hWi hWs n listed a w (fun j hd => ?_) (fun j oj hoj hd hun => ?_) hr0 hy (tail [] q0 i0 rfl hr0 k1 k2)
    ·rw [hb.getD (hWlt j hd)]; exact hW3 j hd
    ·have hjl := (Array.getElem?_eq_some_iff.1 hoj).1
     refine apartOnly_spec ops.toList 0 hap j oj (by rw [Array.getElem?_toList]; exact hoj) ?_
     rw [hb.getD hjl] at hun
     try simp only at hd
     have haf : Nat.testBit (afterM oi0) j = false := by
      cases hx : Nat.testBit (afterM oi0) j with
      | false => rfl
      | true =>
       exfalso
       have h2 : Nat.testBit (afterM oi0 &&& L) j = true := by rw [Nat.eq_of_beq_eq_true hd1]; exact hx
       rw [Nat.testBit_and, hx, hun] at h2
       cases h2
     rw [Nat.zero_add, Nat.testBit_xor, Nat.testBit_and, Nat.testBit_two_pow_sub_one, Nat.testBit_or, Nat.testBit_or, hd, hun, haf]
     simp [hjl]
   refine ⟨fun hx => (by rw [hx] at hr0; cases hr0), fun j hj => ?_⟩
   obtain ⟨j1, oj, hoj, j3⟩ := mem_ready.1 hj
   have hjl := (Array.getElem?_eq_some_iff.1 hoj).1
   have hjq : j ∈ i0 :: q0 := by
    refine Classical.byContradiction fun hnj => ?_
    have hz := Nat.eq_of_beq_eq_true hz
    have h4 : Nat.testBit (2 ^ ops.size - 1 ^^^ (waitM i0 (ops.toList.map afterM) 0 0 ||| L ||| maskOf (i0 :: q0))) j = false := by rw [hz]; simp
    rw [Nat.testBit_xor, Nat.testBit_two_pow_sub_one, Nat.testBit_or, Nat.testBit_or, maskOf_bit, nowait j hj i0 (by simp) (fun e => hnj (by simp [e]))] at h4
    rw [hb.getD hjl] at j1
    rw [j1] at h4
    simp [hjl, hnj] at h4
   obtain ⟨p, r, hpr⟩ := List.append_of_mem hjq
   have hfront : ∀ x ∈ p, ∃ ox, ops[x]? = some ox ∧ sideB ds ox = true ∧ nilT ox.op = false ∧ (sepB ds ox oj = true ∨ exB ox oj = true) := fun x hx => by
    rw [hpr] at hpw
    obtain ⟨ox, oj', h2, h3, h4, h5⟩ := (List.pairwise_append.1 hpw).2.2 x hx j (by simp)
    rw [hoj] at h3
    injection h3 with h3
    subst h3
    obtain ⟨s1, s2⟩ := side x (by rw [hpr]; simp [hx]) ox h2
    refine ⟨ox, h2, s1, s2, h5.resolve_left fun hm => ?_⟩
    rw [nowait j hj x (by rw [hpr]; simp [hx]) (Ne.symm h4)] at hm
    cases hm
   have e' := e
   rw [hpr] at e'
   have e3 := par_front hO.det hoj p r hwh hfront e'
   obtain ⟨sj1, sj2⟩ := side j hjq oj hoj
   have e2 : peStep hh O ops j S (fun S1 => bif wholeB ds S1 then peIdx hh O ops (p ++ r) S1 (fun S1 => peTree hh O ops t S1 K) else none) = some ret := by
    obtain ⟨X, x1, x2, x3⟩ := step_whole hO.det hwh hoj sj1 sj2 e3
    rw [x1, x2]
    exact x3
   obtain ⟨σ, h⟩ := h
   refine wpOp_mono (fun a' w' h' => ?_) (step_ok hT hO h e2)
   obtain ⟨⟨S', k1, k2⟩, k3⟩ := h'
   refine ⟨fun had => ?_, tail p r j hpr hj k1 k2⟩
   simp only [hoj] at had
   exact k3 oj hoj had
  | one i l =>
   simp only [ordGo, Bool.and_eq_true] at ho
   obtain ⟨hc, ho⟩ := ho
   unfold ordOne at hc
   split at hc
   case h_2 => cases hc
   rename_i m oi hm hoi
   have hi : i < ops.size := (Array.getElem?_eq_some_iff.1 hoi).1
   rw [List.getElem?_map, Array.getElem?_toList, hoi] at hm
   simp only [Option.map_some, Option.some.injEq] at hm
   subst hm
   simp only [Bool.and_eq_true, Bool.not_eq_true'] at hc
   obtain ⟨⟨⟨c1, c2⟩, c3⟩, c4⟩ := hc
   have c2 := Nat.eq_of_beq_eq_true c2
   have c3 := Nat.eq_of_beq_eq_true c3
   have hn' : l.len ≤ n := by simp only [OT.len] at hn; omega
   obtain ⟨hW3, hWi, hWs, hWlt, hready⟩ := facts i oi hoi c1 c2 c3
   rw [Bool.or_eq_true] at c4
   have hrest : ∀ j, j < ops.size → Nat.testBit (2 ^ ops.size - 1 ^^^ (waitM i (ops.toList.map afterM) 0 0 ||| L)) j = !(Nat.testBit (waitM i (ops.toList.map afterM) 0 0) j || Nat.testBit L j) := fun j hj => by
    rw [Nat.testBit_xor, Nat.testBit_two_pow_sub_one, Nat.testBit_or]
    simp [hj]
   simp only [peTree] at e
   obtain ⟨σ, h⟩ := h
   by_cases c0 : Nat.beq (2 ^ ops.size - 1 ^^^ (waitM i (ops.toList.map afterM) 0 0 ||| L)) 0 = true
   ·have hz := Nat.eq_of_beq_eq_true c0
    refine ⟨fun hx => (by rw [hx] at hready; cases hready), fun j hj => ?_⟩
    have hji : j = i := by
     refine Classical.byContradiction fun hji => ?_
     obtain ⟨h1, oj, h2, h3⟩ := mem_ready.1 hj
     have hjl := (Array.getElem?_eq_some_iff.1 h2).1
     have h4 := hrest j hjl
     rw [hz, Nat.zero_testBit] at h4
     rw [hb.getD hjl] at h1
     rw [h1] at h4
     have h5 : Nat.testBit (waitM i (ops.toList.map afterM) 0 0) j = true := by
      cases hx : Nat.testBit (waitM i (ops.toList.map afterM) 0 0) j with
      | true => rfl
      | false => rw [hx] at h4; cases h4
     obtain ⟨e, he, hbd, h6⟩ := hWs j oj h2 h5 hji
     have h7 := h3 e he hbd
     rw [hb.getD (hWlt _ h6), hW3 _ h6] at h7
     cases h7
    subst hji
    refine wpOp_mono (fun a' w' h' => ?_) (step_ok hT hO h e)
    obtain ⟨⟨S', k1, k2⟩, k3⟩ := h'
    refine ⟨fun had => ?_, ih _ l ho (hb.set hi) hn' k1 k2⟩
    simp only [hoi] at had
    exact k3 oi hoi had
   ·rw [Bool.or_eq_true] at c4
    rcases c4 with c4 | c4
    rotate_left
    ·rw [Bool.and_eq_true] at c4
     obtain ⟨hq, hap⟩ := c4
     obtain ⟨v, hy, S', k1, k2⟩ := stepS_ok hT h hoi hq e
     refine wpE_first1 hoi (Region.noSelect_spec hsel) (fun c a w hx => absurd hx (hQp _ _ _)) (D := fun j => Nat.testBit (waitM i (ops.toList.map afterM) 0 0) j) hWi hWs n listed a w (fun j hd => ?_) (fun j oj hoj hd hun => ?_) hready hy (ih _ l ho (hb.set hi) hn' k1 k2)
     ·rw [hb.getD (hWlt j hd)]; exact hW3 j hd
     ·have hjl := (Array.getElem?_eq_some_iff.1 hoj).1
      have h4 := hrest j hjl
      rw [hb.getD hjl] at hun
      try simp only at hd
      rw [hd, hun] at h4
      exact apartOnly_spec ops.toList 0 hap j oj (by rw [Array.getElem?_toList]; exact hoj) (by rw [Nat.zero_add]; exact h4)
    have c4 := c4.resolve_left c0
    rw [Bool.and_eq_true, Bool.and_eq_true, Bool.not_eq_true'] at c4
    obtain ⟨hq, hn0, hap⟩ := c4
    obtain ⟨v, hy, S', k1, k2⟩ := stepq_ok hT h hoi hq hn0 e
    refine wpE_first hoi (Region.noSelect_spec hsel) (fun c a w hx => absurd hx (hQp _ _ _)) (D := fun j => Nat.testBit (waitM i (ops.toList.map afterM) 0 0) j) hWi hWs n listed a w (fun j hd => ?_) (fun j oj hoj hd hun => ?_) hready hy (ih _ l ho (hb.set hi) hn' k1 k2)
    ·rw [hb.getD (hWlt j hd)]; exact hW3 j hd
    ·have hjl := (Array.getElem?_eq_some_iff.1 hoj).1
     have h4 := hrest j hjl
     rw [hb.getD hjl] at hun
     try simp only at hd
     rw [hd, hun] at h4
     have := apartAll_spec ops.toList 0 hap j oj (by rw [Array.getElem?_toList]; exact hoj) (by rw [Nat.zero_add]; exact h4)
     simp only [hoj]
     exact this
theorem ordB_ok (hT : tabB P hh.tab = true) (hO : OrcOK Γ P O w0 W0) (hQ : ∀ a w, Then w0 W0 Z H K ret a w → Q .normal a w) (hQp : ∀ c a w, ¬ Q (.panic c) a w) {l : OT} (hl : ordB hh.tab O ops l = true) {S : St} {a : Act} {w : World} (e : peTree hh O ops l S K = some ret) (h : Rel w0 W0 Z H S a w) :
  wpAny P .any ops Q ops.size (Array.replicate ops.size false) a w := by
 unfold ordB at hl
 rw [Bool.and_eq_true, Bool.and_eq_true] at hl
 obtain ⟨⟨hsel, hlen⟩, ho⟩ := hl
 have hb : Bits ops (Array.replicate ops.size false) 0 := ⟨by simp, fun j hj => by simp [hj]⟩
 exact wpE_any _ (order_ok hT hO hQ hQp hsel ops.size 0 l ho hb (Nat.le_of_ble_eq_true hlen) e h)
end Go.Pv
