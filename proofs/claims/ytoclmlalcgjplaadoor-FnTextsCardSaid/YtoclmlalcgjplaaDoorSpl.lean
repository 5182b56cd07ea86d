/- Functions of the library (Spl): what is told of them holds. -/
import Derived.Test.YtoclmlalcgjplaaDoorItoa
import Derived.Shelf.Strings.Split
import Derived.Shelf.Strings.Cut
namespace Go.Pv
open Go.Shelf Go.RowKit Go.Proofs
set_option linter.unusedVariables false
set_option linter.unusedSimpArgs false
variable {Γ : Gl} {P : Program} {ρ : Ren}
theorem index_one (s : List UInt8) (c : UInt8) : Lib.index s [c] = Lib.indexByte s c := by
 induction s with
 | nil => rfl
 | cons b l ih =>
  unfold Lib.index Lib.indexByte
  rw [ih]
  simp only [List.isPrefixOf, Bool.and_true]
  have e : (c == b) = (b == c) := by apply Bool.eq_iff_iff.2; simp only [beq_iff_eq]; exact ⟨fun h => h.symm, fun h => h.symm⟩
  rw [e]
set_option maxHeartbeats 1000000 in
theorem split_one (L : Lays.n146 P ρ) (hi9 : (P.info? (ρ.t 9)).map (fun i => (i.zero, i.size, i.bytes)) = some (some (.string ByteArray.empty), 1, 16)) (s : ByteArray) (c : UInt8) (w : World) (hs : s.size < 4294967281) :
  Calls P (ρ.f 146) #[.string s, .string ⟨#[c]⟩] w fun e w' =>
   e = .returned (.slice (some ⟨w.heap.size, 0, none⟩) (Lib.countB s ⟨#[c]⟩ + 1) (Lib.countB s ⟨#[c]⟩ + 1)) ∧ w' = w.alloc (.cells ((Lib.splitB ⟨#[c]⟩ 0 (Lib.countB s ⟨#[c]⟩) s).map Value.string).toArray (ρ.t 9)) := by
 have h1 : 1 ≤ (⟨#[c]⟩ : ByteArray).size := Nat.le_refl _
 have hle := Lib.countB_le ⟨#[c]⟩ h1 s.size s (Nat.le_refl _)
 have hlen := Lib.splitB_all ⟨#[c]⟩ h1 0 _ s rfl
 have c0 := Any.strings_genSplit_core (P := P) (ρ := ρ) { L with } hi9 s ⟨#[c]⟩ 0 (-1) (Lib.countB s ⟨#[c]⟩ + 1) w hs h1 (Nat.zero_le _)
  (fun x cc hx => (Any.strings_Index_one { L with } x c _).mono fun e w' ⟨he, hw⟩ => ⟨by rw [he]; show _ = Ending.returned (Value.int .i64 (Lib.index x.data.toList [c])); rw [index_one], hw⟩)
  ((Any.strings_Count_one { L with } s c w).mono fun e w' ⟨he, hw⟩ => ⟨by rw [he]; show _ = Ending.returned (Value.int .i64 ((Lib.count s.data.toList [c] : Nat) : Int)); rw [Lib.count_one]; rfl, hw⟩)
  (by decide) (by decide) (by rw [if_pos (by decide)]; omega)
 rw [Nat.add_sub_cancel, hlen] at c0
 have e2 : Lib.cellsOf (Lib.splitB ⟨#[c]⟩ 0 (Lib.countB s ⟨#[c]⟩) s) (Lib.countB s ⟨#[c]⟩ + 1) = ((Lib.splitB ⟨#[c]⟩ 0 (Lib.countB s ⟨#[c]⟩) s).map Value.string).toArray := by rw [← hlen]; exact Lib.cellsOf_full _
 rw [e2] at c0
 have t3 := L.t3; have t9 := L.t9; have t31 := L.t31
 have a3 := L.a3; have a9 := L.a9; have a31 := L.a31
 have z3 := L.z3; have v3 := L.v3; have z9 := L.z9; have v9 := L.v9; have z31 := L.z31; have v31 := L.v31
 have e221 : ∀ args w, (callFunc (ρ.f 221) args).run P w = .ok (.enter (ρ.f 221) args) w := enters_of L.f221 (by kernel_rfl) rfl
 go_enter L.f146, Body.n146_ntmps ρ
 go_wp2_with (go_at_fn (ρ.f 221); refine c0.mono ?_; rintro e w' ⟨rfl, hw⟩; rw [hw])
 go_ret
 exact ⟨rfl, rfl⟩
set_option maxHeartbeats 4000000 in
set_option maxRecDepth 100000 in
theorem cut_one0 (L : Lays.n220 P ρ) (s : ByteArray) (c : UInt8) (w : World) (hs : s.size < 4294967281) :
  Calls P (ρ.f 220) #[.string s, .string ⟨#[c]⟩] w fun e w' => e = .returned (.tuple #[.string ⟨(Lib.cut s.data.toList [c]).1.toArray⟩, .string ⟨(Lib.cut s.data.toList [c]).2.1.toArray⟩, .bool (Lib.cut s.data.toList [c]).2.2]) ∧ ∃ n, w' = w.drewN n := by
 have key : ∀ w : World, Calls P (ρ.f 219) #[.string s, .string ⟨#[c]⟩] w fun e w' => e = .returned (.int .i64 (Lib.indexB s ⟨#[c]⟩)) ∧ w' = w := fun w =>
  (Any.stringslite_Index_one { L with } s c w).mono fun e w' ⟨he, hw⟩ => ⟨by rw [he]; show _ = Ending.returned (Value.int .i64 (Lib.index s.data.toList [c])); rw [index_one], hw⟩
 rcases Lib.indexB_cases s ⟨#[c]⟩ with hix | ⟨i, hix, hroom⟩
 ·obtain ⟨e1, e2, e3⟩ := Lib.cutB_miss s ⟨#[c]⟩ hix
  simp only [] at e1 e2 e3
  rw [e1, e2, e3]
  have t3 := L.t3; have t4 := L.t4; have t9 := L.t9
  have a3 : ∀ w, (Go.isAgg (ρ.t 3)).run P w = .ok false w := run_isAgg_plain L.t3 rfl; have a4 : ∀ w, (Go.isAgg (ρ.t 4)).run P w = .ok false w := run_isAgg_plain L.t4 rfl; have a9 : ∀ w, (Go.isAgg (ρ.t 9)).run P w = .ok false w := run_isAgg_plain L.t9 rfl
  have e219 : ∀ args w, (callFunc (ρ.f 219) args).run P w = .ok (.enter (ρ.f 219) args) w := enters_of L.f219 (by kernel_rfl) rfl
  have mixed := L.mixed; have z3 := L.z3; have v3 := L.v3; have z4 := L.z4; have v4 := L.v4; have z9 := L.z9; have v9 := L.v9
  go_enter L.f220, Body.n220_ntmps ρ
  go_wp2_with (go_at_fn (ρ.f 219); refine (key _).mono ?_; rintro e w' ⟨rfl, rfl⟩; rw [hix])
  go_ret3
  exact ⟨rfl, 0, rfl⟩
 ·obtain ⟨e1, e2, e3⟩ := Lib.cutB_hit s ⟨#[c]⟩ i hix
  simp only [] at e1 e2 e3
  rw [e1, e2, e3]
  have c1 : (0 : Int) ≤ ↑i := by omega
  have c2 : (↑i : Int) ≤ ↑s.size := by omega
  have hsz : (⟨#[c]⟩ : ByteArray).size = 1 := rfl
  have c3 : (0 : Int) ≤ ↑i + 1 := by omega
  have c4 : (↑i + 1 : Int) ≤ ↑s.size := by omega
  have c5 : RowKit.wrap64 ((i : Int) + 1) = (i : Int) + 1 := by unfold RowKit.wrap64; omega
  rw [hsz]
  have t3 := L.t3; have t4 := L.t4; have t9 := L.t9
  have a3 : ∀ w, (Go.isAgg (ρ.t 3)).run P w = .ok false w := run_isAgg_plain L.t3 rfl; have a4 : ∀ w, (Go.isAgg (ρ.t 4)).run P w = .ok false w := run_isAgg_plain L.t4 rfl; have a9 : ∀ w, (Go.isAgg (ρ.t 9)).run P w = .ok false w := run_isAgg_plain L.t9 rfl
  have e219 : ∀ args w, (callFunc (ρ.f 219) args).run P w = .ok (.enter (ρ.f 219) args) w := enters_of L.f219 (by kernel_rfl) rfl
  have mixed := L.mixed; have z3 := L.z3; have v3 := L.v3; have z4 := L.z4; have v4 := L.v4; have z9 := L.z9; have v9 := L.v9
  go_enter L.f220, Body.n220_ntmps ρ
  go_wp2_with (go_at_fn (ρ.f 219); refine (key _).mono ?_; rintro e w' ⟨rfl, rfl⟩; rw [hix])
  go_region_o
  go_wp2
  go_ret3
  exact ⟨rfl, 1, rfl⟩
set_option maxHeartbeats 1000000 in
theorem cut_one (L : Lays.n145 P ρ) (s : ByteArray) (c : UInt8) (w : World) (hs : s.size < 4294967281) :
  Calls P (ρ.f 145) #[.string s, .string ⟨#[c]⟩] w fun e w' => e = .returned (.tuple #[.string ⟨(Lib.cut s.data.toList [c]).1.toArray⟩, .string ⟨(Lib.cut s.data.toList [c]).2.1.toArray⟩, .bool (Lib.cut s.data.toList [c]).2.2]) ∧ ∃ n, w' = w.drewN n := by
 have t4 := L.t4; have t9 := L.t9; have t59 := L.t59
 have a4 : ∀ w, (Go.isAgg (ρ.t 4)).run P w = .ok false w := run_isAgg_plain L.t4 rfl; have a9 : ∀ w, (Go.isAgg (ρ.t 9)).run P w = .ok false w := run_isAgg_plain L.t9 rfl; have a59 : ∀ w, (Go.isAgg (ρ.t 59)).run P w = .ok false w := run_isAgg_plain L.t59 rfl
 have e220 : ∀ args w, (callFunc (ρ.f 220) args).run P w = .ok (.enter (ρ.f 220) args) w := enters_of L.f220 (by kernel_rfl) rfl
 have mixed := L.mixed; have z4 := L.z4; have v4 := L.v4; have z9 := L.z9; have v9 := L.v9; have z59 := L.z59; have v59 := L.v59
 go_enter L.f145, Body.n145_ntmps ρ
 go_wp2_with (go_at_fn (ρ.f 220); refine (cut_one0 { L with } _ _ _ hs).mono ?_; rintro e w' ⟨rfl, n, rfl⟩)
 go_ret3
 exact ⟨rfl, n, rfl⟩
theorem sound_cut (L : Lays.n145 P ρ) : Sound Γ P (ρ.f 145) (runOf [.v .str .k, .v .str .k] fun x kf => bif Nat.blt (ByteArray.size x.1) 4294967281 && Nat.beq (ByteArray.size x.2.1) 1 then kf ⟨[⟨.str, .k, cutA x.1 x.2.1⟩, ⟨.str, .k, cutB x.1 x.2.1⟩, ⟨.bool, .k, cutF x.1 x.2.1⟩], []⟩ else none) := by
 refine ⟨?_, fun al => ?_⟩
 rotate_left
 ·unfold runOf
  split
  ·exact Det.bif _ (Det.pure _) Det.none
  ·exact Det.none
 intro args kf ret w σ vals H B hr hin
 unfold runOf at hr
 split at hr
 case h_2 => cases hr
 rename_i x hx
 have := aproj_eq _ args hx
 subst this
 rcases x with ⟨(s : ByteArray), (sep : ByteArray), u⟩
 simp only [ashape] at hin hr
 cases hc : (Nat.blt (ByteArray.size s) 4294967281 && Nat.beq (ByteArray.size sep) 1) with
 | false => rw [hc] at hr; cases hr
 | true =>
 rw [hc] at hr
 simp only [cond_true] at hr
 rw [Bool.and_eq_true, Nat.blt_eq] at hc
 obtain ⟨c, rfl⟩ := Lib.one_byte sep (Nat.eq_of_beq_eq_true hc.2)
 obtain rfl := two_vals hin.len (arg_str hin rfl) (arg_str hin rfl)
 refine .inl ⟨enters_of L.f145 (by kernel_rfl) rfl _ w, (cut_one L s c w hc.1).mono fun en w' he => ?_⟩
 obtain ⟨rfl, n, rfl⟩ := he
 refine ⟨_, hr, out_plain (vs := [_, _, _]) ⟨rfl, rfl, rfl, Nat.le_refl _, fun _ _ => rfl⟩ rfl fun i b hi => ?_⟩
 match i, hi with
 | 0, hi => simp only [List.getElem?_cons_zero, Option.some.injEq] at hi; subst hi; exact ⟨_, rfl, by simp [matchV, isAgg], rfl, fun A => by simp [K, cutA]⟩
 | 1, hi => simp only [List.getElem?_cons_succ, List.getElem?_cons_zero, Option.some.injEq] at hi; subst hi; exact ⟨_, rfl, by simp [matchV, isAgg], rfl, fun A => by simp [K, cutB]⟩
 | 2, hi => simp only [List.getElem?_cons_succ, List.getElem?_cons_zero, Option.some.injEq] at hi; subst hi; exact ⟨_, rfl, by simp [matchV, isAgg], rfl, fun A => by simp [K, cutF]⟩
 | i + 3, hi => simp at hi
theorem sound_split (L : Lays.n146 P ρ) (hi9 : (P.info? (ρ.t 9)).map (fun i => (i.zero, i.size, i.bytes)) = some (some (.string ByteArray.empty), 1, 16)) : Sound Γ P (ρ.f 146) (runOf [.v .str .k, .v .str .k] fun x kf => bif Nat.blt (ByteArray.size x.1) 4294967281 && Nat.beq (ByteArray.size x.2.1) 1 then kf ⟨[⟨.sl .str, .k, splitL x.1 x.2.1⟩], []⟩ else none) := by
 refine ⟨?_, fun al => ?_⟩
 rotate_left
 ·unfold runOf
  split
  ·exact Det.bif _ (Det.pure _) Det.none
  ·exact Det.none
 intro args kf ret w σ vals H B hr hin
 unfold runOf at hr
 split at hr
 case h_2 => cases hr
 rename_i x hx
 have := aproj_eq _ args hx
 subst this
 rcases x with ⟨(s : ByteArray), (sep : ByteArray), u⟩
 simp only [ashape] at hin hr
 cases hc : (Nat.blt (ByteArray.size s) 4294967281 && Nat.beq (ByteArray.size sep) 1) with
 | false => rw [hc] at hr; cases hr
 | true =>
 rw [hc] at hr
 simp only [cond_true] at hr
 rw [Bool.and_eq_true, Nat.blt_eq] at hc
 obtain ⟨c, rfl⟩ := Lib.one_byte sep (Nat.eq_of_beq_eq_true hc.2)
 obtain rfl := two_vals hin.len (arg_str hin rfl) (arg_str hin rfl)
 refine .inl ⟨enters_of L.f146 (by kernel_rfl) rfl _ w, (split_one L hi9 s c w hc.1).mono fun en w' he => ?_⟩
 obtain ⟨rfl, rfl⟩ := he
 have hlen : (splitL s ⟨#[c]⟩).length = Lib.countB s ⟨#[c]⟩ + 1 := Lib.splitB_all ⟨#[c]⟩ (Nat.le_refl _) 0 _ s rfl
 have hle := Lib.countB_le ⟨#[c]⟩ (Nat.le_refl _) s.size s (Nat.le_refl _)
 have hmx : maxLen = 9223372036854775807 := rfl
 obtain ⟨o, ho⟩ : ∃ o, o = Obj.cells ((splitL s ⟨#[c]⟩).map Value.string).toArray (ρ.t 9) := ⟨_, rfl⟩
 have ho' : Obj.cells ((Lib.splitB ⟨#[c]⟩ 0 (Lib.countB s ⟨#[c]⟩) s).map Value.string).toArray (ρ.t 9) = o := ho.symm
 rw [ho', ← hlen]
 refine ⟨_, hr, ⟨rfl, rfl, rfl, by simp, fun g' hg' _ => heap_alloc_old w o hg'⟩, fun _ => none, [.slice (some ⟨w.heap.size, 0, none⟩) (splitL s ⟨#[c]⟩).length (splitL s ⟨#[c]⟩).length], rfl, rfl, fun g' i hg => (by cases hg), fun i b hb => ?_, fun d hd => (by cases hd)⟩
 cases i with
 | succ i => simp at hb
 | zero =>
  simp only [List.getElem?_cons_zero, Option.some.injEq] at hb
  subst hb
  refine ⟨_, [.slice (some ⟨w.heap.size, 0, none⟩) (splitL s ⟨#[c]⟩).length (splitL s ⟨#[c]⟩).length], rfl, by simp [matchV, isAgg], ?_⟩
  simp only [M]
  refine .inr (.inl ⟨rfl, ?_⟩)
  simp only [K]
  refine ⟨_, _, rfl, Nat.le_refl _, fun _ => ⟨w.heap.size, 0, ((splitL s ⟨#[c]⟩).map Value.string).toArray, ρ.t 9, (0, 0), rfl, fun hx => ?_, by rw [ho]; exact heap_alloc_new w _, by simp [Ty.size], fun j hj => ?_⟩⟩
  ·rcases hx with ⟨q, hq⟩ | hz
   ·cases hq
   ·have := (hin.old _ hz).2
    omega
  ·have hj' : j < (splitL s ⟨#[c]⟩).length := hj
   simp only [Ty.size, Nat.mul_one, Nat.zero_add]
   rw [List.drop_eq_getElem_cons (by simpa using hj')]
   simp
end Go.Pv
