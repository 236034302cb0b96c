/- Own layer: part of this seat (C3). Plain theorems; no conditions. -/
import Derived.Test.YteljpjapacajoaaC2
set_option linter.unusedVariables false
set_option linter.unusedSimpArgs false
namespace Go.Px
open Go.RowKit
theorem Mem.ncap {w0 w : World} {R : List (Option Nat)} {M : List (List FE)} {l : List LnkL} {e : TypeId} (h : Mem w0 w R M) (i : Nat) (hi : M[i]? = some (l.map (keyF e))) : ∀ x ∈ l, x.t.keys.length ≤ x.cp := by
  intro x hx
  have h1 : (keyF e x).own w := h.own _ (List.mem_flatten.2 ⟨_, List.mem_of_getElem? hi, List.mem_map.2 ⟨x, hx, rfl⟩⟩)
  obtain ⟨A', c', he, h2, _, _, _, _⟩ := own_form h1
  cases he
  exact h2
theorem valid_all {l : List LnkL} (h : validC (tsL l) = true) : ∀ x ∈ l, x.t.keys.length ≤ 4 ∧ validK x.t.keys = true := by
  intro x hx
  obtain ⟨i, hi, rfl⟩ := List.getElem_of_mem hx
  have := valid_len4 h (i := i) (by simp; exact hi)
  rwa [gL_ts hi] at this
theorem valid_1m {l : List LnkL} (h : validC (tsL l) = true) : ∀ x ∈ l, x.t.keys.length ≤ 1048576 := fun x hx => by have := valid_all h x hx; omega
theorem spl_ts {l L1 : List LnkL} {i : Nat} (hi : i < l.length) (h : tsL L1 = tsL l) {Y Z : LnkL} (hY : Y.t = splY l[i].t l.length) (hZ : Z.t = splZ l[i].t) : tsL ((L1 ++ [Z]).set i Y) = splB (tsL l) i := by
  unfold splB
  rw [gL_ts hi]
  simp only [tsL, List.map_set, List.map_append, List.map_cons, List.map_nil, List.length_map] at h ⊢
  rw [h, hY, hZ]
theorem spl_ts2 {l L1 : List LnkL} {i : Nat} (hi : i < l.length) (h : tsL L1 = tsL l) {Y Z : LnkL} (hY : Y.t = splY l[i].t l.length) (hZ : Z.t = splZ l[i].t) : tsL (L1.set i Y ++ [Z]) = splB (tsL l) i := by
  rw [← spl_ts hi h hY hZ, List.set_append, if_pos (by have := congrArg List.length h; simp at this; omega)]
theorem ts_eq_len {l L : List LnkL} (h : tsL L = tsL l) : L.length = l.length := by
  have := congrArg List.length h; simpa using this
theorem lk_eq {a b : LnkL} (h1 : a.t.keys = b.t.keys) (h2 : a.t.high = b.t.high) (h3 : a.t.right = b.t.right) : a.t = b.t := by
  cases ha : a.t; cases hb : b.t; simp [ha, hb] at h1 h2 h3; simp [h1, h2, h3]
theorem ts_step {a b : List LnkL} {k : Nat} (ha : k < a.length) (hb : k < b.length) (h : (tsL a).take k = (tsL b).take k) (he : a[k].t = b[k].t) : (tsL a).take (k + 1) = (tsL b).take (k + 1) := by
  rw [take_snoc (by simpa using ha), take_snoc (by simpa using hb), h]
  simp [he]
theorem ts_ne {a b : List LnkL} {k : Nat} (ha : k < a.length) (hb : k < b.length) (he : a[k].t ≠ b[k].t) : decide (tsL a = tsL b) = false := by
  refine decide_eq_false fun h => he ?_
  have h1 : (tsL a)[k]'(by simpa using ha) = (tsL b)[k]'(by simpa using hb) := by simp only [h]
  simpa using h1
theorem ts_nl {a b : List LnkL} (h : a.length ≠ b.length) : decide (tsL a = tsL b) = false := decide_eq_false fun e => h (ts_eq_len e)
theorem ts_all {a b : List LnkL} {k : Nat} (ha : a.length ≤ k) (hb : b.length ≤ k) (h : (tsL a).take k = (tsL b).take k) : decide (tsL a = tsL b) = true := by
  rw [List.take_of_length_le (by simpa using ha), List.take_of_length_le (by simpa using hb)] at h
  exact decide_eq_true h
end Go.Px
