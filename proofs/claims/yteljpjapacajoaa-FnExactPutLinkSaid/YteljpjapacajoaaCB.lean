/- Own layer: part of this seat (CB). Plain theorems; no conditions. -/
import Derived.Test.YteljpjapacajoaaCA
set_option linter.unusedVariables false
set_option linter.unusedSimpArgs false
/-! chains for the exact laws: marks in nested rows -/
namespace Go.Px
open Go.RowKit
instance : Inhabited LnkL := ⟨⟨none, 0, ⟨[], 0, 0⟩⟩⟩
section
variable {w0 w : World} {R : List (Option Nat)} {M M' : List (List FE)} {l : List LnkL} {e : TypeId} {x : LnkL}
theorem Mem.perm (h : Mem w0 w R M) (p : M.flatten.Perm M'.flatten) : Mem w0 w R M' :=
  ⟨h.os, h.tape, h.output, h.size, h.block, fun y hy => h.own y (p.mem_iff.2 hy), (p.pairwise_iff (fun h => Apart.symm h)).1 h.apart, fun y hy => h.born y (p.mem_iff.2 hy)⟩
theorem split_mid {α : Type} {L : List α} {j : Nat} (hj : j < L.length) : L = L.take j ++ L[j] :: L.drop (j + 1) := by
  rw [← List.drop_eq_getElem_cons hj, List.take_append_drop]
/-- one row of keys leaves the group -/
theorem Mem.kout (h : Mem w0 w R (l.map (keyF e) :: M)) {j : Nat} (hj : j < l.length) : Mem w0 w R ([keyF e l[j]] :: (l.take j ++ l.drop (j + 1)).map (keyF e) :: M) := by
  refine Mem.perm h ?_
  simp only [List.flatten_cons]
  rw [← List.append_assoc]
  refine List.Perm.append_right _ ?_
  conv => lhs; rw [split_mid hj]
  rw [List.map_append, List.map_append, List.map_cons]
  exact List.perm_middle
/-- .. and comes back -/
theorem Mem.kin {j : Nat} (hj : j < l.length) (h : Mem w0 w R ((l.take j ++ l.drop (j + 1)).map (keyF e) :: [keyF e x] :: M)) : Mem w0 w R ((l.set j x).map (keyF e) :: M) := by
  refine Mem.perm h ?_
  simp only [List.flatten_cons]
  rw [← List.append_assoc]
  refine List.Perm.append_right _ ?_
  rw [List.set_eq_take_append_cons_drop, if_pos hj, List.map_append, List.map_append, List.map_cons]
  rw [List.append_assoc]
  exact List.Perm.append_left _ (List.perm_append_singleton _ _)
end
theorem enc_set {L : List LnkL} {j : Nat} {X : LnkL} (hj : j < L.length) (h : encL X = encL L[j]) : L.flatMap encL = (L.set j X).flatMap encL := by
  conv => lhs; rw [split_mid hj]
  rw [List.set_eq_take_append_cons_drop, if_pos hj, List.flatMap_append, List.flatMap_append, List.flatMap_cons, List.flatMap_cons, h]
def mkI (k n : Nat) : List Int := mkL (fun t => ((k + t : Nat) : Int)) n
@[simp] theorem mkI_len (k n : Nat) : (mkI k n).length = n := mkL_len _ _
def mkLk (k : Nat) (x : LnkL) : LnkL := ⟨x.A, x.cp, ⟨mkI k x.t.keys.length, ((k + x.t.keys.length : Nat) : Int), ((k + x.t.keys.length + 1 : Nat) : Int)⟩⟩
def markL : Nat → List LnkL → List LnkL
  | _, [] => []
  | k, x :: l => mkLk k x :: markL (k + x.t.keys.length + 2) l
def endL : Nat → List LnkL → Nat
  | k, [] => k
  | k, x :: l => endL (k + x.t.keys.length + 2) l
@[simp] theorem markL_len : ∀ {k : Nat} {l : List LnkL}, (markL k l).length = l.length
  | _, [] => rfl
  | k, x :: l => by simp [markL, markL_len]
theorem markL_app : ∀ {k : Nat} {a b : List LnkL}, markL k (a ++ b) = markL k a ++ markL (endL k a) b
  | _, [], _ => rfl
  | k, x :: a, b => by simp only [List.cons_append, markL, endL]; rw [markL_app]
theorem endL_app : ∀ {k : Nat} {a b : List LnkL}, endL k (a ++ b) = endL (endL k a) b
  | _, [], _ => rfl
  | k, x :: a, b => by simp only [List.cons_append, endL]; rw [endL_app]
theorem endL_snoc {k : Nat} {l : List LnkL} {i : Nat} (h : i < l.length) : endL k (l.take (i + 1)) = endL k (l.take i) + l[i].t.keys.length + 2 := by
  rw [take_snoc h, endL_app]; rfl
theorem endL_mark : ∀ {k : Nat} {l : List LnkL}, endL k (markL k l) = endL k l
  | _, [] => rfl
  | k, x :: l => by
    simp only [markL, endL]
    have : (mkLk k x).t.keys.length = x.t.keys.length := mkI_len _ _
    rw [this, endL_mark]
theorem mkLk_idem {k : Nat} {x : LnkL} : mkLk k (mkLk k x) = mkLk k x := by simp [mkLk]
theorem markL_idem : ∀ {k : Nat} {l : List LnkL}, markL k (markL k l) = markL k l
  | _, [] => rfl
  | k, x :: l => by
    simp only [markL]
    have : (mkLk k x).t.keys.length = x.t.keys.length := mkI_len _ _
    rw [this, mkLk_idem, markL_idem]
theorem mark_zero {k : Nat} {l : List LnkL} : l = markL k (l.take 0) ++ l.drop 0 := by simp [markL]
theorem mark_mlen {k i : Nat} {l : List LnkL} (h : i ≤ l.length) : (markL k (l.take i) ++ l.drop i).length = l.length := by simp; omega
theorem mark_all {k i : Nat} {l : List LnkL} (h : l.length ≤ i) : markL k (l.take i) ++ l.drop i = markL k l := by
  rw [List.take_of_length_le h, List.drop_eq_nil_of_le h, List.append_nil]
theorem mark_mget {k i : Nat} {l : List LnkL} (h : i < l.length) (h2 : i < (markL k (l.take i) ++ l.drop i).length) : (markL k (l.take i) ++ l.drop i)[i] = l[i] := by
  rw [List.getElem_append_right (by simp; omega), List.getElem_drop]
  congr 1; simp; omega
theorem mark_mset {k i : Nat} {l : List LnkL} (h : i < l.length) {X : LnkL} (hX : X = mkLk (endL k (l.take i)) l[i]) : (markL k (l.take i) ++ l.drop i).set i X = markL k (l.take (i + 1)) ++ l.drop (i + 1) := by
  subst hX
  have h1 : (markL k (l.take i)).length = i := by simp; omega
  rw [List.set_append_right _ _ (by omega), h1, Nat.sub_self, List.drop_eq_getElem_cons h, List.set_cons_zero, take_snoc h, markL_app]
  simp [markL]
theorem mark_get : ∀ {k : Nat} {l : List LnkL} {i : Nat} (h : i < l.length), (markL k l)[i]'(by simpa using h) = mkLk (endL k (l.take i)) l[i]
  | _, [], _, h => by simp at h
  | k, x :: l, 0, h => by simp [markL, endL]
  | k, x :: l, i + 1, h => by
    simp only [markL, List.getElem_cons_succ, List.take_succ_cons, endL]
    exact mark_get (by simpa using h)
/-- what stands in marked links -/
theorem mark_own {k : Nat} {l : List LnkL} (hm : markL k l = l) {i : Nat} (h : i < l.length) : l[i] = mkLk (endL k (l.take i)) l[i] := by
  have := mark_get (k := k) h
  simp only [hm] at this
  exact this
def sumKL (l : List LnkL) : Nat := (l.map fun x => x.t.keys.length).sum
theorem sumKL_snoc {l : List LnkL} {i : Nat} (h : i < l.length) : sumKL (l.take (i + 1)) = sumKL (l.take i) + l[i].t.keys.length := by
  unfold sumKL; rw [take_snoc h, List.map_append, List.sum_append]; simp
theorem sumKL_take : ∀ {l : List LnkL} (i : Nat), sumKL (l.take i) ≤ sumKL l
  | [], _ => by simp [sumKL]
  | x :: l, 0 => by simp [sumKL]
  | x :: l, i + 1 => by
    have := sumKL_take (l := l) i
    simp only [sumKL, List.take_succ_cons, List.map_cons, List.sum_cons] at this ⊢
    omega
theorem sumKL_mem : ∀ {l : List LnkL} {x : LnkL}, x ∈ l → x.t.keys.length ≤ sumKL l
  | y :: l, x, h => by
    simp only [sumKL, List.map_cons, List.sum_cons]
    rcases List.mem_cons.1 h with rfl | h
    · omega
    · have := sumKL_mem h; simp only [sumKL] at this; omega
theorem sumKL_ts {l L : List LnkL} (h : tsL L = tsL l) : sumKL L = sumKL l := by
  have : (tsL L).map (fun x => x.keys.length) = (tsL l).map (fun x => x.keys.length) := by rw [h]
  simp only [tsL, List.map_map] at this
  unfold sumKL
  exact congrArg List.sum this
theorem endL_sum : ∀ {k : Nat} {l : List LnkL}, endL k l = k + sumKL l + 2 * l.length
  | _, [] => rfl
  | k, x :: l => by
    simp only [endL]
    rw [endL_sum]
    simp only [sumKL, List.map_cons, List.sum_cons, List.length_cons]; omega
theorem endL_take {k i : Nat} {l : List LnkL} : endL k (l.take i) ≤ endL k l := by
  rw [endL_sum, endL_sum]
  have := sumKL_take (l := l) i
  have : (l.take i).length ≤ l.length := by simp; omega
  omega
theorem sumKL_le {n : Nat} : ∀ {l : List LnkL}, (∀ x ∈ l, x.t.keys.length ≤ n) → sumKL l ≤ l.length * n
  | [], _ => by simp [sumKL]
  | x :: l, h => by
    have h1 := h x (by simp)
    have h2 := sumKL_le (l := l) fun y hy => h y (by simp [hy])
    simp only [sumKL, List.map_cons, List.sum_cons, List.length_cons, Nat.add_mul, Nat.one_mul] at h2 ⊢
    omega
/-- what the size check yields -/
def szR (left : Int) (n : Nat) : Int := if left < (n : Int) then -1 else left - n
theorem szR_no {left : Int} {n : Nat} (h : left < (n : Int)) : szR left n = -1 := by simp [szR, h]
theorem szR_yes {left : Int} {n : Nat} (h : (n : Int) ≤ left) : szR left n = left - n := by unfold szR; rw [if_neg (by omega)]
theorem szR_neg {left : Int} {n : Nat} : szR left n < 0 ↔ left < (n : Int) := by
  unfold szR; split <;> omega
end Go.Px
namespace Go.Px
theorem mkI_own {k i : Nat} {l : List Int} (hm : mkI k l.length = l) (h : i < l.length) : l[i] = ((k + i : Nat) : Int) := by
  have h2 : i < (mkI k l.length).length := by simpa using h
  have : (mkI k l.length)[i]'h2 = ((k + i : Nat) : Int) := mkL_get h2
  simp only [hm] at this; exact this
theorem mark_own_keys {k i : Nat} {l : List LnkL} (hm : markL k l = l) (h : i < l.length) : mkI (endL k (l.take i)) l[i].t.keys.length = l[i].t.keys := (congrArg (fun z => z.t.keys) (mark_own hm h)).symm
theorem mark_own_high {k i : Nat} {l : List LnkL} (hm : markL k l = l) (h : i < l.length) : l[i].t.high = ((endL k (l.take i) + l[i].t.keys.length : Nat) : Int) := congrArg (fun z => z.t.high) (mark_own hm h)
theorem mark_own_right {k i : Nat} {l : List LnkL} (hm : markL k l = l) (h : i < l.length) : l[i].t.right = ((endL k (l.take i) + l[i].t.keys.length + 1 : Nat) : Int) := congrArg (fun z => z.t.right) (mark_own hm h)
theorem mark_keys_le {k n : Nat} {l : List LnkL} (h : ∀ x ∈ l, x.t.keys.length ≤ n) : ∀ x ∈ markL k l, x.t.keys.length ≤ n := by
  intro x hx
  obtain ⟨i, hi, rfl⟩ := List.getElem_of_mem hx
  have hi2 : i < l.length := by simpa using hi
  rw [mark_get hi2]
  simp only [mkLk, mkI_len]
  exact h _ (List.getElem_mem hi2)
end Go.Px
