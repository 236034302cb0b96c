/- Own layer: part of this seat (W0). Plain theorems; no conditions. -/
import Derived.Test.YtekfncmhinbghaaPx1
set_option linter.unusedVariables false
set_option linter.unusedSimpArgs false
/-! Words: plain functions on lists of bytes. -/
namespace Go.Px
abbrev Byt := UInt8
def lowB (c : UInt8) : Bool := decide (97 ≤ c.toNat) && decide (c.toNat ≤ 122)
def isWordB (s : List UInt8) : Bool := decide (1 ≤ s.length) && decide (s.length ≤ 8) && s.all lowB
def comm : List UInt8 → List UInt8 → Nat
  | a :: x, b :: y => if a = b then comm x y + 1 else 0
  | _, _ => 0
theorem comm_le : ∀ (a b : List UInt8), comm a b ≤ a.length ∧ comm a b ≤ b.length
  | [], b => by simp [comm]
  | a :: x, [] => by simp [comm]
  | a :: x, b :: y => by
    have := comm_le x y
    simp only [comm]
    split <;> simp <;> omega
/-- as long as the letters are the same -/
theorem comm_drop : ∀ (a b : List UInt8) (k : Nat), k ≤ comm a b → comm a b = k + comm (a.drop k) (b.drop k)
  | a, b, 0, _ => by simp
  | [], b, k + 1, h => by simp [comm] at h
  | a :: x, [], k + 1, h => by simp [comm] at h
  | a :: x, b :: y, k + 1, h => by
    simp only [comm] at h ⊢
    split at h
    · rename_i he
      rw [if_pos he]
      have := comm_drop x y k (by omega)
      simp only [List.drop_succ_cons]
      omega
    · omega
theorem comm_step {a b : List UInt8} {k : Nat} (hk : k ≤ comm a b) (ha : k < a.length) (hb : k < b.length) (he : a[k] = b[k]) : k + 1 ≤ comm a b := by
  have h := comm_drop a b k hk
  rw [List.drop_eq_getElem_cons ha, List.drop_eq_getElem_cons hb] at h
  simp only [comm, he, if_true] at h
  omega
theorem comm_stop {a b : List UInt8} {k : Nat} (hk : k ≤ comm a b) (hs : a.length ≤ k ∨ b.length ≤ k ∨ ∃ (ha : k < a.length) (hb : k < b.length), a[k] ≠ b[k]) : comm a b = k := by
  have h := comm_drop a b k hk
  have hl := comm_le a b
  rcases hs with hs | hs | ⟨ha, hb, hne⟩
  · omega
  · omega
  · rw [List.drop_eq_getElem_cons ha, List.drop_eq_getElem_cons hb] at h
    simp only [comm, if_neg hne] at h
    omega
theorem all_take_succ {α : Type} {s : List α} {p : α → Bool} {k : Nat} (h : (s.take k).all p = true) (hk : k < s.length) (hp : p s[k] = true) : (s.take (k + 1)).all p = true := by
  rw [List.take_succ_eq_append_getElem hk, List.all_append, h]
  simp [hp]
theorem all_not {α : Type} {s : List α} {p : α → Bool} {k : Nat} (hk : k < s.length) (hp : p s[k] = false) : s.all p = false := by
  rw [List.all_eq_false]
  exact ⟨s[k], List.getElem_mem hk, by simp [hp]⟩

/-! order of texts -/
theorem blt_irrefl : ∀ a : List UInt8, blt a a = false
  | [] => rfl
  | a :: x => by simp [blt, Op.bytesLess]; exact blt_irrefl x
theorem blt_flip : ∀ a b : List UInt8, (blt b a || decide (b = a)) = !blt a b
  | [], [] => by simp [blt, Op.bytesLess]
  | [], b :: y => by simp [blt, Op.bytesLess]
  | a :: x, [] => by simp [blt, Op.bytesLess]
  | a :: x, b :: y => by
    have ih := blt_flip x y
    simp only [blt, Op.bytesLess] at ih ⊢
    by_cases h1 : a < b
    · have h2 : ¬ b < a := by simp only [UInt8.lt_iff_toNat_lt] at *; omega
      have h3 : ¬ b = a := fun e => by subst e; exact h2 h1
      have h4 : (b == a) = false := by simpa using h3
      simp [h1, h2, h3]
    · by_cases h2 : b < a
      · have h3 : ¬ a = b := fun e => by subst e; exact h1 h2
        simp [h1, h2, h3]
      · have h3 : a = b := by
          apply UInt8.toNat.inj
          simp only [UInt8.lt_iff_toNat_lt] at h1 h2
          omega
        subst h3
        simp [h1]
        by_cases hxy : y = x
        · subst hxy; simp at ih ⊢; simpa using ih
        · simpa [hxy] using ih
theorem blt_asym {a b : List UInt8} (h : blt a b = true) : blt b a = false := by
  have := blt_flip a b
  rw [h] at this
  cases hb : blt b a with
  | false => rfl
  | true => rw [hb] at this; simp at this

/-! lists of words -/
def pairs : List (List UInt8) → Bool
  | a :: b :: r => blt a b && pairs (b :: r)
  | _ => true
def validW (l : List (List UInt8)) : Bool := decide (l.length ≤ 8) && l.all isWordB && pairs l
theorem pairs_iff : ∀ l : List (List UInt8), pairs l = true ↔ ∀ i (h : i + 1 < l.length), blt l[i] l[i + 1] = true
  | [] => by simp [pairs]
  | [a] => by simp [pairs]
  | a :: b :: r => by
    simp only [pairs, Bool.and_eq_true, pairs_iff (b :: r)]
    constructor
    · rintro ⟨h1, h2⟩ i hi
      cases i with
      | zero => exact h1
      | succ i => exact h2 i (by simpa using hi)
    · intro h
      exact ⟨h 0 (by simp), fun i hi => h (i + 1) (by simpa using hi)⟩
theorem pairs_not {l : List (List UInt8)} {k : Nat} (h0 : 0 < k) (hk : k < l.length) (hb : blt (l[k - 1]'(by omega)) l[k] = false) : pairs l = false := by
  cases hp : pairs l with
  | false => rfl
  | true =>
    have := (pairs_iff l).1 hp (k - 1) (by omega)
    have e : k - 1 + 1 = k := by omega
    simp only [e] at this
    rw [this] at hb; cases hb
theorem pairs_take {l : List (List UInt8)} {k : Nat} (h : pairs (l.take k) = true) (hk : k < l.length) (hb : ∀ h0 : 0 < k, blt (l[k - 1]'(by omega)) l[k] = true) : pairs (l.take (k + 1)) = true := by
  rw [pairs_iff] at h ⊢
  intro i hi
  simp only [List.length_take] at hi h
  simp only [List.getElem_take] at h ⊢
  by_cases hik : i + 1 < k
  · exact h i (by omega)
  · have e : k = i + 1 := by omega
    subst e
    exact hb (by omega)

structure RestT where
  same : Int
  tail : List UInt8
  deriving DecidableEq
def restOf (p w : List UInt8) : RestT := ⟨(comm p w : Int), w.drop (comm p w)⟩
def encR (r : RestT) : List Value := [I r.same, S r.tail]
theorem encR_len (r : RestT) : (encR r).length = 2 := rfl
def packA : List UInt8 → List (List UInt8) → List RestT
  | _, [] => []
  | p, w :: r => restOf p w :: packA w r
def packW (l : List (List UInt8)) : List RestT := packA [] l
theorem packA_length : ∀ (p : List UInt8) (l : List (List UInt8)), (packA p l).length = l.length
  | _, [] => rfl
  | _, w :: r => by simp [packA, packA_length w r]
def lastW : List UInt8 → List (List UInt8) → List UInt8
  | p, [] => p
  | _, w :: r => lastW w r
theorem lastW_snoc : ∀ (p : List UInt8) (l : List (List UInt8)) (x : List UInt8), lastW p (l ++ [x]) = x
  | _, [], _ => rfl
  | _, w :: r, x => lastW_snoc w r x
theorem packA_snoc : ∀ (p : List UInt8) (l : List (List UInt8)) (x : List UInt8), packA p (l ++ [x]) = packA p l ++ [restOf (lastW p l) x]
  | p, [], x => rfl
  | p, w :: r, x => by simp only [List.cons_append, packA, packA_snoc w r x, lastW]
def prevW (l : List (List UInt8)) (k : Nat) : List UInt8 := if 0 < k then l.getD (k - 1) [] else []
theorem last_take {l : List (List UInt8)} {k : Nat} (hk : k ≤ l.length) : lastW [] (l.take k) = prevW l k := by
  unfold prevW
  cases k with
  | zero => simp [lastW]
  | succ k =>
    rw [List.take_succ_eq_append_getElem (by omega), lastW_snoc]
    simp [show k < l.length by omega]
theorem prevW_pos {l : List (List UInt8)} {k : Nat} (h0 : 0 < k) (hk : k - 1 < l.length) : prevW l k = l[k - 1] := by simp [prevW, h0, hk]
theorem packW_take {l : List (List UInt8)} {k : Nat} (hk : k < l.length) : packW (l.take (k + 1)) = packW (l.take k) ++ [restOf (prevW l k) l[k]] := by
  unfold packW
  rw [List.take_succ_eq_append_getElem hk, packA_snoc, last_take (by omega)]
theorem comm_nil (w : List UInt8) : comm [] w = 0 := by cases w <;> rfl

def sumL : List (List UInt8) → Nat
  | [] => 0
  | w :: r => w.length + sumL r
theorem sumL_snoc : ∀ (l : List (List UInt8)) (x : List UInt8), sumL (l ++ [x]) = sumL l + x.length
  | [], x => by simp [sumL]
  | w :: r, x => by simp [sumL, sumL_snoc r x]; omega
theorem sumL_take {l : List (List UInt8)} {k : Nat} (hk : k < l.length) : sumL (l.take (k + 1)) = sumL (l.take k) + l[k].length := by
  rw [List.take_succ_eq_append_getElem hk, sumL_snoc]
theorem sumL_take_le : ∀ (l : List (List UInt8)) (k : Nat), sumL (l.take k) ≤ sumL l
  | [], k => by simp [sumL]
  | w :: r, 0 => by simp [sumL]
  | w :: r, k + 1 => by simp [sumL]; exact sumL_take_le r k
/-- what is left of a purse -/
def szF (a : Int) (t : Nat) : Int := if a < t then -1 else a - t
theorem szF_le {l : List (List UInt8)} {a : Int} {n : Nat} (h : ¬ szF a (n + sumL l) < 0) : (n : Int) ≤ a ∧ (n : Int) + (sumL l : Int) ≤ a := by
  unfold szF at h
  split at h <;> omega
theorem sumL_mem : ∀ {l : List (List UInt8)} {s : List UInt8}, s ∈ l → s.length ≤ sumL l
  | w :: r, s, h => by
    rcases List.mem_cons.1 h with rfl | h
    · simp [sumL]
    · have := sumL_mem h
      simp [sumL]; omega

/-! the text of a mark -/
def dgF : Nat → Nat → List UInt8 → List UInt8
  | 0, _, out => out
  | f + 1, k, out => if k = 0 then out else dgF f (k / 10) (UInt8.ofNat (48 + k % 10) :: out)
theorem dgF_fuel : ∀ (f f' k : Nat) (out : List UInt8), k ≤ f → k ≤ f' → dgF f k out = dgF f' k out
  | 0, 0, _, _, _, _ => rfl
  | 0, f' + 1, k, out, h, _ => by have : k = 0 := by omega
                                  subst this; simp [dgF]
  | f + 1, 0, k, out, _, h => by have : k = 0 := by omega
                                 subst this; simp [dgF]
  | f + 1, f' + 1, k, out, h, h' => by
    simp only [dgF]
    split
    · rfl
    · exact dgF_fuel f f' (k / 10) _ (by omega) (by omega)
def digs (k : Nat) : List UInt8 := dgF k k []
theorem dg_step {k : Nat} {out : List UInt8} (h : 0 < k) : dgF k k out = dgF (k / 10) (k / 10) (UInt8.ofNat (48 + k % 10) :: out) := by
  obtain ⟨f, rfl⟩ : ∃ f, k = f + 1 := ⟨k - 1, by omega⟩
  simp only [dgF]
  rw [if_neg (by omega)]
  exact dgF_fuel _ _ _ _ (by omega) (by omega)
def markT (k : Nat) : List UInt8 := if k = 0 then [109, 48] else 109 :: digs k
/-- marks from k on -/
def mkS (k n : Nat) : List (List UInt8) := (List.range n).map fun i => markT (k + i)
def mkR (k n : Nat) : List RestT := (List.range n).map fun i => ⟨((k + 2 * i : Nat) : Int), markT (k + 2 * i + 1)⟩

def sepF (a b : List UInt8) : List UInt8 := if !isWordB a || !isWordB b || !blt a b then [] else b.take (comm a b + 1)
theorem sepF_a {a b : List UInt8} (h : (!isWordB a) = true) : sepF a b = [] := by simp [sepF, h]
theorem sepF_b {a b : List UInt8} (h : (!isWordB b) = true) : sepF a b = [] := by simp [sepF, h]
theorem sepF_c {a b : List UInt8} (h : blt a b = false) : sepF a b = [] := by simp [sepF, h]
theorem sepF_y {a b : List UInt8} (h1 : (!isWordB a) = false) (h2 : (!isWordB b) = false) (h3 : blt a b = true) : sepF a b = b.take (comm a b + 1) := by simp [sepF, h1, h2, h3]
theorem comm_lt : ∀ {a b : List UInt8}, blt a b = true → comm a b < b.length
  | [], [], h => by simp [blt, Op.bytesLess] at h
  | [], b :: y, _ => by simp [comm]
  | a :: x, [], h => by simp [blt, Op.bytesLess] at h
  | a :: x, b :: y, h => by
    simp only [comm]
    split
    · rename_i he
      subst he
      have hl : ¬ a < a := by simp
      simp only [blt, Op.bytesLess, hl, decide_false, Bool.false_or, beq_self_eq_true, Bool.true_and] at h
      have := comm_lt (a := x) (b := y) h
      simpa using this
    · simp
end Go.Px
