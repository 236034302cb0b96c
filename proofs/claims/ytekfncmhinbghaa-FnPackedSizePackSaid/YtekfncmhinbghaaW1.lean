/- Own layer: part of this seat (W1). Plain theorems; no conditions. -/
import Derived.Test.YtekfncmhinbghaaW0
import Derived.Test.YtekfncmhinbghaaPx3
set_option linter.unusedVariables false
set_option linter.unusedSimpArgs false
/-! Plain laws of words: separators, packed words. -/
namespace Go.Px
theorem sepF_ne {a b : List UInt8} (h : sepF a b ≠ []) : isWordB a = true ∧ isWordB b = true ∧ blt a b = true ∧ sepF a b = b.take (comm a b + 1) := by
  unfold sepF at h ⊢
  split at h
  · exact absurd rfl h
  · rename_i hc
    rw [if_neg hc]
    simp at hc
    exact ⟨hc.1.1, hc.1.2, hc.2, rfl⟩
theorem sep_len {a b : List UInt8} (h : sepF a b ≠ []) : (sepF a b).length = comm a b + 1 := by
  obtain ⟨_, _, h3, h4⟩ := sepF_ne h
  have := comm_lt h3
  rw [h4]; simp; omega
theorem blt_cons (a b : UInt8) (x y : List UInt8) : blt (a :: x) (b :: y) = (decide (a < b) || (decide (a = b) && blt x y)) := by
  by_cases h1 : a < b
  · simp [blt, Op.bytesLess, h1]
  · by_cases h2 : a = b
    · subst h2; simp [blt, Op.bytesLess, h1]
    · simp [blt, Op.bytesLess, h1, h2]
theorem blt_take_comm : ∀ {a b : List UInt8}, blt a b = true → blt a (b.take (comm a b + 1)) = true
  | [], [], h => by simp [blt, Op.bytesLess] at h
  | [], b :: y, _ => by simp [comm, blt, Op.bytesLess]
  | a :: x, [], h => by simp [blt, Op.bytesLess] at h
  | a :: x, b :: y, h => by
    simp only [comm]
    rw [blt_cons] at h
    by_cases he : a = b
    · subst he
      simp at h
      simp [blt_cons, blt_take_comm h]
    · simp [he] at h
      simp [he, blt_cons, h]
theorem le_of_take : ∀ (b : List UInt8) (k : Nat), (blt (b.take k) b || decide (b.take k = b)) = true
  | [], k => by simp
  | b :: y, 0 => by simp [blt, Op.bytesLess]
  | b :: y, k + 1 => by
    have := le_of_take y k
    simp only [List.take_succ_cons, blt_cons]
    simp at this ⊢
    exact this
theorem take_comm : ∀ (a b : List UInt8), b.take (comm a b) = a.take (comm a b)
  | [], b => by simp [comm]
  | a :: x, [] => by simp [comm]
  | a :: x, b :: y => by
    simp only [comm]
    split
    · rename_i he; subst he; simp [take_comm x y]
    · simp
theorem sep_lt {a b : List UInt8} (h : sepF a b ≠ []) : blt a (sepF a b) = true := by
  obtain ⟨_, _, h3, h4⟩ := sepF_ne h
  rw [h4]; exact blt_take_comm h3
theorem sep_le {a b : List UInt8} (h : sepF a b ≠ []) : (blt (sepF a b) b || decide (sepF a b = b)) = true := by
  obtain ⟨_, _, _, h4⟩ := sepF_ne h
  rw [h4]; exact le_of_take _ _
theorem sep_sz {a b : List UInt8} (h : sepF a b ≠ []) : (sepF a b).length ≤ b.length := by
  obtain ⟨_, _, h3, h4⟩ := sepF_ne h
  rw [h4, List.length_take]; exact Nat.min_le_right _ _
theorem sep_head {a b : List UInt8} (h : sepF a b ≠ []) : b.take (sepF a b).length = sepF a b := by
  rw [sep_len h]; exact (sepF_ne h).2.2.2.symm
theorem sep_short {a b : List UInt8} (h : sepF a b ≠ []) : (blt ((sepF a b).take ((sepF a b).length - 1)) a || decide ((sepF a b).take ((sepF a b).length - 1) = a)) = true := by
  obtain ⟨_, _, _, h4⟩ := sepF_ne h
  have e : (sepF a b).take ((sepF a b).length - 1) = a.take (comm a b) := by
    rw [sep_len h, h4, List.take_take, show min (comm a b + 1 - 1) (comm a b + 1) = comm a b by omega, take_comm]
  rw [e]; exact le_of_take _ _
theorem sep_back {a b : List UInt8} (h : sepF a b ≠ []) : sepF b a = [] := sepF_c (blt_asym (sepF_ne h).2.2.1)
theorem sep_pos {a b : List UInt8} (h : sepF a b ≠ []) : 1 ≤ (sepF a b).length := by rw [sep_len h]; omega

/-! packed words -/
def packF (l : List (List UInt8)) : List RestT := if validW l then packW l else []
theorem packF_no {l : List (List UInt8)} (h : validW l = false) : packF l = [] := by simp [packF, h]
theorem packF_yes {l : List (List UInt8)} (h : validW l = true) : packF l = packW l := by simp [packF, h]
theorem packW_length (l : List (List UInt8)) : (packW l).length = l.length := packA_length _ _
theorem packA_take : ∀ (p : List UInt8) (l : List (List UInt8)) (k : Nat), (packA p l).take k = packA p (l.take k)
  | _, [], k => by simp [packA]
  | p, w :: r, 0 => by simp [packA]
  | p, w :: r, k + 1 => by simp [packA, packA_take w r k]
theorem packW_take2 (l : List (List UInt8)) (k : Nat) : (packW l).take k = packW (l.take k) := packA_take _ _ _
theorem packW_get {l : List (List UInt8)} {k : Nat} (hk : k < l.length) : (packW l)[k]'(by rw [packW_length]; exact hk) = restOf (prevW l k) l[k] := by
  have h1 := packW_take2 l (k + 1)
  rw [packW_take hk] at h1
  have h2 : ((packW l).take (k + 1))[k]? = some (restOf (prevW l k) l[k]) := by
    rw [h1, List.getElem?_append_right (by rw [packW_length, List.length_take]; omega), packW_length]
    simp [show min k l.length = k by omega]
  have h3 : ((packW l).take (k + 1))[k]? = some ((packW l)[k]'(by rw [packW_length]; exact hk)) := by
    rw [List.getElem?_take, if_pos (by omega), List.getElem?_eq_getElem]
  rw [h3] at h2
  exact Option.some.inj h2
theorem prevW_zero {l : List (List UInt8)} : prevW l 0 = [] := by simp [prevW]
theorem prevW_succ {l : List (List UInt8)} {k : Nat} (hk : k < l.length) : prevW l (k + 1) = l[k] := prevW_pos (by omega) hk
theorem rest_all (a b : RestT) : [decide (a.same = b.same), decide (a.tail = b.tail)].all id = decide (a = b) := by
  cases a; cases b; simp
theorem rest_ne (a b : RestT) : (!([decide (a.same = b.same), decide (a.tail = b.tail)].all id)) = decide (a ≠ b) := by
  rw [rest_all]; simp
def sumT : List RestT → Nat
  | [] => 0
  | r :: l => r.tail.length + sumT l
theorem sumT_snoc : ∀ (l : List RestT) (x : RestT), sumT (l ++ [x]) = sumT l + x.tail.length
  | [], x => by simp [sumT]
  | r :: l, x => by simp [sumT, sumT_snoc l x]; omega
theorem sumT_take {l : List RestT} {k : Nat} (hk : k < l.length) : sumT (l.take (k + 1)) = sumT (l.take k) + l[k].tail.length := by
  rw [List.take_succ_eq_append_getElem hk, sumT_snoc]
theorem sumT_take_le : ∀ (l : List RestT) (k : Nat), sumT (l.take k) ≤ sumT l
  | [], k => by simp [sumT]
  | r :: l, 0 => by simp [sumT]
  | r :: l, k + 1 => by simp [sumT]; exact sumT_take_le l k
theorem sumT_mem : ∀ {l : List RestT} {r : RestT}, r ∈ l → r.tail.length ≤ sumT l
  | x :: l, r, h => by
    rcases List.mem_cons.1 h with rfl | h
    · simp [sumT]
    · have := sumT_mem h
      simp [sumT]; omega
theorem valid_word {l : List (List UInt8)} (h : validW l = true) {w : List UInt8} (hw : w ∈ l) : 1 ≤ w.length ∧ w.length ≤ 8 := by
  have h1 : isWordB w = true := by
    simp [validW] at h
    exact h.1.2 w hw
  simp [isWordB] at h1
  omega
theorem valid_len {l : List (List UInt8)} (h : validW l = true) : l.length ≤ 8 := by
  simp [validW] at h
  omega
theorem rest_tail (p w : List UInt8) : (restOf p w).tail.length + comm p w = w.length := by
  have := comm_le p w
  simp [restOf]; omega
theorem sumT_packA : ∀ (p : List UInt8) (l : List (List UInt8)), sumT (packA p l) ≤ sumL l
  | _, [] => by simp [packA, sumT, sumL]
  | p, w :: r => by
    have := sumT_packA w r
    have := rest_tail p w
    simp [packA, sumT, sumL]; omega
theorem sumL_le : ∀ {l : List (List UInt8)} {n : Nat}, (∀ w ∈ l, w.length ≤ n) → sumL l ≤ l.length * n
  | [], n, _ => by simp [sumL]
  | w :: r, n, h => by
    have h1 := h w (by simp)
    have h2 := sumL_le (l := r) (n := n) (fun x hx => h x (by simp [hx]))
    simp [sumL, Nat.succ_mul]; omega
theorem valid_sum {l : List (List UInt8)} (h : validW l = true) : sumT (packW l) ≤ 64 := by
  have h1 := sumT_packA [] l
  have h2 := sumL_le (l := l) (n := 8) (fun w hw => (valid_word h hw).2)
  have h3 := valid_len h
  unfold packW; omega
/-- the packed size -/
def pszF (l : List (List UInt8)) : Int := if validW l then ((l.length + sumT (packW l) : Nat) : Int) else -1
theorem pszF_no {l : List (List UInt8)} (h : validW l = false) : pszF l = -1 := by simp [pszF, h]
theorem pszF_yes {l : List (List UInt8)} (h : validW l = true) : pszF l = ((l.length + sumT (packW l) : Nat) : Int) := by simp [pszF, h]
theorem byte_one {n : Nat} (h : n < 256) : [Value.int .u8 ((n : Nat) : Int)] = [UInt8.ofNat n].map byteV := by
  simp [byteV, Nat.mod_eq_of_lt h]
/-! marks -/
/-- the first i marked -/
def mS (k : Nat) (l : List (List UInt8)) (i : Nat) : List (List UInt8) := mkS k i ++ l.drop i
theorem mkS_length (k n : Nat) : (mkS k n).length = n := by simp [mkS]
theorem mkS_succ (k i : Nat) : mkS k (i + 1) = mkS k i ++ [markT (k + i)] := by simp [mkS, List.range_succ]
theorem mS_zero {k : Nat} {l : List (List UInt8)} : mS k l 0 = l := by simp [mS, mkS]
theorem mS_len {k i : Nat} {l : List (List UInt8)} (h : i ≤ l.length) : (mS k l i).length = l.length := by simp [mS, mkS_length]; omega
theorem mS_all {k i : Nat} {l : List (List UInt8)} (h : l.length ≤ i) (h' : i ≤ l.length) : mS k l i = mkS k l.length := by
  have : i = l.length := by omega
  subst this; simp [mS]
theorem spl_mid {l r : List Value} {a : Value} {vs : List Value} {k : Nat} (hk : l.length = k) (h1 : vs.length = 1) : spl (l ++ a :: r) k vs = l ++ vs ++ r := by
  subst hk
  simp [spl, h1]
theorem mS_step {k i : Nat} {l : List (List UInt8)} (h : i < l.length) : spl ((mS k l i).map S) (i * 1) [S (markT (k + i))] = (mS k l (i + 1)).map S := by
  unfold mS
  rw [List.drop_eq_getElem_cons h, List.map_append, List.map_cons, spl_mid (by simp [mkS_length]) rfl, mkS_succ]
  simp
/-- how the marks are told from what they are not -/
theorem mkS_get {k n i : Nat} (h : i < n) : (mkS k n)[i]'(by rw [mkS_length]; exact h) = markT (k + i) := by simp [mkS]
def mR (k : Nat) (l : List RestT) (i : Nat) : List RestT := mkR k i ++ l.drop i
def mRh (k : Nat) (l : List RestT) (i : Nat) : List RestT := mkR k i ++ (match l.drop i with | [] => [] | r :: t => ⟨((k + 2 * i : Nat) : Int), r.tail⟩ :: t)
theorem mkR_length (k n : Nat) : (mkR k n).length = n := by simp [mkR]
theorem mkR_succ (k i : Nat) : mkR k (i + 1) = mkR k i ++ [⟨((k + 2 * i : Nat) : Int), markT (k + 2 * i + 1)⟩] := by simp [mkR, List.range_succ]
theorem mR_zero {k : Nat} {l : List RestT} : mR k l 0 = l := by simp [mR, mkR]
theorem mR_len {k i : Nat} {l : List RestT} (h : i ≤ l.length) : (mR k l i).length = l.length := by simp [mR, mkR_length]; omega
theorem mRh_len {k i : Nat} {l : List RestT} (h : i < l.length) : (mRh k l i).length = l.length := by
  rw [mRh, List.drop_eq_getElem_cons h]; simp [mkR_length]; omega
theorem mR_all {k i : Nat} {l : List RestT} (h : l.length ≤ i) (h' : i ≤ l.length) : mR k l i = mkR k l.length := by
  have : i = l.length := by omega
  subst this; simp [mR]
theorem flat_enc_len (l : List RestT) : (l.flatMap encR).length = l.length * 2 := by induction l with
  | nil => rfl
  | cons a l ih => rw [List.flatMap_cons, List.length_append, ih]; simp [encR, Nat.succ_mul]; omega
theorem spl_mid2 {l r : List Value} {a b c d : Value} {k : Nat} (hk : l.length = k) : spl (l ++ a :: b :: r) k [c] = l ++ c :: b :: r := by
  subst hk; simp [spl]
theorem spl_mid3 {l r : List Value} {a b c d : Value} {k : Nat} (hk : l.length = k) : spl (l ++ a :: b :: r) (k + 1) [d] = l ++ a :: d :: r := by
  subst hk
  have e1 : (l ++ a :: b :: r).take (l.length + 1) = l ++ [a] := by
    rw [List.take_append, List.take_of_length_le (by omega)]; simp
  have e2 : (l ++ a :: b :: r).drop (l.length + 1 + 1) = r := by
    rw [List.drop_append, List.drop_of_length_le (by omega)]; simp [show l.length + 1 + 1 - l.length = 2 by omega]
  simp only [spl, e1, List.length_singleton, e2]
  simp
theorem mR_step1 {k i : Nat} {l : List RestT} (h : i < l.length) : spl ((mR k l i).flatMap encR) (i * 2) [I ((k + 2 * i : Nat) : Int)] = (mRh k l i).flatMap encR := by
  unfold mR mRh
  rw [List.drop_eq_getElem_cons h]
  simp only [List.flatMap_append, List.flatMap_cons, encR, List.cons_append, List.nil_append]
  rw [spl_mid2 (d := .bool true) (by rw [flat_enc_len, mkR_length])]
theorem mR_step2 {k i : Nat} {l : List RestT} (h : i < l.length) : spl ((mRh k l i).flatMap encR) (i * 2 + 1) [S (markT (k + 2 * i + 1))] = (mR k l (i + 1)).flatMap encR := by
  unfold mR mRh
  rw [List.drop_eq_getElem_cons h, mkR_succ]
  simp only [List.flatMap_append, List.flatMap_cons, encR, List.cons_append, List.nil_append]
  rw [spl_mid3 (c := .bool true) (by rw [flat_enc_len, mkR_length])]
  simp
theorem mkR_get {k n i : Nat} (h : i < n) : (mkR k n)[i]'(by rw [mkR_length]; exact h) = ⟨((k + 2 * i : Nat) : Int), markT (k + 2 * i + 1)⟩ := by simp [mkR]
theorem szF_neg {a : Int} {t : Nat} (h : szF a t < 0) : a < t ∨ a < 0 := by
  unfold szF at h
  split at h <;> omega
theorem szF_val {a : Int} {t : Nat} (h : ¬ szF a t < 0) : szF a t = a - t ∧ (t : Int) ≤ a := by
  unfold szF at h ⊢
  split at h
  · omega
  · rename_i h1
    rw [if_neg h1]; omega
theorem packF_len (l : List (List UInt8)) : (packF l).length ≤ l.length := by
  unfold packF
  split
  · rw [packW_length]; omega
  · simp
end Go.Px
