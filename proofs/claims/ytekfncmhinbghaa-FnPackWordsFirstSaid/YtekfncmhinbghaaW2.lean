/- Own layer: part of this seat (W2). Plain theorems; no conditions. -/
import Derived.Test.YtekfncmhinbghaaW1
set_option linter.unusedVariables false
set_option linter.unusedSimpArgs false
/-! Words: packed lists read back; what the laws on words say. -/
namespace Go.Px
def wordOf (p : List UInt8) (x : RestT) : List UInt8 := p.take x.same.toNat ++ x.tail
def okR (p : List UInt8) (x : RestT) : Bool := decide (0 ≤ x.same) && decide (x.same ≤ p.length) && decide (x.tail.length ≤ 8)
def build : List UInt8 → List RestT → Option (List (List UInt8))
  | _, [] => some []
  | p, x :: r => if okR p x then (build (wordOf p x) r).map (wordOf p x :: ·) else none
theorem build_snoc : ∀ (p : List UInt8) (l : List RestT) (x : RestT), build p (l ++ [x]) = (build p l).bind fun ws => if okR (lastW p ws) x then some (ws ++ [wordOf (lastW p ws) x]) else none
  | p, [], x => by
    simp only [List.nil_append, build, Option.bind_some, lastW]
    split <;> (rename_i h; simp [h])
  | p, y :: l, x => by
    simp only [List.cons_append, build]
    split
    · rw [build_snoc]
      cases build (wordOf p y) l with
      | none => rfl
      | some ws =>
        simp only [Option.bind_some, Option.map_some, lastW]
        split <;> (rename_i h; simp [h])
    · rfl
theorem build_none : ∀ (p : List UInt8) (l r : List RestT), build p l = none → build p (l ++ r) = none
  | p, [], r, h => by simp [build] at h
  | p, y :: l, r, h => by
    simp only [List.cons_append, build] at h ⊢
    split at h
    · rename_i hy
      rw [if_pos hy, build_none _ l r (by simpa using h)]; rfl
    · rename_i hy
      rw [if_neg hy]
theorem build_take : ∀ (p : List UInt8) (l : List RestT) (ws : List (List UInt8)) (k : Nat), build p l = some ws → build p (l.take k) = some (ws.take k)
  | p, l, ws, 0, _ => by simp [build]
  | p, [], ws, k + 1, h => by simp [build] at h; subst h; simp [build]
  | p, y :: l, ws, k + 1, h => by
    simp only [build, List.take_succ_cons] at h ⊢
    split at h
    · rename_i hy
      rw [if_pos hy]
      cases hb : build (wordOf p y) l with
      | none => rw [hb] at h; simp at h
      | some vs =>
        rw [hb] at h; simp at h; subst h
        rw [build_take _ l vs k hb]; rfl
    · cases h
theorem build_len : ∀ (p : List UInt8) (l : List RestT) (ws : List (List UInt8)), build p l = some ws → ws.length = l.length
  | p, [], ws, h => by simp [build] at h; subst h; rfl
  | p, y :: l, ws, h => by
    simp only [build] at h
    split at h
    · cases hb : build (wordOf p y) l with
      | none => rw [hb] at h; simp at h
      | some vs => rw [hb] at h; simp at h; subst h; simp [build_len _ _ _ hb]
    · cases h
def unpF (l : List RestT) : Option (List (List UInt8)) := if l.length ≤ 8 then (build [] l).bind fun ws => if validW ws && decide (packF ws = l) then some ws else none else none
theorem build_step {l : List RestT} {k : Nat} (hk : k < l.length) {ws : List (List UInt8)} (h : build [] (l.take k) = some ws) (ho : okR (lastW [] ws) l[k] = true) : build [] (l.take (k + 1)) = some (ws ++ [wordOf (lastW [] ws) l[k]]) := by
  rw [List.take_succ_eq_append_getElem hk, build_snoc, h]
  simp [ho]
theorem build_stop {l : List RestT} {k : Nat} (hk : k < l.length) {ws : List (List UInt8)} (h : build [] (l.take k) = some ws) (ho : okR (lastW [] ws) l[k] = false) : build [] l = none := by
  have h1 : build [] (l.take (k + 1)) = none := by
    rw [List.take_succ_eq_append_getElem hk, build_snoc, h]
    simp [ho]
  have := build_none _ _ (l.drop (k + 1)) h1
  rwa [List.take_append_drop] at this
theorem unp_big {l : List RestT} (h : 8 < l.length) : unpF l = none := by rw [unpF, if_neg (by omega)]
theorem unp_none {l : List RestT} (h : build [] l = none) : unpF l = none := by
  unfold unpF
  split
  · rw [h]; rfl
  · rfl
theorem unp_end {l : List RestT} {ws : List (List UInt8)} (h : build [] l = some ws) (hl : l.length ≤ 8) : unpF l = if validW ws && decide (packF ws = l) then some ws else none := by
  rw [unpF, if_pos hl, h]; rfl
theorem unp_yes {l : List RestT} {ws : List (List UInt8)} (h : unpF l = some ws) : validW ws = true ∧ packF ws = l := by
  unfold unpF at h
  split at h
  · cases hb : build [] l with
    | none => rw [hb] at h; simp at h
    | some vs =>
      rw [hb] at h
      simp only [Option.bind_some] at h
      split at h
      · rename_i hv
        cases h
        simpa using hv
      · cases h
  · cases h
theorem unp_mem {l : List RestT} : ∀ s ∈ (unpF l).getD [], s.length ≤ 8 := by
  intro s hs
  cases h : unpF l with
  | none => rw [h] at hs; simp at hs
  | some ws => rw [h] at hs; exact (valid_word (unp_yes h).1 hs).2
theorem unp_len {l : List RestT} : ((unpF l).getD []).length ≤ 8 := by
  cases h : unpF l with
  | none => simp
  | some ws => exact valid_len (unp_yes h).1
theorem packW_prefix {ws : List (List UInt8)} {k : Nat} {w : List UInt8} (hk : k < ws.length) (hw : ws[k] = w) : (packW ws)[k]'(by rw [packW_length]; exact hk) = restOf (lastW [] (ws.take k)) w := by
  rw [packW_get hk, last_take (by omega), hw]
/-- a common beginning of another length than told -/
theorem unp_differ {l : List RestT} {k : Nat} (hk : k < l.length) {ws : List (List UInt8)} (h : build [] (l.take k) = some ws) (ho : okR (lastW [] ws) l[k] = true) (hc : ((comm (lastW [] ws) (wordOf (lastW [] ws) l[k]) : Nat) : Int) ≠ l[k].same) : unpF l = none := by
  cases hu : unpF l with
  | none => rfl
  | some vs =>
    exfalso
    obtain ⟨hv, hp⟩ := unp_yes hu
    rw [packF_yes hv] at hp
    have hb : build [] l = some vs := by
      unfold unpF at hu
      split at hu
      · cases hb : build [] l with
        | none => rw [hb] at hu; simp at hu
        | some us =>
          rw [hb] at hu
          simp only [Option.bind_some] at hu
          split at hu
          · cases hu; rfl
          · cases hu
      · cases hu
    have h1 := build_take _ _ _ (k + 1) hb
    rw [build_step hk h ho] at h1
    have hl := build_len _ _ _ hb
    have hlw := build_len _ _ _ h
    have hkl : ws.length = k := by rw [hlw, List.length_take]; omega
    have h2 : ws = vs.take k := by
      have := build_take _ _ _ k hb
      rw [h] at this; exact Option.some.inj this
    have h3 : vs[k]'(by omega) = wordOf (lastW [] ws) l[k] := by
      have h4 := Option.some.inj h1
      rw [List.take_succ_eq_append_getElem (by omega), ← h2] at h4
      have := List.append_cancel_left h4
      simpa using this.symm
    have h5 := packW_prefix (ws := vs) (k := k) (by omega) h3
    rw [← h2] at h5
    have h6 : (packW vs)[k]'(by rw [packW_length]; omega) = l[k] := by simp only [hp]
    rw [h6] at h5
    exact hc (congrArg RestT.same h5).symm
/-- the beginnings are as told: packed again -/
theorem pack_step {l : List RestT} {k : Nat} (hk : k < l.length) {ws : List (List UInt8)} (hl : ws.length = k) (hp : packW ws = l.take k) (ho : okR (lastW [] ws) l[k] = true) (hc : ((comm (lastW [] ws) (wordOf (lastW [] ws) l[k]) : Nat) : Int) = l[k].same) : packW (ws ++ [wordOf (lastW [] ws) l[k]]) = l.take (k + 1) := by
  rw [List.take_succ_eq_append_getElem hk, ← hp]
  unfold packW
  rw [packA_snoc]
  congr 2
  have hn : comm (lastW [] ws) (wordOf (lastW [] ws) l[k]) = l[k].same.toNat := by omega
  unfold restOf
  rw [hc, hn]
  have ht : (wordOf (lastW [] ws) l[k]).drop l[k].same.toNat = l[k].tail := by
    unfold wordOf
    simp only [okR, Bool.and_eq_true, decide_eq_true_eq] at ho
    rw [List.drop_append_of_le_length (by simp; omega), List.drop_of_length_le (by simp; omega)]
    simp
  rw [ht]
theorem wordOf_len {p : List UInt8} {x : RestT} (h : okR p x = true) : (wordOf p x).length ≤ p.length + 8 := by
  simp only [okR, Bool.and_eq_true, decide_eq_true_eq] at h
  simp [wordOf]; omega
theorem comm_first {w : List UInt8} : comm [] w = 0 := comm_nil w
theorem first_same {x : RestT} (h : okR [] x = true) : x.same = 0 := by
  simp only [okR, Bool.and_eq_true, decide_eq_true_eq] at h
  simp at h; omega
theorem comm_told {W : List (List UInt8)} {x : RestT} {k : Nat} (hW : W.length = k) (ho : okR (lastW [] W) x = true) (h : 0 < k → ((comm (lastW [] W) (wordOf (lastW [] W) x) : Nat) : Int) = x.same) : ((comm (lastW [] W) (wordOf (lastW [] W) x) : Nat) : Int) = x.same := by
  rcases Nat.eq_zero_or_pos k with h0 | h0
  · have hW0 : W = [] := List.eq_nil_of_length_eq_zero (by omega)
    subst hW0
    have := first_same ho
    rw [show lastW [] [] = [] from rfl, comm_nil, this]; rfl
  · exact h h0
/-- packed and unpacked -/
theorem wordOf_rest (p w : List UInt8) : wordOf p (restOf p w) = w := by
  unfold wordOf restOf
  simp only [Int.toNat_natCast]
  rw [← take_comm, List.take_append_drop]
theorem build_pack : ∀ (p : List UInt8) (l : List (List UInt8)), (∀ w ∈ l, w.length ≤ 8) → build p (packA p l) = some l
  | p, [], _ => rfl
  | p, w :: l, h => by
    have h1 : okR p (restOf p w) = true := by
      have := (comm_le p w).1
      have hw := h w (by simp)
      simp [okR, restOf]; omega
    simp only [packA, build, if_pos h1, wordOf_rest, build_pack w l (fun v hv => h v (by simp [hv]))]
    rfl
theorem unp_pack {l : List (List UInt8)} (h : validW l = true) : unpF (packF l) = some l := by
  have hb : build [] (packF l) = some l := by rw [packF_yes h]; exact build_pack [] l (fun w hw => (valid_word h hw).2)
  rw [unp_end hb (by rw [packF_yes h, packW_length]; exact valid_len h), h]
  simp
theorem unp_other {l : List (List UInt8)} {k : Nat} (hk : k < (packF l).length) {x : RestT} (hx : x.same ≠ (packF l)[k].same) {ws : List (List UInt8)} (h : unpF ((packF l).set k x) = some ws) : ws ≠ l := by
  rintro rfl
  have h1 := (unp_yes h).2
  have h2 : (packF ws)[k]? = ((packF ws).set k x)[k]? := by rw [← h1]
  rw [List.getElem?_set_self hk, List.getElem?_eq_getElem hk] at h2
  exact hx (by rw [Option.some.inj h2])
/-! order -/
theorem blt_trans : ∀ {a b c : List UInt8}, blt a b = true → blt b c = true → blt a c = true
  | _, [], [], _, h => by simp [blt, Op.bytesLess] at h
  | _, _ :: _, [], _, h => by simp [blt, Op.bytesLess] at h
  | [], _, z :: c, _, _ => by simp [blt, Op.bytesLess]
  | x :: a, [], z :: c, h, _ => by simp [blt, Op.bytesLess] at h
  | x :: a, y :: b, z :: c, h1, h2 => by
    rw [blt_cons] at h1 h2 ⊢
    simp only [Bool.or_eq_true, Bool.and_eq_true, decide_eq_true_eq, UInt8.lt_iff_toNat_lt] at h1 h2 ⊢
    rcases h1 with h1 | ⟨rfl, h1⟩
    · rcases h2 with h2 | ⟨rfl, h2⟩
      · left; omega
      · left; exact h1
    · rcases h2 with h2 | ⟨rfl, h2⟩
      · left; exact h2
      · right; exact ⟨rfl, blt_trans h1 h2⟩
theorem pairs_lt {l : List (List UInt8)} (h : pairs l = true) : ∀ i j (hi : i < j) (hj : j < l.length), blt (l[i]'(by omega)) l[j] = true := by
  intro i j hij hj
  induction j with
  | zero => omega
  | succ j ih =>
    have h1 := (pairs_iff l).1 h j hj
    by_cases he : i = j
    · subst he; exact h1
    · exact blt_trans (ih (by omega) (by omega)) h1
theorem valid_iff {l : List (List UInt8)} : validW l = true ↔ l.length ≤ 8 ∧ (∀ w ∈ l, isWordB w = true) ∧ pairs l = true := by
  simp [validW, and_assoc]
theorem valid_take {l : List (List UInt8)} {k : Nat} (h : validW l = true) : validW (l.take k) = true := by
  obtain ⟨h1, h2, h3⟩ := valid_iff.1 h
  refine valid_iff.2 ⟨by simp; omega, fun w hw => h2 w (List.mem_of_mem_take hw), (pairs_iff _).2 fun i hi => ?_⟩
  simp only [List.getElem_take]
  exact (pairs_iff l).1 h3 i (by simp at hi; omega)
theorem valid_cut {l : List (List UInt8)} {k : Nat} (h : validW l = true) (hk : k < l.length) : validW (l.take k ++ l.drop (k + 1)) = true := by
  obtain ⟨h1, h2, h3⟩ := valid_iff.1 h
  refine valid_iff.2 ⟨by simp; omega, fun w hw => h2 w ?_, (pairs_iff _).2 fun i hi => ?_⟩
  · rcases List.mem_append.1 hw with hw | hw
    · exact List.mem_of_mem_take hw
    · exact List.mem_of_mem_drop hw
  · have hlen : (l.take k ++ l.drop (k + 1)).length = l.length - 1 := by simp; omega
    have hg : ∀ j (hj : j < (l.take k ++ l.drop (k + 1)).length), (l.take k ++ l.drop (k + 1))[j] = if hjk : j < k then l[j]'(by omega) else l[j + 1]'(by omega) := by
      intro j hj
      split
      · rename_i hjk
        rw [List.getElem_append_left (by simp; omega), List.getElem_take]
      · rename_i hjk
        rw [List.getElem_append_right (by simp; omega), List.getElem_drop]
        congr 1
        simp; omega
    rw [hg, hg]
    split <;> split
    · exact pairs_lt h3 _ _ (by omega) (by omega)
    · exact pairs_lt h3 _ _ (by omega) (by omega)
    · omega
    · exact pairs_lt h3 _ _ (by omega) (by omega)
theorem packF_tail {l : List (List UInt8)} (h : ∀ s ∈ l, s.length ≤ 8) : ∀ r ∈ packF l, r.tail.length ≤ 8 := by
  intro r hr
  unfold packF at hr
  split at hr
  · rename_i hv
    obtain ⟨k, hk, rfl⟩ := List.getElem_of_mem hr
    rw [packW_get (by rw [packW_length] at hk; exact hk)]
    have := rest_tail (prevW l k) (l[k]'(by rw [packW_length] at hk; exact hk))
    have := h _ (List.getElem_mem (by rw [packW_length] at hk; exact hk : k < l.length))
    omega
  · simp at hr
theorem of_tail {s t : List UInt8} (h : s ∈ [[], [97], [98], [122], [65], t]) (ht : t.length ≤ 8) : s.length ≤ 8 := by
  simp only [List.mem_cons, List.not_mem_nil, or_false] at h
  rcases h with rfl | rfl | rfl | rfl | rfl | rfl <;> first | exact ht | decide
theorem tails_set {l : List RestT} {k : Nat} {x : RestT} (h : ∀ r ∈ l, r.tail.length ≤ 8) (hx : x.tail.length ≤ 8) : ∀ r ∈ l.set k x, r.tail.length ≤ 8 := by
  intro r hr
  rcases List.mem_or_eq_of_mem_set hr with hr | rfl
  · exact h r hr
  · exact hx
theorem Rest_eq (a b : RestT) : [decide (a.same = b.same), decide (a.tail = b.tail)].all id = decide (a = b) := rest_all a b
theorem Rest_ne (a b : RestT) : (!([decide (a.same = b.same), decide (a.tail = b.tail)].all id)) = decide (a ≠ b) := rest_ne a b
instance : Inhabited RestT := ⟨⟨0, []⟩⟩
theorem valid_nil : validW [] = true := by rfl
theorem pack_nil : packF [] = [] := by rfl
theorem psz_nil : pszF [] = 0 := by rfl
theorem packF_take {l : List (List UInt8)} {k : Nat} (h : validW l = true) : (packF l).take k = packF (l.take k) := by
  rw [packF_yes h, packF_yes (valid_take h), packW_take2]
theorem packF_get {l : List (List UInt8)} {k : Nat} (h : validW l = true) (hk : k < l.length) (hk' : k < (packF l).length) : (packF l)[k] = restOf (prevW l k) l[k] := by
  simp only [packF_yes h]
  exact packW_get hk
theorem packF_length {l : List (List UInt8)} (h : validW l = true) : (packF l).length = l.length := by rw [packF_yes h, packW_length]
theorem packF_pos {l : List (List UInt8)} (h : 0 < (packF l).length) : validW l = true := by
  cases hv : validW l with
  | true => rfl
  | false => rw [packF_no hv] at h; simp at h
theorem tail_pos {l : List (List UInt8)} {k : Nat} (h : validW l = true) (hk : k < l.length) : 0 < (restOf (prevW l k) l[k]).tail.length := by
  have ht := rest_tail (prevW l k) l[k]
  have : comm (prevW l k) l[k] < l[k].length := by
    by_cases h0 : 0 < k
    · rw [prevW_pos h0 (by omega)]
      exact comm_lt (pairs_lt (valid_iff.1 h).2.2 _ _ (by omega) hk)
    · have : k = 0 := by omega
      subst this
      rw [prevW_zero, comm_nil]
      exact (valid_word h (List.getElem_mem hk)).1
  omega
theorem sumT_ge {l : List RestT} (h : ∀ r ∈ l, 0 < r.tail.length) : l.length ≤ sumT l := by
  induction l with
  | nil => simp [sumT]
  | cons r l ih =>
    have h1 := h r (by simp)
    have h2 := ih (fun x hx => h x (by simp [hx]))
    simp only [sumT, List.length_cons]; omega
theorem tails_pos {l : List (List UInt8)} (h : validW l = true) : ∀ r ∈ packW l, 0 < r.tail.length := by
  intro r hr
  obtain ⟨k, hk, rfl⟩ := List.getElem_of_mem hr
  rw [packW_get (by rw [packW_length] at hk; exact hk)]
  exact tail_pos h _
theorem sum_bounds {l : List (List UInt8)} (h : validW l = true) : l.length ≤ sumT (packW l) ∧ sumT (packW l) ≤ sumL l := by
  refine ⟨?_, sumT_packA [] l⟩
  have := sumT_ge (tails_pos h)
  rwa [packW_length] at this
theorem psz_more {l : List (List UInt8)} (h : validW l = true) (h0 : 0 < l.length) : sumT (packW l) = sumT (packW (l.take (l.length - 1))) + ((packW l)[l.length - 1]'(by rw [packW_length]; omega)).tail.length := by
  have hk : l.length - 1 < (packW l).length := by rw [packW_length]; omega
  have h1 := sumT_take hk
  rw [show l.length - 1 + 1 = (packW l).length by rw [packW_length]; omega, List.take_length, packW_take2] at h1
  exact h1
theorem unp_same {l : List (List UInt8)} {k : Nat} (hk : k < (packF l).length) {x : RestT} (hx : x.same ≠ (packF l)[k].same) (h : (unpF ((packF l).set k x)).isSome = true) : decide ((unpF ((packF l).set k x)).getD [] = l) = false := by
  cases hu : unpF ((packF l).set k x) with
  | none => rw [hu] at h; cases h
  | some ws => exact decide_eq_false (unp_other hk hx hu)
theorem packF_same {l : List (List UInt8)} {k : Nat} (hk : k < (packF l).length) : 0 ≤ (packF l)[k].same ∧ (packF l)[k].same ≤ 8 := by
  have hv := packF_pos (l := l) (by omega)
  have hl : k < l.length := by rw [packF_length hv] at hk; exact hk
  rw [packF_get hv hl]
  have := (comm_le (prevW l k) l[k]).2
  have := (valid_word hv (List.getElem_mem hl)).2
  simp only [restOf]; omega
theorem unp_some {l : List RestT} (h : (unpF l).isSome = true) : packF ((unpF l).getD []) = l ∧ validW ((unpF l).getD []) = true := by
  cases hu : unpF l with
  | none => rw [hu] at h; cases h
  | some ws => exact ⟨(unp_yes hu).2, (unp_yes hu).1⟩
theorem szT_le {l : List RestT} {a : Int} {n : Nat} (h : ¬ szF a (n + sumT l) < 0) : (n : Int) ≤ a ∧ (n : Int) + (sumT l : Int) ≤ a := by
  unfold szF at h
  split at h <;> omega
end Go.Px
