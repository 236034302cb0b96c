/- Own layer: part of this seat (G0). Plain theorems; no conditions. -/
import Derived.Test.YtfdlmimgooeioaaDoorR0
set_option linter.unusedVariables false
set_option linter.unusedSimpArgs false
/-! Logs: records on rows, as plain functions on lists. -/
namespace Go.Px
structure RecT where
  kind : Int
  key : Int
  val : Int
  deriving DecidableEq
instance : Inhabited RecT := ⟨⟨0, 0, 0⟩⟩
def encG (r : RecT) : List Value := [I r.kind, I r.key, I r.val]
theorem encG_len (r : RecT) : (encG r).length = 3 := rfl
theorem Record_eq (a b : RecT) : [decide (a.kind = b.kind), decide (a.key = b.key), decide (a.val = b.val)].all id = decide (a = b) := by
  cases a; cases b; simp [List.all, Bool.and_true, Bool.and_assoc]
theorem Record_ne (a b : RecT) : (!([decide (a.kind = b.kind), decide (a.key = b.key), decide (a.val = b.val)].all id)) = decide (a ≠ b) := by
  rw [Record_eq]; by_cases h : a = b <;> simp [h]
def isRecB (r : RecT) : Bool := if r.kind = 1 then isKeyB r.key && isValB r.val else if r.kind = 2 then isKeyB r.key && decide (r.val = 0) else if r.kind = 3 then decide (r.key = 0) && decide (r.val = 0) else false
theorem isRec_iff {r : RecT} : isRecB r = true ↔ 1 ≤ r.kind ∧ r.kind ≤ 3 ∧ 0 ≤ r.key ∧ r.key ≤ 99 ∧ -1000 ≤ r.val ∧ r.val ≤ 1000 ∧ (r.kind ≠ 1 → r.val = 0) ∧ (r.kind = 3 → r.key = 0) := by
  unfold isRecB isKeyB isValB
  constructor
  · intro h
    split at h
    · simp at h; omega
    · split at h
      · simp at h; omega
      · split at h
        · simp at h; omega
        · cases h
  · intro h
    split
    · simp; omega
    · split
      · simp; omega
      · rw [if_pos (by omega)]; simp; omega
def validL (l : List RecT) : Bool := decide (l.length ≤ 24) && l.all isRecB
theorem validL_iff {l : List RecT} : validL l = true ↔ l.length ≤ 24 ∧ ∀ r ∈ l, isRecB r = true := by simp [validL]
/-! the last mark -/
def lastMk : List RecT → Nat
  | [] => 0
  | r :: l => if 0 < lastMk l then lastMk l + 1 else if r.kind = 3 then 1 else 0
theorem lastMk_le : ∀ l : List RecT, lastMk l ≤ l.length
  | [] => by simp [lastMk]
  | r :: l => by
    have := lastMk_le l
    simp only [lastMk]
    split
    · simp; omega
    · split <;> simp
theorem lastMk_snoc : ∀ (l : List RecT) (r : RecT), lastMk (l ++ [r]) = if r.kind = 3 then l.length + 1 else lastMk l
  | [], r => by simp [lastMk]
  | x :: l, r => by
    simp only [List.cons_append, lastMk, lastMk_snoc l r]
    by_cases h : r.kind = 3
    · simp [h]
    · simp [h]
theorem lastMk_take {l : List RecT} {k : Nat} (hk : k < l.length) : lastMk (l.take (k + 1)) = if l[k].kind = 3 then k + 1 else lastMk (l.take k) := by
  rw [List.take_succ_eq_append_getElem hk, lastMk_snoc]
  simp only [List.length_take]
  rw [Nat.min_eq_left (by omega)]
theorem lastMk_none : ∀ {l : List RecT}, (∀ r ∈ l, r.kind ≠ 3) → lastMk l = 0
  | [], _ => rfl
  | x :: l, h => by
    simp only [lastMk, lastMk_none (l := l) (fun r hr => h r (by simp [hr]))]
    simp [h x (by simp)]
theorem lastMk_app {l m : List RecT} (h : ∀ r ∈ m, r.kind ≠ 3) : lastMk (l ++ m) = lastMk l := by
  induction l with
  | nil => simp [lastMk, lastMk_none h]
  | cons x l ih => simp only [List.cons_append, lastMk, ih]
theorem lastMk_at {l : List RecT} {k : Nat} (hk : k < l.length) (h3 : l[k].kind = 3) (h : ∀ r ∈ l.drop (k + 1), r.kind ≠ 3) : lastMk l = k + 1 := by
  have e : l = l.take (k + 1) ++ l.drop (k + 1) := (List.take_append_drop _ _).symm
  rw [e, lastMk_app h, lastMk_take hk, if_pos h3]
theorem lastMk_mark : ∀ {l : List RecT} (h : 0 < lastMk l), (l[lastMk l - 1]'(by have := lastMk_le l; omega)).kind = 3
  | [], h => by simp [lastMk] at h
  | x :: l, h => by
    by_cases h0 : 0 < lastMk l
    · have ih := lastMk_mark h0
      have e : lastMk (x :: l) - 1 = (lastMk l - 1) + 1 := by simp only [lastMk, if_pos h0]; omega
      simp only [e, List.getElem_cons_succ]
      exact ih
    · have h1 : lastMk (x :: l) = if x.kind = 3 then 1 else 0 := by simp only [lastMk, if_neg h0]
      by_cases hx : x.kind = 3
      · have e : lastMk (x :: l) - 1 = 0 := by rw [h1, if_pos hx]
        simp only [e, List.getElem_cons_zero]
        exact hx
      · rw [h1, if_neg hx] at h; omega
theorem lastMk_after : ∀ {l : List RecT}, ∀ r ∈ l.drop (lastMk l), r.kind ≠ 3
  | [], r, h => by simp at h
  | x :: l, r, h => by
    by_cases h0 : 0 < lastMk l
    · have e : lastMk (x :: l) = lastMk l + 1 := by simp only [lastMk, if_pos h0]
      rw [e, List.drop_succ_cons] at h
      exact lastMk_after r h
    · have hl : lastMk l = 0 := by omega
      have ih : ∀ r ∈ l, r.kind ≠ 3 := fun r hr => lastMk_after (l := l) r (by rw [hl]; simpa using hr)
      by_cases hx : x.kind = 3
      · have e : lastMk (x :: l) = 1 := by simp only [lastMk, if_neg h0, if_pos hx]
        rw [e] at h; exact ih r (by simpa using h)
      · have e : lastMk (x :: l) = 0 := by simp only [lastMk, if_neg h0, if_neg hx]
        rw [e] at h
        simp at h
        rcases h with rfl | h
        · exact hx
        · exact ih r h
def markP (l : List RecT) : List RecT := l.take (lastMk l - 1)
theorem markP_none {l : List RecT} (h : lastMk l = 0) : markP l = [] := by simp [markP, h]
theorem markP_at {l : List RecT} {k : Nat} (h : lastMk l = k + 1) : markP l = l.take k := by simp [markP, h]
theorem markP_mark (l : List RecT) : markP (l ++ [⟨3, 0, 0⟩]) = l := by
  rw [markP, lastMk_snoc]; simp
theorem markP_rec (l : List RecT) {r : RecT} (h : r.kind ≠ 3) : markP (l ++ [r]) = markP l := by
  rw [markP, lastMk_snoc, if_neg h, markP, List.take_append_of_le_length (by have := lastMk_le l; omega)]
theorem markP_len (l : List RecT) : (markP l).length ≤ l.length := by simp [markP]; omega
theorem markP_mem {l : List RecT} {r : RecT} (h : r ∈ markP l) : r ∈ l := List.mem_of_mem_take h
/-! records on a row -/
def applyR (l : List PairT) (r : RecT) : List PairT := if r.kind = 1 then putP l ⟨r.key, r.val⟩ else if r.kind = 2 then dropP l r.key else l
def runR (l : List PairT) (rs : List RecT) : List PairT := rs.foldl applyR l
theorem runR_snoc (l : List PairT) (rs : List RecT) (r : RecT) : runR l (rs ++ [r]) = applyR (runR l rs) r := by simp [runR]
theorem runR_take {l : List PairT} {rs : List RecT} {k : Nat} (hk : k < rs.length) : runR l (rs.take (k + 1)) = applyR (runR l (rs.take k)) rs[k] := by
  rw [List.take_succ_eq_append_getElem hk, runR_snoc]
theorem runR_app (l : List PairT) (a b : List RecT) : runR l (a ++ b) = runR (runR l a) b := by simp [runR]
theorem apply_mark {l : List PairT} {r : RecT} (h : r.kind = 3) : applyR l r = l := by simp [applyR, h]
theorem apply_asc {l : List PairT} {r : RecT} (h : asc (keysP l) = true) : asc (keysP (applyR l r)) = true := by
  unfold applyR
  split
  · exact put_keys_pair h _
  · split
    · exact drop_keys h _
    · exact h
theorem run_asc : ∀ (rs : List RecT) {l : List PairT}, asc (keysP l) = true → asc (keysP (runR l rs)) = true
  | [], _, h => h
  | _ :: rs, _, h => run_asc rs (apply_asc h)
theorem run_len : ∀ (rs : List RecT) (l : List PairT), (runR l rs).length ≤ l.length + rs.length
  | [], _ => by simp [runR]
  | r :: rs, l => by
    have h1 := run_len rs (applyR l r)
    have h2 : (applyR l r).length ≤ l.length + 1 := by
      unfold applyR
      split
      · exact put_len
      · split
        · have := drop_len (l := l) (k := r.key); omega
        · omega
    simp only [runR, List.foldl_cons, List.length_cons] at h1 ⊢
    omega
theorem apply_ok {l : List PairT} {r : RecT} (ha : asc (keysP l) = true) (hr : isRecB r = true) (h : ∀ p ∈ l, (0 ≤ p.key ∧ p.key ≤ 99) ∧ -1000 ≤ p.val ∧ p.val ≤ 1000) : ∀ p ∈ applyR l r, (0 ≤ p.key ∧ p.key ≤ 99) ∧ -1000 ≤ p.val ∧ p.val ≤ 1000 := by
  intro p hp
  have hr := isRec_iff.1 hr
  unfold applyR at hp
  split at hp
  · rcases (put_mem ha _ _).1 hp with rfl | hp
    · simp; omega
    · exact h p hp.1
  · split at hp
    · exact h p ((drop_mem ha _ _).1 hp).1
    · exact h p hp
theorem run_ok : ∀ (rs : List RecT) {l : List PairT}, asc (keysP l) = true → (∀ r ∈ rs, isRecB r = true) → (∀ p ∈ l, (0 ≤ p.key ∧ p.key ≤ 99) ∧ -1000 ≤ p.val ∧ p.val ≤ 1000) → ∀ p ∈ runR l rs, (0 ≤ p.key ∧ p.key ≤ 99) ∧ -1000 ≤ p.val ∧ p.val ≤ 1000
  | [], _, _, _, h => h
  | r :: rs, _, ha, hr, h => run_ok rs (apply_asc ha) (fun x hx => hr x (by simp [hx])) (apply_ok ha (hr r (by simp)) h)
theorem validR_parts {l : List PairT} : validR l = true ↔ l.length ≤ 24 ∧ asc (keysP l) = true ∧ ∀ p ∈ l, (0 ≤ p.key ∧ p.key ≤ 99) ∧ -1000 ≤ p.val ∧ p.val ≤ 1000 := by
  rw [validR_iff, validK_iff]
  constructor
  · rintro ⟨h1, h2, h3, h4⟩
    exact ⟨h1, h4, fun p hp => ⟨h3 _ (List.mem_map_of_mem hp), h2 p hp⟩⟩
  · rintro ⟨h1, h2, h3⟩
    exact ⟨h1, fun p hp => (h3 p hp).2, fun k hk => by obtain ⟨p, hp, rfl⟩ := List.mem_map.1 hk; exact (h3 p hp).1, h2⟩
theorem run_valid {l : List PairT} {rs : List RecT} (h : validR l = true) (hr : ∀ r ∈ rs, isRecB r = true) : validR (runR l rs) = decide ((runR l rs).length ≤ 24) := by
  obtain ⟨_, h2, h3⟩ := validR_parts.1 h
  by_cases hl : (runR l rs).length ≤ 24
  · rw [decide_eq_true hl]
    exact validR_parts.2 ⟨hl, run_asc rs h2, run_ok rs h2 hr h3⟩
  · rw [decide_eq_false hl]
    cases hv : validR (runR l rs) with
    | false => rfl
    | true => exact absurd (validR_parts.1 hv).1 hl
/-- what the last record on a key leaves -/
def lastT : List RecT → Int → Option (Option Int)
  | [], _ => none
  | r :: rs, k => match lastT rs k with
    | some o => some o
    | none => if r.kind = 1 ∧ r.key = k then some (some r.val) else if r.kind = 2 ∧ r.key = k then some none else none
theorem look_apply {l : List PairT} (h : asc (keysP l) = true) (r : RecT) (k : Int) : lookP (applyR l r) k = if r.kind = 1 ∧ r.key = k then some r.val else if r.kind = 2 ∧ r.key = k then none else lookP l k := by
  unfold applyR
  by_cases h1 : r.kind = 1
  · rw [if_pos h1, look_put h]
    by_cases hk : k = r.key
    · subst hk; simp [h1]
    · have : ¬ r.key = k := fun e => hk e.symm
      simp [hk, h1, this]
  · rw [if_neg h1]
    by_cases h2 : r.kind = 2
    · rw [if_pos h2, look_drop h]
      by_cases hk : k = r.key
      · subst hk; simp [h2]
      · have : ¬ r.key = k := fun e => hk e.symm
        simp [hk, h2, this]
    · rw [if_neg h2]; simp [h1, h2]
theorem look_run : ∀ (rs : List RecT) {l : List PairT} (_ : asc (keysP l) = true) (k : Int), lookP (runR l rs) k = match lastT rs k with | some o => o | none => lookP l k
  | [], _, _, _ => rfl
  | r :: rs, l, h, k => by
    have ih := look_run rs (apply_asc (r := r) h) k
    show lookP (runR (applyR l r) rs) k = _
    rw [ih]
    simp only [lastT]
    cases hl : lastT rs k with
    | some o => rfl
    | none =>
      rw [look_apply h]
      dsimp only
      split
      · rfl
      · split <;> rfl
theorem lastT_app : ∀ (a b : List RecT) (k : Int), lastT (a ++ b) k = match lastT b k with | some o => some o | none => lastT a k
  | [], b, k => by simp [lastT]; cases lastT b k <;> rfl
  | r :: a, b, k => by
    simp only [List.cons_append, lastT, lastT_app a b k]
    cases lastT b k with
    | some o => rfl
    | none => rfl
theorem run_same {l l' : List PairT} {rs rs' : List RecT} (h : asc (keysP l) = true) (h' : asc (keysP l') = true) (he : ∀ k, (match lastT rs k with | some o => o | none => lookP l k) = (match lastT rs' k with | some o => o | none => lookP l' k)) : runR l rs = runR l' rs' :=
  row_ext (run_asc rs h) (run_asc rs' h') fun k => by rw [look_run rs h, look_run rs' h', he]
theorem run_twice {l : List PairT} {rs : List RecT} (h : asc (keysP l) = true) : runR (runR l rs) rs = runR l rs :=
  row_ext (run_asc rs (run_asc rs h)) (run_asc rs h) fun k => by
    rw [look_run rs (run_asc rs h), look_run rs h]
    cases lastT rs k <;> rfl
/-! replaying -/
def repF (l : List PairT) (log : List RecT) : Option (List PairT) := if validR l && validL log && decide ((runR l (markP log)).length ≤ 24) then some (runR l (markP log)) else none
theorem rep_no {l : List PairT} {log : List RecT} (h : validR l = false ∨ validL log = false) : repF l log = none := by
  unfold repF
  rcases h with h | h <;> simp [h]
theorem rep_big {l : List PairT} {log : List RecT} (h : 24 < (runR l (markP log)).length) : repF l log = none := by
  unfold repF
  rw [decide_eq_false (by omega)]; simp
theorem rep_yes {l : List PairT} {log : List RecT} (h1 : validR l = true) (h2 : validL log = true) (h : (runR l (markP log)).length ≤ 24) : repF l log = some (runR l (markP log)) := by
  unfold repF
  rw [h1, h2, decide_eq_true h]; simp
theorem rep_some {l : List PairT} {log : List RecT} {o : List PairT} (h : repF l log = some o) : validR l = true ∧ validL log = true ∧ o = runR l (markP log) ∧ o.length ≤ 24 ∧ validR o = true := by
  unfold repF at h
  split at h
  · rename_i hc
    simp only [Bool.and_eq_true, decide_eq_true_eq] at hc
    cases h
    refine ⟨hc.1.1, hc.1.2, rfl, hc.2, ?_⟩
    rw [run_valid hc.1.1 (fun r hr => (validL_iff.1 hc.1.2).2 r (markP_mem hr)), decide_eq_true hc.2]
  · cases h
theorem run_marked (l : List PairT) (log : List RecT) : runR l (log.take (lastMk log)) = runR l (markP log) := by
  rcases Nat.eq_zero_or_pos (lastMk log) with h | h
  · simp [markP, h]
  · obtain ⟨n, hn⟩ : ∃ n, lastMk log = n + 1 := ⟨lastMk log - 1, by omega⟩
    have hm := lastMk_mark h
    have hlt : n < log.length := by have := lastMk_le log; omega
    have hm' : log[n].kind = 3 := by simpa only [hn, Nat.add_sub_cancel] using hm
    rw [hn, runR_take hlt, apply_mark hm', markP_at hn]
/-! short logs -/
def shL : List RecT → List RecT
  | [] => []
  | r :: l => if r.kind ≠ 3 ∧ l.all (fun s => decide (s.kind = 3) || decide (s.key ≠ r.key)) = true then r :: shL l else shL l
theorem shL_mark (l : List RecT) {m : RecT} (h : m.kind = 3) : shL (l ++ [m]) = shL l := by
  induction l with
  | nil => simp [shL, h]
  | cons r l ih => simp only [List.cons_append, shL, ih, List.all_append, List.all_cons, List.all_nil, h]; simp
theorem shL_sub : ∀ l : List RecT, (shL l).Sublist l
  | [] => .slnil
  | r :: l => by
    simp only [shL]
    split
    · exact (shL_sub l).cons_cons r
    · exact (shL_sub l).cons r
theorem shL_kind : ∀ (l : List RecT), ∀ r ∈ shL l, r.kind ≠ 3
  | [], r, h => by simp [shL] at h
  | x :: l, r, h => by
    simp only [shL] at h
    split at h
    · rename_i hx
      rcases List.mem_cons.1 h with rfl | h
      · exact hx.1
      · exact shL_kind l r h
    · exact shL_kind l r h
theorem shL_keys : ∀ (l : List RecT), (shL l).Pairwise fun a b => a.key ≠ b.key
  | [] => .nil
  | x :: l => by
    simp only [shL]
    split
    · rename_i hx
      refine List.pairwise_cons.2 ⟨fun r hr => ?_, shL_keys l⟩
      have := List.all_eq_true.1 hx.2 r ((shL_sub l).subset hr)
      simp only [Bool.or_eq_true, decide_eq_true_eq] at this
      rcases this with h | h
      · exact absurd h (shL_kind l r hr)
      · exact fun e => h e.symm
    · exact shL_keys l
theorem shL_idem : ∀ {l : List RecT}, (∀ r ∈ l, r.kind ≠ 3) → (l.Pairwise fun a b => a.key ≠ b.key) → shL l = l
  | [], _, _ => rfl
  | x :: l, h, hp => by
    have hp := List.pairwise_cons.1 hp
    simp only [shL]
    have hall : l.all (fun s => decide (s.kind = 3) || decide (s.key ≠ x.key)) = true := by
      rw [List.all_eq_true]
      intro r hr
      have := hp.1 r hr
      simp only [Bool.or_eq_true, decide_eq_true_eq]
      exact .inr fun e => this e.symm
    rw [if_pos ⟨h x (by simp), hall⟩, shL_idem (fun r hr => h r (by simp [hr])) hp.2]
theorem lastT_none {l : List RecT} {k : Int} (h : l.all (fun s => decide (s.kind = 3) || decide (s.key ≠ k)) = true) : lastT l k = none := by
  induction l with
  | nil => rfl
  | cons r l ih =>
    simp only [List.all_cons, Bool.and_eq_true, Bool.or_eq_true, decide_eq_true_eq] at h
    simp only [lastT, ih h.2]
    have h1 := h.1
    rw [if_neg (by omega), if_neg (by omega)]
theorem lastT_hit {l : List RecT} {k : Int} (hv : ∀ r ∈ l, isRecB r = true) (h : ¬ l.all (fun s => decide (s.kind = 3) || decide (s.key ≠ k)) = true) : lastT l k ≠ none := by
  induction l with
  | nil => simp at h
  | cons r l ih =>
    simp only [lastT]
    by_cases hl : l.all (fun s => decide (s.kind = 3) || decide (s.key ≠ k)) = true
    · rw [lastT_none hl]
      simp only [List.all_cons, hl, Bool.and_true, Bool.or_eq_true, decide_eq_true_eq] at h
      have hr := isRec_iff.1 (hv r (by simp))
      dsimp only
      split
      · simp
      · rw [if_pos (by omega)]; simp
    · have := ih (fun x hx => hv x (by simp [hx])) hl
      cases hc : lastT l k with
      | none => exact absurd hc this
      | some o => simp
theorem lastT_sh : ∀ {l : List RecT}, (∀ r ∈ l, isRecB r = true) → ∀ k, lastT (shL l) k = lastT l k
  | [], _, _ => rfl
  | r :: l, hv, k => by
    have ih := lastT_sh (l := l) (fun x hx => hv x (by simp [hx])) k
    simp only [shL]
    split
    · simp only [lastT, ih]
    · rename_i hc
      rw [ih]
      simp only [lastT]
      cases hl : lastT l k with
      | some o => rfl
      | none =>
        dsimp only
        by_cases hk : r.key = k
        · have hr := isRec_iff.1 (hv r (by simp))
          by_cases h3 : r.kind = 3
          · rw [if_neg (by omega), if_neg (by omega)]
          · exfalso
            have : ¬ l.all (fun s => decide (s.kind = 3) || decide (s.key ≠ r.key)) = true := fun ha => hc ⟨h3, ha⟩
            exact lastT_hit (fun x hx => hv x (by simp [hx])) this (hk ▸ hl)
        · rw [if_neg (by omega), if_neg (by omega)]
def shF (log : List RecT) : List RecT := if validL log then shL (markP log) else []
theorem shF_no {log : List RecT} (h : validL log = false) : shF log = [] := by simp [shF, h]
theorem shF_yes {log : List RecT} (h : validL log = true) : shF log = shL (markP log) := by simp [shF, h]
theorem shF_len {log : List RecT} : (shF log).length ≤ log.length := by
  unfold shF
  split
  · have := (shL_sub (markP log)).length_le
    have := markP_len log
    omega
  · simp
theorem shF_valid {log : List RecT} : ∀ r ∈ shF log, isRecB r = true := by
  intro r hr
  unfold shF at hr
  split at hr
  · rename_i h
    exact (validL_iff.1 h).2 r (markP_mem ((shL_sub _).subset hr))
  · simp at hr
theorem sh_take (log : List RecT) : shL (log.take (lastMk log)) = shL (markP log) := by
  rcases Nat.eq_zero_or_pos (lastMk log) with h | h
  · simp [markP, h]
  · obtain ⟨n, hn⟩ : ∃ n, lastMk log = n + 1 := ⟨lastMk log - 1, by omega⟩
    have hm := lastMk_mark h
    have hlt : n < log.length := by have := lastMk_le log; omega
    have hm' : log[n].kind = 3 := by simpa only [hn, Nat.add_sub_cancel] using hm
    rw [hn, List.take_succ_eq_append_getElem hlt, shL_mark _ hm', markP_at hn]
/-- the place of the last record on a key -/
def lastIxA : Nat → Nat → List RecT → Int → Nat
  | _, acc, [], _ => acc
  | i, acc, r :: l, k => lastIxA (i + 1) (if r.kind ≠ 3 ∧ r.key = k then i else acc) l k
def lastIx (l : List RecT) (k : Int) : Nat := lastIxA 0 0 l k
theorem lastIxA_snoc : ∀ (l : List RecT) (i acc : Nat) (r : RecT) (k : Int), lastIxA i acc (l ++ [r]) k = if r.kind ≠ 3 ∧ r.key = k then i + l.length else lastIxA i acc l k
  | [], i, acc, r, k => by simp [lastIxA]
  | x :: l, i, acc, r, k => by
    simp only [List.cons_append, lastIxA, lastIxA_snoc l]
    split
    · simp; omega
    · rfl
theorem lastIxA_no : ∀ (l : List RecT) (i acc : Nat) (k : Int), l.all (fun s => decide (s.kind = 3) || decide (s.key ≠ k)) = true → lastIxA i acc l k = acc
  | [], _, _, _, _ => rfl
  | x :: l, i, acc, k, h => by
    simp only [List.all_cons, Bool.and_eq_true, Bool.or_eq_true, decide_eq_true_eq] at h
    simp only [lastIxA]
    rw [if_neg (by intro hc; rcases h.1 with h1 | h1; exact hc.1 h1; exact h1 hc.2)]
    exact lastIxA_no l _ _ _ h.2
theorem lastIxA_yes : ∀ (l : List RecT) (i acc : Nat) (k : Int), ¬ l.all (fun s => decide (s.kind = 3) || decide (s.key ≠ k)) = true → i ≤ lastIxA i acc l k
  | [], _, _, _, h => by simp at h
  | x :: l, i, acc, k, h => by
    simp only [lastIxA]
    by_cases hl : l.all (fun s => decide (s.kind = 3) || decide (s.key ≠ k)) = true
    · rw [lastIxA_no _ _ _ _ hl]
      simp only [List.all_cons, hl, Bool.and_true, Bool.or_eq_true, decide_eq_true_eq] at h
      rw [if_pos (by omega)]
      exact Nat.le_refl _
    · have := lastIxA_yes l (i + 1) (if x.kind ≠ 3 ∧ x.key = k then i else acc) k hl
      omega
theorem lastIxA_app : ∀ (a b : List RecT) (i acc : Nat) (k : Int), lastIxA i acc (a ++ b) k = lastIxA (i + a.length) (lastIxA i acc a k) b k
  | [], b, i, acc, k => by simp [lastIxA]
  | x :: a, b, i, acc, k => by
    simp only [List.cons_append, lastIxA, lastIxA_app a b, List.length_cons]
    congr 1; omega
theorem lastIx_step {l : List RecT} {i : Nat} (hi : i < l.length) (k : Int) : lastIx (l.take (i + 1)) k = if l[i].kind ≠ 3 ∧ l[i].key = k then i else lastIx (l.take i) k := by
  unfold lastIx
  rw [List.take_succ_eq_append_getElem hi, lastIxA_snoc]
  simp only [List.length_take]
  rw [Nat.min_eq_left (by omega), Nat.zero_add]
theorem lastIx_iff {l : List RecT} {i : Nat} (hi : i < l.length) (h3 : l[i].kind ≠ 3) : lastIx l l[i].key = i ↔ (l.drop (i + 1)).all (fun s => decide (s.kind = 3) || decide (s.key ≠ l[i].key)) = true := by
  have e : l = l.take i ++ l[i] :: l.drop (i + 1) := by rw [← List.drop_eq_getElem_cons hi, List.take_append_drop]
  have e1 : lastIx l l[i].key = lastIxA (i + 1) i (l.drop (i + 1)) l[i].key := by
    unfold lastIx
    conv => lhs; arg 3; rw [e]
    rw [lastIxA_app]
    simp only [lastIxA, List.length_take, Nat.min_eq_left (Nat.le_of_lt hi), Nat.zero_add]
    rw [if_pos (by simp [h3])]
  rw [e1]
  constructor
  · intro h
    by_cases hc : (l.drop (i + 1)).all (fun s => decide (s.kind = 3) || decide (s.key ≠ l[i].key)) = true
    · exact hc
    · have := lastIxA_yes _ (i + 1) i _ hc
      omega
  · exact lastIxA_no _ _ _ _
theorem lastIx_le : ∀ (l : List RecT) (i acc : Nat) (k : Int), acc ≤ i → lastIxA i acc l k ≤ i + l.length
  | [], _, _, _, h => by simpa [lastIxA] using h
  | x :: l, i, acc, k, h => by
    have := lastIx_le l (i + 1) (if x.kind ≠ 3 ∧ x.key = k then i else acc) k (by split <;> omega)
    simp only [lastIxA, List.length_cons]; omega
/-- the table of last places -/
def lastTab (l : List RecT) : List Int := (List.range 100).map fun k => (lastIx l (k : Nat) : Int)
theorem lastTab_len (l : List RecT) : (lastTab l).length = 100 := by simp [lastTab]
theorem lastTab_nil : List.replicate 100 (0 : Int) = lastTab [] := by decide
theorem lastTab_get {l : List RecT} {k : Nat} (hk : k < 100) : (lastTab l)[k]'(by rw [lastTab_len]; exact hk) = (lastIx l (k : Nat) : Int) := by simp [lastTab]
theorem lastTab_skip {l : List RecT} {i : Nat} (hi : i < l.length) (h3 : l[i].kind = 3) : lastTab (l.take (i + 1)) = lastTab (l.take i) := by
  unfold lastTab
  congr 1
  funext k
  rw [lastIx_step hi, if_neg (fun h => h.1 h3)]
theorem lastTab_set {l : List RecT} {i : Nat} (hi : i < l.length) (h3 : l[i].kind ≠ 3) {n : Nat} (hn : l[i].key = (n : Int)) : (lastTab (l.take i)).set n (i : Int) = lastTab (l.take (i + 1)) := by
  apply List.ext_getElem?
  intro k
  rw [List.getElem?_set]
  unfold lastTab
  by_cases hk : k < 100
  · simp only [List.length_map, List.length_range, List.getElem?_map, List.getElem?_range hk, Option.map_some]
    rw [lastIx_step hi]
    by_cases hnk : n = k
    · subst hnk
      simp [hk, hn, h3]
    · have h1 : ¬ l[i].key = ((k : Nat) : Int) := by rw [hn]; omega
      simp [hnk, h1]
  · have h1 : ((List.range 100).map fun k => (lastIx (l.take i) (k : Nat) : Int))[k]? = none := by simp; omega
    have h2 : ((List.range 100).map fun k => (lastIx (l.take (i + 1)) (k : Nat) : Int))[k]? = none := by simp; omega
    rw [h1, h2]
    split
    · simp; omega
    · rfl
/-! logs from row to row -/
def lbK (a b : List PairT) (k : Int) : List RecT := match lookP a k, lookP b k with
  | some _, none => [⟨2, k, 0⟩]
  | none, some y => [⟨1, k, y⟩]
  | some x, some y => if x ≠ y then [⟨1, k, y⟩] else []
  | none, none => []
def lbU (a b : List PairT) (n : Nat) : List RecT := (List.range n).flatMap fun k => lbK a b (k : Nat)
theorem lbU_succ (a b : List PairT) (n : Nat) : lbU a b (n + 1) = lbU a b n ++ lbK a b (n : Nat) := by simp [lbU, List.range_succ]
theorem lbU_zero (a b : List PairT) : lbU a b 0 = [] := rfl
theorem lbU_skip {a b : List PairT} {n : Nat} : ∀ {m : Nat}, n ≤ m → (∀ k, n ≤ k → k < m → lbK a b (k : Nat) = []) → lbU a b m = lbU a b n := by
  intro m
  induction m with
  | zero => intro h _; have : n = 0 := by omega
            rw [this]
  | succ m ih =>
    intro h hk
    by_cases he : n = m + 1
    · rw [he]
    · rw [lbU_succ, hk m (by omega) (by omega), List.append_nil, ih (by omega) (fun k h1 h2 => hk k h1 (by omega))]
def lbF (a b : List PairT) : List RecT := if validR a && validR b && decide ((lbU a b 100).length ≤ 24) then lbU a b 100 else []
theorem plc_lt {l : List PairT} {k : Int} {i : Nat} (h : i < plc l k) (hi : i < l.length) : l[i].key < k := by
  have := below_lt (l := keysP l) h
  simpa only [List.getElem_map] using this
theorem plc_ge {l : List PairT} (ha : asc (keysP l) = true) {k : Int} {i : Nat} (h : plc l k ≤ i) (hi : i < l.length) : k ≤ l[i].key := by
  have := below_ge (l := keysP l) ha h (by simpa using hi)
  simpa only [List.getElem_map] using this
theorem plc_eq {l : List PairT} {k : Int} {n : Nat} (hn : n ≤ l.length) (h1 : ∀ i (hi : i < n), (l[i]'(by omega)).key < k) (h2 : ∀ h : n < l.length, k ≤ l[n].key) : plc l k = n :=
  below_eq (by simpa using hn) (fun i hi => by simpa only [List.getElem_map] using h1 i hi) (fun h => by simpa only [List.getElem_map] using h2 (by simpa using h))
theorem plc_next {l : List PairT} (ha : asc (keysP l) = true) {lo : Int} (h : plc l lo < l.length) : plc l (l[plc l lo].key + 1) = plc l lo + 1 := by
  refine plc_eq (by omega) (fun i hi => ?_) (fun hlt => ?_)
  · rcases Nat.lt_or_ge i (plc l lo) with h1 | h1
    · have := plc_lt h1 (by omega)
      have := plc_ge ha (Nat.le_refl (plc l lo)) h
      omega
    · have : i = plc l lo := by omega
      subst this; omega
  · have := asc_lt ha (plc l lo) (plc l lo + 1) (by omega) (by simpa using hlt)
    simp only [List.getElem_map] at this
    omega
theorem plc_keep {l : List PairT} {lo k : Int} (hk : lo ≤ k) (h : ∀ h : plc l lo < l.length, k < l[plc l lo].key) : plc l (k + 1) = plc l lo := by
  refine plc_eq (plc_le _ _) (fun i hi => ?_) (fun hlt => ?_)
  · have := plc_lt hi (by have := plc_le l lo; omega)
    omega
  · have := h hlt; omega
theorem look_ge {l : List PairT} (ha : asc (keysP l) = true) {lo k : Int} (h0 : lo ≤ k) (h : ∀ h : plc l lo < l.length, k < l[plc l lo].key) : lookP l k = none := by
  rw [look_none]
  intro p hp he
  obtain ⟨i, hi, rfl⟩ := List.getElem_of_mem hp
  rcases Nat.lt_or_ge i (plc l lo) with h1 | h1
  · have := plc_lt h1 hi; omega
  · have h2 := h (by omega)
    rcases Nat.eq_or_lt_of_le h1 with h3 | h3
    · subst h3; omega
    · have := asc_lt ha (plc l lo) i h3 (by simpa using hi)
      simp only [List.getElem_map] at this
      omega
theorem look_at {l : List PairT} (ha : asc (keysP l) = true) {i : Nat} (hi : i < l.length) : lookP l l[i].key = some l[i].val := (look_some ha).2 (List.getElem_mem hi)
theorem lastT_lbK (a b : List PairT) (m k : Int) : lastT (lbK a b m) k = if m = k then (if lookP a k = lookP b k then none else some (lookP b k)) else none := by
  unfold lbK
  by_cases hmk : m = k
  · subst hmk
    cases h1 : lookP a m <;> cases h2 : lookP b m <;> simp [lastT]
    split <;> simp_all [lastT]
  · rw [if_neg hmk]
    cases h1 : lookP a m <;> cases h2 : lookP b m <;> simp [lastT, hmk]
    split <;> simp [lastT, hmk]
theorem lastT_lbU (a b : List PairT) (k : Int) : ∀ n : Nat, lastT (lbU a b n) k = if 0 ≤ k ∧ k < n then (if lookP a k = lookP b k then none else some (lookP b k)) else none
  | 0 => by rw [if_neg (by omega)]; rfl
  | n + 1 => by
    rw [lbU_succ, lastT_app, lastT_lbK, lastT_lbU a b k n]
    by_cases h : (n : Int) = k
    · subst h
      simp only [if_true]
      by_cases hl : lookP a (n : Nat) = lookP b (n : Nat)
      · simp [hl]
      · simp only [hl, if_false]
        rw [if_pos (by omega)]
    · rw [if_neg h]
      dsimp only
      by_cases h2 : 0 ≤ k ∧ k < n
      · rw [if_pos h2, if_pos (show 0 ≤ k ∧ k < ((n + 1 : Nat) : Int) by omega)]
      · rw [if_neg h2, if_neg (show ¬ (0 ≤ k ∧ k < ((n + 1 : Nat) : Int)) by omega)]
theorem look_out {l : List PairT} (h : ∀ p ∈ l, 0 ≤ p.key ∧ p.key ≤ 99) {k : Int} (hk : ¬ (0 ≤ k ∧ k < 100)) : lookP l k = none := by
  rw [look_none]
  intro p hp he
  have := h p hp
  omega
theorem lb_run {a b : List PairT} (ha : validR a = true) (hb : validR b = true) : runR a (lbU a b 100) = b := by
  obtain ⟨_, h2, h3⟩ := validR_parts.1 ha
  obtain ⟨_, h5, h6⟩ := validR_parts.1 hb
  refine row_ext (run_asc _ h2) h5 fun k => ?_
  rw [look_run _ h2, lastT_lbU]
  by_cases hk : 0 ≤ k ∧ k < ((100 : Nat) : Int)
  · rw [if_pos hk]
    by_cases he : lookP a k = lookP b k
    · rw [if_pos he]; exact he
    · rw [if_neg he]
  · rw [if_neg hk]
    dsimp only
    rw [look_out (fun p hp => (h3 p hp).1) hk, look_out (fun p hp => (h6 p hp).1) hk]
theorem lbK_rec {a b : List PairT} (hb : ∀ p ∈ b, -1000 ≤ p.val ∧ p.val ≤ 1000) (h5 : asc (keysP b) = true) {k : Int} (hk : 0 ≤ k ∧ k ≤ 99) : ∀ r ∈ lbK a b k, isRecB r = true ∧ r.key = k ∧ r.kind ≠ 3 := by
  intro r hr
  unfold lbK at hr
  have hv : ∀ y, lookP b k = some y → -1000 ≤ y ∧ y ≤ 1000 := fun y hy => hb ⟨k, y⟩ ((look_some h5).1 hy)
  split at hr
  · simp at hr; subst hr; refine ⟨isRec_iff.2 ?_, rfl, by simp⟩; simp; omega
  · rename_i y _ hy
    simp at hr; subst hr; have := hv y hy; refine ⟨isRec_iff.2 ?_, rfl, by simp⟩; simp; omega
  · rename_i x y _ hy
    split at hr
    · simp at hr; subst hr; have := hv y hy; refine ⟨isRec_iff.2 ?_, rfl, by simp⟩; simp; omega
    · simp at hr
  · simp at hr
theorem lbU_rec {a b : List PairT} (hb : validR b = true) {n : Nat} (hn : n ≤ 100) : ∀ r ∈ lbU a b n, isRecB r = true ∧ (0 ≤ r.key ∧ r.key < n) ∧ r.kind ≠ 3 := by
  obtain ⟨_, h5, h6⟩ := validR_parts.1 hb
  intro r hr
  obtain ⟨k, hk, hr⟩ := List.mem_flatMap.1 hr
  have hk' := List.mem_range.1 hk
  obtain ⟨h1, h2, h3⟩ := lbK_rec (fun p hp => (h6 p hp).2) h5 (k := (k : Nat)) (by omega) r hr
  exact ⟨h1, by omega, h3⟩
theorem lbU_keys {a b : List PairT} (hb : validR b = true) : ∀ n : Nat, n ≤ 100 → (lbU a b n).Pairwise fun x y => x.key ≠ y.key
  | 0, _ => .nil
  | n + 1, hn => by
    rw [lbU_succ]
    obtain ⟨_, h5, h6⟩ := validR_parts.1 hb
    refine List.pairwise_append.2 ⟨lbU_keys hb n (by omega), ?_, fun x hx y hy => ?_⟩
    · unfold lbK
      split <;> try split
      all_goals simp
    · have h1 := (lbU_rec hb (by omega : n ≤ 100) x hx).2.1
      have h2 := (lbK_rec (fun p hp => (h6 p hp).2) h5 (k := (n : Nat)) (by omega) y hy).2.1
      omega
theorem lb_same (a : List PairT) : ∀ n, lbU a a n = []
  | 0 => rfl
  | n + 1 => by
    rw [lbU_succ, lb_same a n]
    unfold lbK
    cases lookP a (n : Nat) <;> simp
theorem plc_succ {l : List PairT} (ha : asc (keysP l) = true) (k : Int) : plc l (k + 1) = plc l k + (if (lookP l k).isSome then 1 else 0) := by
  by_cases h : plc l k < l.length
  · by_cases he : l[plc l k].key = k
    · have h1 := plc_next ha h
      rw [he] at h1
      have h2 := look_at ha h
      rw [he] at h2
      rw [h1, h2]; simp
    · have hge := plc_ge ha (Nat.le_refl (plc l k)) h
      rw [plc_keep (Int.le_refl k) (fun _ => by omega), look_ge ha (Int.le_refl k) (fun _ => by omega)]
      simp
  · rw [plc_keep (Int.le_refl k) (fun hh => absurd hh h), look_ge ha (Int.le_refl k) (fun hh => absurd hh h)]
    simp
theorem lb_nil_left {a : List PairT} (ha : asc (keysP a) = true) (h0 : ∀ p ∈ a, 0 ≤ p.key) : ∀ n : Nat, (lbU [] a n).length = plc a (n : Nat)
  | 0 => by
    have : plc a ((0 : Nat) : Int) = 0 := plc_eq (by omega) (fun i hi => by omega) (fun h => by have := h0 _ (List.getElem_mem h); simpa using this)
    rw [this]; rfl
  | n + 1 => by
    rw [lbU_succ, List.length_append, lb_nil_left ha h0 n]
    have := plc_succ ha (n : Nat)
    push_cast at this ⊢
    rw [this]
    congr 1
    unfold lbK
    have : lookP ([] : List PairT) (n : Nat) = none := rfl
    rw [this]
    cases lookP a (n : Nat) <;> simp
theorem lb_nil_right {a : List PairT} (ha : asc (keysP a) = true) (h0 : ∀ p ∈ a, 0 ≤ p.key) : ∀ n : Nat, (lbU a [] n).length = plc a (n : Nat)
  | 0 => by
    have : plc a ((0 : Nat) : Int) = 0 := plc_eq (by omega) (fun i hi => by omega) (fun h => by have := h0 _ (List.getElem_mem h); simpa using this)
    rw [this]; rfl
  | n + 1 => by
    rw [lbU_succ, List.length_append, lb_nil_right ha h0 n]
    have := plc_succ ha (n : Nat)
    push_cast at this ⊢
    rw [this]
    congr 1
    unfold lbK
    have : lookP ([] : List PairT) (n : Nat) = none := rfl
    rw [this]
    cases lookP a (n : Nat) <;> simp
theorem plc_all {a : List PairT} (h : ∀ p ∈ a, p.key ≤ 99) : plc a 100 = a.length :=
  plc_eq (Nat.le_refl _) (fun i hi => by have := h _ (List.getElem_mem hi); omega) (fun h => absurd h (by omega))
theorem validR_nil : validR [] = true := by decide
end Go.Px
namespace Go.Px
theorem validL_no {l : List RecT} {k : Nat} (hk : k < l.length) (h : isRecB l[k] = false) : validL l = false := by rw [validL, all_fail hk h]; simp
theorem lb_A {a b : List PairT} (ha : validR a = true) (hb : validR b = true) {lo i j : Nat} (hi : i = plc a (lo : Nat)) (hj : j = plc b (lo : Nat)) (hia : i < a.length) (h : ∀ h : j < b.length, a[i].key < b[j].key) :
    lbU a b (a[i].key.toNat + 1) = lbU a b lo ++ [⟨2, a[i].key, 0⟩] ∧ i + 1 = plc a ((a[i].key.toNat + 1 : Nat) : Int) ∧ j = plc b ((a[i].key.toNat + 1 : Nat) : Int) ∧ a[i].key.toNat + 1 ≤ 100 := by
  obtain ⟨_, h2, h3⟩ := validR_parts.1 ha
  obtain ⟨_, h5, h6⟩ := validR_parts.1 hb
  subst hi hj
  have hk := (h3 _ (List.getElem_mem hia)).1
  have hlo := plc_ge h2 (Nat.le_refl (plc a (lo : Nat))) hia
  have hkk : (a[plc a (lo : Nat)].key.toNat : Int) = a[plc a (lo : Nat)].key := by omega
  have hc1 : ((a[plc a (lo : Nat)].key.toNat + 1 : Nat) : Int) = a[plc a (lo : Nat)].key + 1 := by omega
  have hla : lookP a a[plc a (lo : Nat)].key = some a[plc a (lo : Nat)].val := look_at h2 hia
  have hlb : lookP b a[plc a (lo : Nat)].key = none := look_ge h5 hlo h
  refine ⟨?_, ?_, ?_, by omega⟩
  · rw [lbU_succ, lbU_skip (n := lo) (m := a[plc a (lo : Nat)].key.toNat) (by omega)]
    · rw [hkk]; congr 1; unfold lbK; rw [hla, hlb]
    · intro m h7 h8
      unfold lbK
      rw [look_ge (l := a) h2 (lo := (lo : Nat)) (by omega) (fun _ => by omega), look_ge (l := b) h5 (lo := (lo : Nat)) (by omega) (fun hh => by have := h hh; omega)]
  · rw [hc1, plc_next h2 hia]
  · rw [hc1, plc_keep hlo h]
theorem lb_B {a b : List PairT} (ha : validR a = true) (hb : validR b = true) {lo i j : Nat} (hi : i = plc a (lo : Nat)) (hj : j = plc b (lo : Nat)) (hjb : j < b.length) (h : ∀ h : i < a.length, b[j].key < a[i].key) :
    lbU a b (b[j].key.toNat + 1) = lbU a b lo ++ [⟨1, b[j].key, b[j].val⟩] ∧ i = plc a ((b[j].key.toNat + 1 : Nat) : Int) ∧ j + 1 = plc b ((b[j].key.toNat + 1 : Nat) : Int) ∧ b[j].key.toNat + 1 ≤ 100 := by
  obtain ⟨_, h2, h3⟩ := validR_parts.1 ha
  obtain ⟨_, h5, h6⟩ := validR_parts.1 hb
  subst hi hj
  have hk := (h6 _ (List.getElem_mem hjb)).1
  have hlo := plc_ge h5 (Nat.le_refl (plc b (lo : Nat))) hjb
  have hkk : (b[plc b (lo : Nat)].key.toNat : Int) = b[plc b (lo : Nat)].key := by omega
  have hc1 : ((b[plc b (lo : Nat)].key.toNat + 1 : Nat) : Int) = b[plc b (lo : Nat)].key + 1 := by omega
  have hlb : lookP b b[plc b (lo : Nat)].key = some b[plc b (lo : Nat)].val := look_at h5 hjb
  have hla : lookP a b[plc b (lo : Nat)].key = none := look_ge h2 hlo h
  refine ⟨?_, ?_, ?_, by omega⟩
  · rw [lbU_succ, lbU_skip (n := lo) (m := b[plc b (lo : Nat)].key.toNat) (by omega)]
    · rw [hkk]; congr 1; unfold lbK; rw [hla, hlb]
    · intro m h7 h8
      unfold lbK
      rw [look_ge (l := a) h2 (lo := (lo : Nat)) (by omega) (fun hh => by have := h hh; omega), look_ge (l := b) h5 (lo := (lo : Nat)) (by omega) (fun _ => by omega)]
  · rw [hc1, plc_keep hlo h]
  · rw [hc1, plc_next h5 hjb]
theorem lb_C {a b : List PairT} (ha : validR a = true) (hb : validR b = true) {lo i j : Nat} (hi : i = plc a (lo : Nat)) (hj : j = plc b (lo : Nat)) (hia : i < a.length) (hjb : j < b.length) (h : a[i].key = b[j].key) :
    lbU a b (b[j].key.toNat + 1) = lbU a b lo ++ (if a[i].val ≠ b[j].val then [⟨1, b[j].key, b[j].val⟩] else []) ∧ i + 1 = plc a ((b[j].key.toNat + 1 : Nat) : Int) ∧ j + 1 = plc b ((b[j].key.toNat + 1 : Nat) : Int) ∧ b[j].key.toNat + 1 ≤ 100 := by
  obtain ⟨_, h2, h3⟩ := validR_parts.1 ha
  obtain ⟨_, h5, h6⟩ := validR_parts.1 hb
  subst hi hj
  have hk := (h6 _ (List.getElem_mem hjb)).1
  have hlo := plc_ge h5 (Nat.le_refl (plc b (lo : Nat))) hjb
  have hkk : (b[plc b (lo : Nat)].key.toNat : Int) = b[plc b (lo : Nat)].key := by omega
  have hc1 : ((b[plc b (lo : Nat)].key.toNat + 1 : Nat) : Int) = b[plc b (lo : Nat)].key + 1 := by omega
  have hlb : lookP b b[plc b (lo : Nat)].key = some b[plc b (lo : Nat)].val := look_at h5 hjb
  have hla : lookP a b[plc b (lo : Nat)].key = some a[plc a (lo : Nat)].val := by rw [← h]; exact look_at h2 hia
  refine ⟨?_, ?_, ?_, by omega⟩
  · rw [lbU_succ, lbU_skip (n := lo) (m := b[plc b (lo : Nat)].key.toNat) (by omega)]
    · rw [hkk]; congr 1; unfold lbK; rw [hla, hlb]
    · intro m h7 h8
      unfold lbK
      rw [look_ge (l := a) h2 (lo := (lo : Nat)) (by omega) (fun _ => by omega), look_ge (l := b) h5 (lo := (lo : Nat)) (by omega) (fun _ => by omega)]
  · rw [hc1, ← h, plc_next h2 hia]
  · rw [hc1, plc_next h5 hjb]
theorem lb_end {a b : List PairT} (ha : validR a = true) (hb : validR b = true) {lo : Nat} (hi : a.length ≤ plc a (lo : Nat)) (hj : b.length ≤ plc b (lo : Nat)) (hlo : lo ≤ 100) : lbU a b 100 = lbU a b lo := by
  obtain ⟨_, h2, h3⟩ := validR_parts.1 ha
  obtain ⟨_, h5, h6⟩ := validR_parts.1 hb
  refine lbU_skip hlo fun m h7 h8 => ?_
  unfold lbK
  rw [look_ge (l := a) h2 (lo := (lo : Nat)) (by omega) (fun hh => by omega), look_ge (l := b) h5 (lo := (lo : Nat)) (by omega) (fun hh => by omega)]
theorem lbU_len : ∀ (a b : List PairT) (n : Nat), (lbU a b n).length ≤ n
  | _, _, 0 => by simp [lbU]
  | a, b, n + 1 => by
    rw [lbU_succ, List.length_append]
    have := lbU_len a b n
    have : (lbK a b (n : Nat)).length ≤ 1 := by
      unfold lbK
      cases lookP a (n : Nat) <;> cases lookP b (n : Nat) <;> simp
      split <;> simp
    omega
theorem plc_zero {l : List PairT} (h : validR l = true) : plc l ((0 : Nat) : Int) = 0 := by
  obtain ⟨_, _, h3⟩ := validR_parts.1 h
  exact plc_eq (by omega) (fun i hi => by omega) (fun h => by have := (h3 _ (List.getElem_mem h)).1; simpa using this.1)
theorem lbF_no {a b : List PairT} (h : validR a = false ∨ validR b = false) : lbF a b = [] := by
  unfold lbF; rcases h with h | h <;> simp [h]
theorem lbF_big {a b : List PairT} (h : 24 < (lbU a b 100).length) : lbF a b = [] := by
  unfold lbF; rw [decide_eq_false (by omega)]; simp
theorem lbF_yes {a b : List PairT} (h1 : validR a = true) (h2 : validR b = true) (h : (lbU a b 100).length ≤ 24) : lbF a b = lbU a b 100 := by
  unfold lbF; rw [h1, h2, decide_eq_true h]; simp
theorem lbF_len {a b : List PairT} : (lbF a b).length ≤ 24 := by
  unfold lbF
  split
  · rename_i h; simp at h; exact h.2
  · simp
theorem shL_take {l : List RecT} {i : Nat} (hi : i < l.length) (h3 : l[i].kind ≠ 3) (h : (l.drop (i + 1)).all (fun s => decide (s.kind = 3) || decide (s.key ≠ l[i].key)) = true) : shL (l.drop i) = l[i] :: shL (l.drop (i + 1)) := by
  rw [List.drop_eq_getElem_cons hi]
  simp only [shL]
  rw [if_pos ⟨h3, h⟩]
theorem shL_skip {l : List RecT} {i : Nat} (hi : i < l.length) (h : ¬ (l[i].kind ≠ 3 ∧ (l.drop (i + 1)).all (fun s => decide (s.kind = 3) || decide (s.key ≠ l[i].key)) = true)) : shL (l.drop i) = shL (l.drop (i + 1)) := by
  rw [List.drop_eq_getElem_cons hi]
  simp only [shL]
  rw [if_neg h]
theorem all_take_and {α : Type} {p : α → Bool} {l : List α} {t : Nat} (ht : t < l.length) : (l.take (t + 1)).all p = ((l.take t).all p && p l[t]) := by
  rw [take_snoc ht, List.all_append]; simp
theorem run_validK {l : List PairT} {rs : List RecT} (h : validR l = true) (hr : ∀ r ∈ rs, isRecB r = true) : validK (keysP (runR l rs)) = true := by
  obtain ⟨_, h2, h3⟩ := validR_parts.1 h
  exact validK_iff.2 ⟨fun k hk => by obtain ⟨p, hp, rfl⟩ := List.mem_map.1 hk; exact (run_ok rs h2 hr h3 p hp).1, run_asc rs h2⟩
theorem mark_take {log : List RecT} (h : validL log = true) {k : Nat} : ∀ r ∈ (markP log).take k, isRecB r = true := fun r hr => (validL_iff.1 h).2 r (markP_mem (List.mem_of_mem_take hr))
theorem apply1 {l : List PairT} {r : RecT} (h : r.kind = 1) : applyR l r = putP l ⟨r.key, r.val⟩ := by simp [applyR, h]
theorem apply2 {l : List PairT} {r : RecT} (h : r.kind = 2) : applyR l r = dropP l r.key := by simp [applyR, h]
theorem apply0 {l : List PairT} {r : RecT} (h1 : r.kind ≠ 1) (h2 : r.kind ≠ 2) : applyR l r = l := by simp [applyR, h1, h2]
/-! the statements' own put and drop -/
theorem row_mem {a b : List PairT} (ha : asc (keysP a) = true) (hb : asc (keysP b) = true) (h : ∀ p, p ∈ a ↔ p ∈ b) : a = b := row_ext ha hb fun k => look_mem_ext ha hb fun v => h _
def withF : List PairT → PairT → List PairT
  | [], x => [x]
  | p :: r, x => if p.key < x.key then p :: withF r x else x :: (p :: r).filter fun q => decide (q.key ≠ x.key)
def stepW (x : PairT) (s : List PairT × Bool) (p : PairT) : List PairT × Bool :=
  let o := if !s.2 && decide (p.key ≥ x.key) then s.1 ++ [x] else s.1
  (if p.key ≠ x.key then o ++ [p] else o, s.2 || decide (p.key ≥ x.key))
def withS (l : List PairT) (x : PairT) : List PairT × Bool := l.foldl (stepW x) ([], false)
theorem withS_take {l : List PairT} {x : PairT} {k : Nat} (hk : k < l.length) : withS (l.take (k + 1)) x = stepW x (withS (l.take k) x) l[k] := by
  unfold withS; rw [take_snoc hk, List.foldl_append]; rfl
theorem withS_done (x : PairT) : ∀ (l : List PairT) (o : List PairT), l.foldl (stepW x) (o, true) = (o ++ l.filter (fun q => decide (q.key ≠ x.key)), true)
  | [], o => by simp
  | p :: l, o => by
    simp only [List.foldl_cons, stepW, Bool.not_true, Bool.false_and, Bool.true_or]
    by_cases h : p.key = x.key
    · simp only [h, ne_eq, not_true, if_false, Bool.false_eq_true]
      rw [withS_done x l]; simp [h]
    · simp only [ne_eq, h, not_false_eq_true, if_true, Bool.false_eq_true, if_false]
      rw [withS_done x l]; simp [h]
theorem withS_go (x : PairT) : ∀ (l : List PairT) (o : List PairT), (let s := l.foldl (stepW x) (o, false); if s.2 then s.1 else s.1 ++ [x]) = o ++ withF l x
  | [], o => by simp [withF]
  | p :: l, o => by
    by_cases h : p.key < x.key
    · have h1 : ¬ (p.key ≥ x.key) := by omega
      have h2 : p.key ≠ x.key := by omega
      simp only [List.foldl_cons, stepW, withF, if_pos h, h1, decide_false, Bool.and_false, Bool.false_or, Bool.false_eq_true, if_false, h2, ne_eq, not_false_eq_true, if_true]
      have := withS_go x l (o ++ [p])
      simp only at this
      rw [this]; simp
    · have h1 : p.key ≥ x.key := by omega
      simp only [List.foldl_cons, stepW, withF, if_neg h, h1, decide_true, Bool.not_false, Bool.and_true, Bool.false_or, if_true]
      rw [withS_done]
      by_cases h2 : p.key = x.key
      · simp [h2]
      · simp [h2]
theorem withF_mem (x q : PairT) : ∀ l : List PairT, q ∈ withF l x ↔ q = x ∨ (q ∈ l ∧ q.key ≠ x.key)
  | [] => by simp [withF]
  | p :: l => by
    simp only [withF]
    split
    · rename_i h
      rw [List.mem_cons, withF_mem x q l, List.mem_cons]
      constructor
      · rintro (rfl | h1 | h1)
        · exact .inr ⟨.inl rfl, by omega⟩
        · exact .inl h1
        · exact .inr ⟨.inr h1.1, h1.2⟩
      · rintro (h1 | ⟨rfl | h1, h2⟩)
        · exact .inr (.inl h1)
        · exact .inl rfl
        · exact .inr (.inr ⟨h1, h2⟩)
    · simp [List.mem_filter]
theorem withF_asc {x : PairT} : ∀ {l : List PairT}, asc (keysP l) = true → asc (keysP (withF l x)) = true := by
  intro l h
  have hp : l.Pairwise fun p q => p.key < q.key := by simpa [List.pairwise_map] using asc_pair.1 h
  rw [asc_pair]
  suffices hs : (withF l x).Pairwise fun p q => p.key < q.key by simpa [List.pairwise_map] using hs
  clear h
  induction l with
  | nil => simp [withF]
  | cons p l ih =>
    have hp := List.pairwise_cons.1 hp
    simp only [withF]
    split
    · rename_i h
      refine List.pairwise_cons.2 ⟨fun q hq => ?_, ih hp.2⟩
      rcases (withF_mem x q l).1 hq with rfl | h1
      · exact h
      · exact hp.1 q h1.1
    · rename_i h
      refine List.pairwise_cons.2 ⟨fun q hq => ?_, (List.pairwise_cons.2 ⟨hp.1, hp.2⟩).filter _⟩
      have h1 := List.mem_filter.1 hq
      simp at h1
      rcases h1.1 with rfl | h2
      · omega
      · have := hp.1 q h2; omega
theorem with_put {l : List PairT} {x : PairT} (h : asc (keysP l) = true) : (if (withS l x).2 then (withS l x).1 else (withS l x).1 ++ [x]) = putP l x := by
  have h1 := withS_go x l []
  simp only [List.nil_append] at h1
  show (let s := withS l x; if s.2 then s.1 else s.1 ++ [x]) = _
  unfold withS
  rw [h1]
  exact row_mem (withF_asc h) (put_keys_pair h x) fun p => by rw [withF_mem, put_mem h]
theorem without_drop {l : List PairT} {k : Int} (h : asc (keysP l) = true) : l.filter (fun p => decide (p.key ≠ k)) = dropP l k := by
  refine row_mem ?_ (drop_keys h k) fun p => by rw [drop_mem h]; simp [List.mem_filter]
  rw [asc_pair] at h ⊢
  exact h.sublist ((List.filter_sublist).map _)
theorem filter_snoc {α : Type} {p : α → Bool} {l : List α} {k : Nat} (hk : k < l.length) : (l.take (k + 1)).filter p = (l.take k).filter p ++ (if p l[k] then [l[k]] else []) := by
  rw [take_snoc hk, List.filter_append]; simp only [List.filter_cons, List.filter_nil]
end Go.Px
namespace Go.Px
theorem shL_takeN {l : List RecT} {n i : Nat} {b : Bool} (hi : i < n) (hl : i < l.length) (hb : b = (decide (l[i].kind ≠ 3) && ((l.take n).drop (i + 1)).all (fun s => decide (s.kind = 3) || decide (s.key ≠ l[i].key)))) (h : b = true) : shL ((l.take n).drop i) = l[i] :: shL ((l.take n).drop (i + 1)) := by
  rw [h] at hb
  have h2 := (Bool.and_eq_true _ _ ▸ hb.symm : _ ∧ _)
  have h3 := shL_take (l := l.take n) (i := i) (by simp; omega) (by rw [List.getElem_take]; simpa using h2.1) (by rw [List.getElem_take]; exact h2.2)
  rw [h3, List.getElem_take]
theorem shL_skipN {l : List RecT} {n i : Nat} {b : Bool} (hi : i < n) (hl : i < l.length) (hb : b = (decide (l[i].kind ≠ 3) && ((l.take n).drop (i + 1)).all (fun s => decide (s.kind = 3) || decide (s.key ≠ l[i].key)))) (h : b = false) : shL ((l.take n).drop i) = shL ((l.take n).drop (i + 1)) := by
  refine shL_skip (l := l.take n) (i := i) (by simp; omega) fun hh => ?_
  rw [List.getElem_take] at hh
  rw [h, hh.2] at hb
  simp at hb
  exact hh.1 hb
end Go.Px
namespace Go.Px
theorem lb_A2 {a b : List PairT} (ha : validR a = true) (hb : validR b = true) {lo i j : Nat} (hi : i = plc a (lo : Nat)) (hj : j = plc b (lo : Nat)) (h0 : 0 < (a.drop i).length) (h : ∀ h : 0 < (b.drop j).length, (a.drop i)[0].key < (b.drop j)[0].key) :
    lbU a b ((a.drop i)[0].key.toNat + 1) = lbU a b lo ++ [⟨2, (a.drop i)[0].key, 0⟩] ∧ i + 1 = plc a (((a.drop i)[0].key.toNat + 1 : Nat) : Int) ∧ j = plc b (((a.drop i)[0].key.toNat + 1 : Nat) : Int) ∧ (a.drop i)[0].key.toNat + 1 ≤ 100 := by
  simp only [List.getElem_drop, Nat.add_zero] at h ⊢
  rw [List.length_drop] at h0
  exact lb_A ha hb hi hj (by omega) (fun hh => h (by rw [List.length_drop]; omega))
theorem lb_B2 {a b : List PairT} (ha : validR a = true) (hb : validR b = true) {lo i j : Nat} (hi : i = plc a (lo : Nat)) (hj : j = plc b (lo : Nat)) (h0 : 0 < (b.drop j).length) (h : ∀ h : 0 < (a.drop i).length, (b.drop j)[0].key < (a.drop i)[0].key) :
    lbU a b ((b.drop j)[0].key.toNat + 1) = lbU a b lo ++ [⟨1, (b.drop j)[0].key, (b.drop j)[0].val⟩] ∧ i = plc a (((b.drop j)[0].key.toNat + 1 : Nat) : Int) ∧ j + 1 = plc b (((b.drop j)[0].key.toNat + 1 : Nat) : Int) ∧ (b.drop j)[0].key.toNat + 1 ≤ 100 := by
  simp only [List.getElem_drop, Nat.add_zero] at h ⊢
  rw [List.length_drop] at h0
  exact lb_B ha hb hi hj (by omega) (fun hh => h (by rw [List.length_drop]; omega))
theorem lb_C2 {a b : List PairT} (ha : validR a = true) (hb : validR b = true) {lo i j : Nat} (hi : i = plc a (lo : Nat)) (hj : j = plc b (lo : Nat)) (h0 : 0 < (a.drop i).length) (h1 : 0 < (b.drop j).length) (h : (a.drop i)[0].key = (b.drop j)[0].key) :
    lbU a b ((b.drop j)[0].key.toNat + 1) = lbU a b lo ++ (if (a.drop i)[0].val ≠ (b.drop j)[0].val then [⟨1, (b.drop j)[0].key, (b.drop j)[0].val⟩] else []) ∧ i + 1 = plc a (((b.drop j)[0].key.toNat + 1 : Nat) : Int) ∧ j + 1 = plc b (((b.drop j)[0].key.toNat + 1 : Nat) : Int) ∧ (b.drop j)[0].key.toNat + 1 ≤ 100 := by
  simp only [List.getElem_drop, Nat.add_zero] at h ⊢
  rw [List.length_drop] at h0 h1
  exact lb_C ha hb hi hj (by omega) (by omega) h
end Go.Px
