/- Own layer: part of this seat (CA). Plain theorems; no conditions. -/
import Derived.Test.YteljpjapacajoaaC9
set_option linter.unusedVariables false
set_option linter.unusedSimpArgs false
/-! plain laws of searches, splits and puts -/
namespace Go.Px
theorem fp_in {l : List LinkT} {key : Int} : ∀ {q : List Nat}, fp l key q = -1 ∨ ∃ i ∈ q, fp l key q = (i : Int)
  | [] => .inl rfl
  | i :: q => by
    simp only [fp]
    split
    · exact .inr ⟨i, by simp, rfl⟩
    · rcases fp_in (l := l) (key := key) (q := q) with h | ⟨j, hj, h⟩
      · exact .inl h
      · exact .inr ⟨j, by simp [hj], h⟩
theorem dw_mid {i : Nat} {c : List Nat} : ∀ {a : List Nat}, i ∉ a → (a ++ i :: c).dropWhile (fun j => decide (j ≠ i)) = i :: c
  | [], _ => by simp
  | x :: a, h => by
    simp only [List.mem_cons, not_or] at h
    rw [List.cons_append, List.dropWhile_cons, if_pos (by simpa using fun e => h.1 e.symm)]
    exact dw_mid h.2
theorem from_mid {l : List LinkT} (hv : validC l = true) {a c : List Nat} {i : Nat} (h : pathC l = a ++ i :: c) : fromC l i = i :: c ∧ i ∉ a ∧ i ∉ c := by
  obtain ⟨_, _, h4⟩ := validC_path hv
  rw [h] at h4
  have h5 := List.nodup_append.1 h4
  have h6 : i ∉ a := fun hm => h5.2.2 _ hm _ (by simp) rfl
  refine ⟨?_, h6, (List.nodup_cons.1 h5.2.1).1⟩
  unfold fromC; rw [h]; exact dw_mid h6
theorem find_high {l : List LinkT} {i : Nat} (hi : i < l.length) : findC l i (gL l i).high ≠ i := by
  cases hg : goodF l i (gL l i).high with
  | false => rw [find_bad hg]; omega
  | true =>
    obtain ⟨hv, _⟩ := goodF_iff.1 hg
    obtain ⟨⟨a, h1⟩, ⟨c, h2⟩, _⟩ := from_ok hv hi
    have h3 := from_mid hv (i := i) (a := a) (c := c) (by rw [h1, h2])
    rw [find_good hg, Int.toNat_natCast, h2]
    simp only [fp]
    rw [if_neg (by omega)]
    rcases fp_in (l := l) (key := (gL l i).high) (q := c) with h | ⟨j, hj, h⟩
    · omega
    · intro e; have : j = i := by omega
      exact h3.2.2 (this ▸ hj)
theorem good_key {l : List LinkT} {at_ key : Int} (h : 0 ≤ findC l at_ key) : goodF l at_ key = true := by
  cases hg : goodF l at_ key with
  | true => rfl
  | false => rw [find_bad hg] at h; omega
/-- a place along the path from which the search still leads on -/
theorem start_find {l : List LinkT} {key : Int} {a q : List Nat} (hg : goodF l 0 key = true) (h : pathC l = a ++ q) (hq : fp l key q = findC l 0 key) : 0 ≤ hdq q ∧ hdq q < l.length ∧ findC l (hdq q) key = findC l 0 key ∧ (hdq q ≠ findC l 0 key → fp l key q.tail = findC l 0 key) ∧ (gL l (hdq q).toNat).right = hdq q.tail ∧ (∃ a2, pathC l = a2 ++ q.tail) ∧ q.tail.length + 1 = q.length := by
  have hr := find_range hg
  obtain ⟨hv, ha, hk⟩ := goodF_iff.1 hg
  cases q with
  | nil => simp only [fp] at hq; omega
  | cons i q =>
    obtain ⟨h1, h2, h3⟩ := from_mid hv h
    obtain ⟨_, g1, g2⟩ := validC_path hv
    have g3 := g1
    rw [h] at g3
    obtain ⟨x, y, g4, _⟩ := chainP_tail g3
    have hi := g4.2.1
    have hx := chainP_hd g4.2.2.2
    refine ⟨by simp [hdq], by simp only [hdq]; omega, ?_, ?_, by simp only [hdq, Int.toNat_natCast, List.tail_cons]; exact hx.symm, ⟨a ++ [i], by rw [h]; simp⟩, by simp⟩
    · have hg2 : goodF l (hdq (i :: q)) key = true := goodF_iff.2 ⟨hv, ⟨by simp [hdq], by simp only [hdq]; omega⟩, hk⟩
      rw [find_good hg2]
      simp only [hdq, Int.toNat_natCast]
      rw [h1, hq]
    · intro hne
      simp only [hdq] at hne
      simp only [fp] at hq
      split at hq
      · exact absurd hq hne
      · simpa using hq
theorem key_at {l : List LinkT} {key : Int} (hk : key ≤ 99) : ∀ {p : List Nat} {at_ low : Int}, chainP l p at_ low → low ≤ key → (key ∈ (gL l (fp l key p).toNat).keys ↔ key ∈ p.flatMap fun i => (gL l i).keys)
  | [], _, _, h, h1 => by have := h.2; omega
  | i :: p, at_, low, h, h1 => by
    obtain ⟨rfl, h2, h3, h4⟩ := h
    obtain ⟨o1, o2, o3, o4⟩ := okLk_iff.1 h3
    rw [List.flatMap_cons, List.mem_append]
    by_cases hlt : key < (gL l i).high
    · simp only [fp]; rw [if_pos hlt, Int.toNat_natCast]
      refine ⟨.inl, fun hm => hm.elim id fun hm => ?_⟩
      have := (chain_keys h4).2.2 key hm
      omega
    · simp only [fp]; rw [if_neg hlt, key_at hk h4 (by omega)]
      refine ⟨.inr, fun hm => hm.elim (fun hm => ?_) id⟩
      have := o4 key hm
      omega
theorem find_key {l : List LinkT} {key : Int} (hv : validC l = true) (hk : isKeyB key = true) : key ∈ (gL l (findC l 0 key).toNat).keys ↔ key ∈ keysC l := by
  have hk2 := isKey_iff.1 hk
  rw [find_good (good0 hv hk), Int.toNat_zero, from0 hv, keys_yes hv]
  exact key_at hk2.2 (validC_path hv).2.1 hk2.1
/-! splits -/
theorem gL_out {l : List LinkT} {i : Nat} (h : l.length ≤ i) : gL l i = ⟨[], 0, 0⟩ := by simp [gL, h]
theorem flat_congr {f g : Nat → List Int} : ∀ {p : List Nat}, (∀ i ∈ p, f i = g i) → p.flatMap f = p.flatMap g
  | [], _ => rfl
  | i :: p, h => by rw [List.flatMap_cons, List.flatMap_cons, h i (by simp), flat_congr fun j hj => h j (by simp [hj])]
theorem split_keys {l : List LinkT} {at_ : Int} (h : splOk l at_ = true) : keysC (splB l at_.toNat) = keysC l := by
  obtain ⟨hv, ha, h2, h16⟩ := splOk_iff.1 h
  have hi : at_.toNat < l.length := by omega
  obtain ⟨a, c, p1, p2, p3, p4, p5, p6⟩ := split_path h
  have hm : ∀ j ∈ pathC l, j < l.length := chainP_mem (validC_path hv).2.1
  rw [p1] at hm
  rw [keys_yes p6, keys_yes hv, p5, p1, List.flatMap_append, List.flatMap_append, List.flatMap_cons, List.flatMap_cons, List.flatMap_cons]
  rw [splB_i hi, splB_n hi]
  rw [flat_congr (p := a) (g := fun i => (gL l i).keys) fun j hj => by rw [splB_j (hm j (by simp [hj])) fun e : j = at_.toNat => p3 (e ▸ hj)]]
  rw [flat_congr (p := c) (g := fun i => (gL l i).keys) fun j hj => by rw [splB_j (hm j (by simp [hj])) fun e : j = at_.toNat => p4 (e ▸ hj)]]
  congr 1
  rw [← List.append_assoc]
  congr 1
  simp only [splY, splZ]
  exact List.take_append_drop _ _
theorem split_at {l : List LinkT} {at_ : Int} (h : splOk l at_ = true) : validC (splB l at_.toNat) = true ∧ fromC (splB l at_.toNat) at_.toNat = at_.toNat :: l.length :: (fromC l at_.toNat).tail := by
  obtain ⟨a, c, p1, p2, p3, p4, p5, p6⟩ := split_path h
  refine ⟨p6, ?_⟩
  rw [(from_mid p6 p5).1, p2]; rfl
theorem split_find_z {l : List LinkT} {at_ key : Int} (h : splOk l at_ = true) (hk : key ∈ (splZ (gL l at_.toNat)).keys) : findC (splB l at_.toNat) at_ key = l.length := by
  obtain ⟨hv, ha, h2, h16⟩ := splOk_iff.1 h
  have hi : at_.toNat < l.length := by omega
  obtain ⟨s1, s2⟩ := split_at h
  obtain ⟨low, ho⟩ := valid_keys hv hi
  obtain ⟨y1, y2⟩ := splY_ok (n := l.length) ho h2
  have z := (okLk_iff.1 y2).2.2.2 key hk
  have hvk := (validK_iff.1 (okLk_iff.1 y2).2.2.1).1 key hk
  have hg : goodF (splB l at_.toNat) at_ key = true := goodF_iff.2 ⟨s1, ⟨ha.1, by rw [splB_len]; omega⟩, hvk⟩
  rw [find_good hg, s2]
  simp only [fp]
  rw [splB_i hi, splB_n hi, if_neg (by omega), if_pos z.2]
theorem split_find_y {l : List LinkT} {at_ key : Int} (h : splOk l at_ = true) (hk : key ∈ (splY (gL l at_.toNat) l.length).keys) : findC (splB l at_.toNat) at_ key = at_ := by
  obtain ⟨hv, ha, h2, h16⟩ := splOk_iff.1 h
  have hi : at_.toNat < l.length := by omega
  obtain ⟨s1, s2⟩ := split_at h
  obtain ⟨low, ho⟩ := valid_keys hv hi
  obtain ⟨y1, y2⟩ := splY_ok (n := l.length) ho h2
  have z := (okLk_iff.1 y1).2.2.2 key hk
  have hvk := (validK_iff.1 (okLk_iff.1 y1).2.2.1).1 key hk
  have hg : goodF (splB l at_.toNat) at_ key = true := goodF_iff.2 ⟨s1, ⟨ha.1, by rw [splB_len]; omega⟩, hvk⟩
  rw [find_good hg, s2]
  simp only [fp]
  rw [splB_i hi, if_pos z.2]
  omega
theorem split_get {l : List LinkT} {at_ : Int} (h : (splitF l at_).isSome = true) : splOk l at_ = true ∧ splitF l at_ = some (splB l at_.toNat) := by
  cases hh : splOk l at_ with
  | true => exact ⟨rfl, split_yes hh⟩
  | false => rw [split_no hh] at h; simp at h
/-! puts -/
theorem putAt_len (l : List LinkT) (f : Nat) (key : Int) : (putAt l f key).length = l.length := by simp [putAt]
theorem putAt_f {l : List LinkT} {f : Nat} {key : Int} (hf : f < l.length) : gL (putAt l f key) f = ⟨insK (gL l f).keys key, (gL l f).high, (gL l f).right⟩ := by
  rw [gL_at (by rw [putAt_len]; exact hf)]; simp [putAt]
theorem putAt_j {l : List LinkT} {f j : Nat} {key : Int} (hne : j ≠ f) : gL (putAt l f key) j = gL l j := by
  simp only [gL, putAt, List.getD_eq_getElem?_getD]
  rw [List.getElem?_set_ne (fun e => hne e.symm)]
theorem putAt_hr {l : List LinkT} {f : Nat} {key : Int} (j : Nat) : (gL (putAt l f key) j).high = (gL l j).high ∧ (gL (putAt l f key) j).right = (gL l j).right := by
  by_cases hj : j = f
  · subst hj
    by_cases h : j < l.length
    · rw [putAt_f h]; exact ⟨rfl, rfl⟩
    · rw [gL_out (by rw [putAt_len]; omega), gL_out (by omega)]; exact ⟨rfl, rfl⟩
  · rw [putAt_j hj]; exact ⟨rfl, rfl⟩
theorem putAt_fp {l : List LinkT} {f : Nat} {k key : Int} : ∀ {p : List Nat}, fp (putAt l f k) key p = fp l key p
  | [] => rfl
  | i :: p => by simp only [fp]; rw [(putAt_hr i).1, putAt_fp]
theorem insK_mem {ks : List Int} {k x : Int} : x ∈ insK ks k ↔ x = k ∨ x ∈ ks := by
  unfold insK
  rw [List.mem_append, List.mem_cons]
  have h : x ∈ ks ↔ x ∈ ks.take (below ks k) ∨ x ∈ ks.drop (below ks k) := by
    rw [← List.mem_append, List.take_append_drop]
  rw [h]
  constructor
  · rintro (h | h | h)
    · exact .inr (.inl h)
    · exact .inl h
    · exact .inr (.inr h)
  · rintro (h | h | h)
    · exact .inr (.inl h)
    · exact .inl h
    · exact .inr (.inr h)
theorem insK_mid {a x b : List Int} {k : Int} (ha : ∀ y ∈ a, y < k) (hb : ∀ y ∈ b, k < y) : insK (a ++ (x ++ b)) k = a ++ (insK x k ++ b) := by
  have e : below (a ++ (x ++ b)) k = a.length + below x k := by
    refine below_eq ?_ (fun i hi => ?_) fun h => ?_
    · have := below_le x k; simp; omega
    · rcases Nat.lt_or_ge i a.length with h | h
      · rw [List.getElem_append_left h]; exact ha _ (List.getElem_mem h)
      · rw [List.getElem_append_right h]
        have h1 : i - a.length < below x k := by omega
        have h2 := below_le x k
        rw [List.getElem_append_left (by omega)]
        exact below_lt h1
    · rw [List.getElem_append_right (by omega)]
      simp only [Nat.add_sub_cancel_left]
      rcases Nat.lt_or_ge (below x k) x.length with h1 | h1
      · rw [List.getElem_append_left h1]; exact below_stop h1
      · rw [List.getElem_append_right h1]
        have := hb _ (List.getElem_mem (l := b) (n := below x k - x.length) (by have := below_le x k; simp at h; omega))
        omega
  have hx := below_le x k
  unfold insK
  rw [e, List.take_length_add_append, List.drop_length_add_append, List.take_append_of_le_length hx, List.drop_append_of_le_length hx]
  simp
theorem insK_validK {ks : List Int} {k : Int} (h : validK ks = true) (hk : isKeyB k = true) (hn : k ∉ ks) : validK (insK ks k) = true := by
  obtain ⟨h1, h2⟩ := validK_iff.1 h
  refine validK_iff.2 ⟨fun x hx => ?_, ?_⟩
  · rcases insK_mem.1 hx with rfl | hx
    · exact isKey_iff.1 hk
    · exact h1 x hx
  · have hp := asc_pair.1 h2
    have hlt : ∀ x ∈ ks.take (below ks k), x < k := fun x hx => by
      obtain ⟨i, hi, rfl⟩ := List.getElem_of_mem hx
      simp only [List.length_take] at hi
      rw [List.getElem_take]; exact below_lt (by omega)
    have hgt : ∀ x ∈ ks.drop (below ks k), k < x := fun x hx => by
      have hne : x ≠ k := fun e => hn (e ▸ List.mem_of_mem_drop hx)
      obtain ⟨i, hi, rfl⟩ := List.getElem_of_mem hx
      simp only [List.length_drop] at hi
      rw [List.getElem_drop] at hne ⊢
      have := below_ge h2 (k := k) (i := below ks k + i) (by omega) (by omega)
      omega
    unfold insK
    refine asc_pair.2 (List.pairwise_append.2 ⟨hp.sublist (List.take_sublist _ _), List.pairwise_cons.2 ⟨hgt, hp.sublist (List.drop_sublist _ _)⟩, fun x hx y hy => ?_⟩)
    rcases List.mem_cons.1 hy with rfl | hy
    · exact hlt x hx
    · have := hlt x hx; have := hgt y hy; omega
theorem put_chain {l : List LinkT} {key : Int} (hk : isKeyB key = true) {f : Nat} (hf : f < l.length) (h4 : (gL l f).keys.length ≤ 3) (hn : key ∉ (gL l f).keys) : ∀ {p : List Nat} {at_ low : Int}, chainP l p at_ low → low ≤ key → p.Nodup → fp l key p = (f : Int) →
    chainP (putAt l f key) p at_ low ∧ (p.flatMap fun i => (gL (putAt l f key) i).keys) = insK (p.flatMap fun i => (gL l i).keys) key
  | [], _, _, _, _, _, h => by simp only [fp] at h; omega
  | i :: p, at_, low, h, h1, hnd, hfp => by
    obtain ⟨rfl, g2, g3, g4⟩ := h
    obtain ⟨o1, o2, o3, o4⟩ := okLk_iff.1 g3
    have hnd2 := List.nodup_cons.1 hnd
    by_cases hlt : key < (gL l i).high
    · simp only [fp] at hfp
      rw [if_pos hlt] at hfp
      have e : i = f := by omega
      subst e
      have hcg : ∀ j ∈ p, gL (putAt l i key) j = gL l j := fun j hj => putAt_j fun e => hnd2.1 (e ▸ hj)
      refine ⟨⟨rfl, by rw [putAt_len]; exact g2, ?_, ?_⟩, ?_⟩
      · rw [putAt_f g2]
        refine okLk_iff.2 ⟨o1, ?_, insK_validK o3 hk hn, fun x hx => ?_⟩
        · have := insK_len (gL l i).keys key; simp only; omega
        · rcases insK_mem.1 hx with rfl | hx
          · exact ⟨h1, hlt⟩
          · exact o4 x hx
      · rw [putAt_f g2]; exact chain_congr (by rw [putAt_len]; omega) g4 hcg
      · rw [List.flatMap_cons, List.flatMap_cons, putAt_f g2, flat_congr (p := p) (g := fun i => (gL l i).keys) fun j hj => by rw [hcg j hj]]
        have := insK_mid (a := []) (x := (gL l i).keys) (b := p.flatMap fun i => (gL l i).keys) (k := key) (by simp) (fun y hy => by have := (chain_keys g4).2.2 y hy; omega)
        simpa using this.symm
    · simp only [fp] at hfp
      rw [if_neg hlt] at hfp
      have hif : i ≠ f := by
        intro e; subst e
        rcases fp_in (l := l) (key := key) (q := p) with h | ⟨j, hj, h⟩
        · omega
        · have : j = i := by omega
          exact hnd2.1 (this ▸ hj)
      obtain ⟨r1, r2⟩ := put_chain hk hf h4 hn g4 (by omega) hnd2.2 hfp
      have e := putAt_j (l := l) (key := key) hif
      refine ⟨⟨rfl, by rw [putAt_len]; exact g2, by rw [e]; exact g3, by rw [e]; exact r1⟩, ?_⟩
      rw [List.flatMap_cons, List.flatMap_cons, e, r2]
      have := insK_mid (a := (gL l i).keys) (x := p.flatMap fun i => (gL l i).keys) (b := []) (k := key) (fun y hy => by have := o4 y hy; omega) (by simp)
      simpa using this.symm
theorem putAt_path {l : List LinkT} {f : Nat} {key : Int} : ∀ {n : Nat} {at_ : Int}, walkC (putAt l f key) n at_ = walkC l n at_
  | 0, _ => rfl
  | n + 1, at_ => by simp only [walkC]; rw [(putAt_hr _).2, putAt_path]
/-- a put into a leaf with room -/
theorem put_leaf {l : List LinkT} {key : Int} (hv : validC l = true) (hk : isKeyB key = true) (h3 : (gL l (findC l 0 key).toNat).keys.length ≤ 3) (hn : key ∉ (gL l (findC l 0 key).toNat).keys) :
    validC (putAt l (findC l 0 key).toNat key) = true ∧ keysC (putAt l (findC l 0 key).toNat key) = insK (keysC l) key ∧ key ∈ (gL (putAt l (findC l 0 key).toNat key) (findC (putAt l (findC l 0 key).toNat key) 0 key).toNat).keys := by
  have hg := good0 hv hk
  have hr := find_range hg
  have hf : (findC l 0 key).toNat < l.length := by omega
  obtain ⟨hl, g1, g2⟩ := validC_path hv
  have hfp : fp l key (pathC l) = ((findC l 0 key).toNat : Int) := by
    have := find_good hg
    rw [Int.toNat_zero, from0 hv] at this
    rw [← this]; omega
  obtain ⟨r1, r2⟩ := put_chain hk hf h3 hn g1 (isKey_iff.1 hk).1 g2 hfp
  have hp : pathC (putAt l (findC l 0 key).toNat key) = pathC l := by unfold pathC; rw [putAt_len, putAt_path]
  have hv2 : validC (putAt l (findC l 0 key).toNat key) = true := path_valid r1 g2 (by rw [pathC_len, putAt_len]) (by rw [putAt_len]; exact hl.1) (by rw [putAt_len]; exact hl.2)
  refine ⟨hv2, by rw [keys_yes hv2, hp, keys_yes hv]; exact r2, ?_⟩
  rw [find_key hv2 hk, keys_yes hv2, hp, r2]
  exact insK_mem.2 (.inl rfl)
theorem put_ok {l l' : List LinkT} {key : Int} (h : putF l key = some l') : isKeyB key = true ∧ validC l = true ∧ validC l' = true ∧ (key ∈ keysC l → l' = l) ∧ (key ∉ keysC l → keysC l' = insK (keysC l) key) ∧ key ∈ (gL l' (findC l' 0 key).toNat).keys ∧ l'.length ≤ l.length + 1 := by
  have hvk : validC l = true ∧ isKeyB key = true := by
    cases h1 : validC l with
    | false => rw [putF_bad (.inl h1)] at h; simp at h
    | true =>
      cases h2 : isKeyB key with
      | false => rw [putF_bad (.inr h2)] at h; simp at h
      | true => exact ⟨rfl, rfl⟩
  obtain ⟨hv, hk⟩ := hvk
  have hfk := find_key hv hk
  have hr := find_range (good0 hv hk)
  have hf : (findC l 0 key).toNat < l.length := by omega
  by_cases hin : key ∈ (gL l (findC l 0 key).toNat).keys
  · rw [putF_same hv hk hin] at h
    simp only [Option.some.injEq] at h
    subst h
    exact ⟨hk, hv, hv, fun _ => rfl, fun hn => absurd (hfk.1 hin) hn, hin, by omega⟩
  · have hnk : key ∉ keysC l := fun hm => hin (hfk.2 hm)
    have h4 := (valid_len4 hv hf).1
    by_cases h44 : (gL l (findC l 0 key).toNat).keys.length = 4
    · rw [putF_split hv hk hin h44] at h
      cases hh : splOk l (findC l 0 key) with
      | false => rw [split_no hh] at h; simp at h
      | true =>
        rw [split_yes hh, Option.map_some, Option.some.injEq] at h
        obtain ⟨_, _, _, _, _, _, _, hv2⟩ := split_path hh
        have hn2 := split_notin hk hh hin
        have h3 : (gL (splB l (findC l 0 key).toNat) (findC (splB l (findC l 0 key).toNat) 0 key).toNat).keys.length ≤ 3 := by
          rcases (split_find hk hh).2 with e | e
          · rw [e, splB_i hf]; simp only [splY, List.length_take, h44, midK]; omega
          · rw [e, Int.toNat_natCast, splB_n hf]; simp only [splZ, List.length_drop, h44, midK]; omega
        obtain ⟨r1, r2, r3⟩ := put_leaf hv2 hk h3 hn2
        rw [h] at r1 r2 r3
        refine ⟨hk, hv, r1, fun hm => absurd hm hnk, fun _ => by rw [r2, split_keys hh], r3, ?_⟩
        rw [← h, putAt_len, splB_len]; omega
    · rw [putF_here hv hk hin h44, Option.some.injEq] at h
      obtain ⟨r1, r2, r3⟩ := put_leaf hv hk (by omega) hin
      rw [h] at r1 r2 r3
      refine ⟨hk, hv, r1, fun hm => absurd hm hnk, fun _ => r2, r3, ?_⟩
      rw [← h, putAt_len]; omega
theorem put_twice {l l' : List LinkT} {key : Int} (h : putF l key = some l') : putF l' key = some l' := by
  obtain ⟨hk, _, hv, _, _, h5, _⟩ := put_ok h
  exact putF_same hv hk h5
end Go.Px
namespace Go.Px
theorem putF_len {l : List LinkT} {key : Int} : ((putF l key).getD []).length ≤ 17 := by
  cases h : putF l key with
  | none => simp
  | some l' =>
    obtain ⟨_, hv, _, _, _, _, h7⟩ := put_ok h
    have := (validC_path hv).1
    simp only [Option.getD_some]; omega
theorem split_small {l : List LnkL} {at_ : Int} (hv : validC (tsL l) = true) (h0 : 0 ≤ at_) (h : at_.toNat < l.length) : (splitF (tsL l) at_).isSome = (decide (2 ≤ l[at_.toNat].t.keys.length) && decide (l.length < 16)) := by
  have h1 := (validC_path hv).1
  simp only [List.length_map] at h1
  have e := gL_ts h
  cases hh : splOk (tsL l) at_ with
  | true =>
    obtain ⟨_, _, h3, h4⟩ := splOk_iff.1 hh
    rw [e] at h3
    simp only [List.length_map] at h4
    rw [split_yes hh]
    simp; omega
  | false =>
    rw [split_no hh]
    cases hb : (decide (2 ≤ l[at_.toNat].t.keys.length) && decide (l.length < 16)) with
    | false => rfl
    | true =>
      simp only [Bool.and_eq_true, decide_eq_true_eq] at hb
      have := splOk_iff.2 ⟨hv, ⟨h0, by simp only [List.length_map]; omega⟩, by rw [e]; exact hb.1, by simp only [List.length_map]; omega⟩
      rw [this] at hh; simp at hh
theorem split_out_n {L : List LnkL} {l : List LinkT} {at_ : Int} {n : Nat} (h : tsL L = splB l at_.toNat) (hok : splOk l at_ = true) (hn : n = l.length) (hL : n < L.length) : L[n].t = splZ (gL l at_.toNat) := by
  have ha := (splOk_iff.1 hok).2.1
  rw [← gL_ts hL, h, hn, splB_n (by omega)]
theorem split_out_a {L : List LnkL} {l : List LinkT} {at_ : Int} (h : tsL L = splB l at_.toNat) (hok : splOk l at_ = true) (hL : at_.toNat < L.length) : L[at_.toNat].t = splY (gL l at_.toNat) l.length := by
  have ha := (splOk_iff.1 hok).2.1
  rw [← gL_ts hL, h, splB_i (by omega)]
theorem split_out_z {L : List LnkL} {l : List LinkT} {at_ : Int} {n i : Nat} (h : tsL L = splB l at_.toNat) (hok : splOk l at_ = true) (hn : n = l.length) (hL : n < L.length) (hi : i < L[n].t.keys.length) : findC (tsL L) at_ (L[n].t.keys[i]) = n := by
  subst hn
  rw [h]
  exact split_find_z hok (by rw [← split_out_n h hok rfl hL]; exact List.getElem_mem hi)
theorem split_out_y {L : List LnkL} {l : List LinkT} {at_ : Int} {i : Nat} (h : tsL L = splB l at_.toNat) (hok : splOk l at_ = true) (hL : at_.toNat < L.length) (hi : i < L[at_.toNat].t.keys.length) : findC (tsL L) at_ (L[at_.toNat].t.keys[i]) = at_ := by
  rw [h]
  exact split_find_y hok (by rw [← split_out_a h hok hL]; exact List.getElem_mem hi)
theorem split_ks {x : LinkT} {n : Nat} : (splY x n).keys ++ (splZ x).keys = x.keys := by
  simp only [splY, splZ]; exact List.take_append_drop _ _
theorem put_get {l : List LinkT} {key : Int} (h : (putF l key).isSome = true) : ∃ l', putF l key = some l' := Option.isSome_iff_exists.1 h
end Go.Px
namespace Go.Px
theorem ts_ne3 {a b : List LnkL} {k : Nat} (ha : k < a.length) (hb : k < b.length) (h : ¬ (a[k].t.keys = b[k].t.keys ∧ a[k].t.high = b[k].t.high ∧ a[k].t.right = b[k].t.right)) : decide (tsL a = tsL b) = false :=
  ts_ne ha hb fun e => h (by rw [e]; exact ⟨rfl, rfl, rfl⟩)
end Go.Px
