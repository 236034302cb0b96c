/- Own layer: part of this seat (C2). Plain theorems; no conditions. -/
import Derived.Test.YteljpjapacajoaaC1
set_option linter.unusedVariables false
set_option linter.unusedSimpArgs false
/-! splitting a link and putting keys: what is computed -/
namespace Go.Px
abbrev zLk : LnkL := ⟨none, 0, ⟨[], 0, 0⟩⟩
theorem fill_app {α : Type} {C : List α} {n k : Nat} {z x : α} (hC : C.length = k) (hk : k < n) : (C ++ List.replicate (n - k) z).set k x = (C ++ [x]) ++ List.replicate (n - (k + 1)) z := by
  rw [List.set_append, if_neg (by omega), hC, Nat.sub_self, show n - k = (n - (k + 1)) + 1 by omega, List.replicate_succ, List.set_cons_zero]
  simp
theorem ts_snoc {l : List LnkL} {C : List LnkL} {k : Nat} {x : LnkL} (h : tsL C = (tsL l).take k) (hk : k < l.length) (hx : x.t = l[k].t) : tsL (C ++ [x]) = (tsL l).take (k + 1) := by
  have h1 : (tsL l).take (k + 1) = (tsL l).take k ++ [l[k].t] := by
    rw [take_snoc (by simp; exact hk)]; simp
  rw [h1, ← h]; simp [hx]
theorem ts_len {l : List LnkL} {C : List LnkL} {k : Nat} (h : tsL C = (tsL l).take k) (hk : k ≤ l.length) : C.length = k := by
  have := congrArg List.length h
  simp at this; omega
def insK (ks : List Int) (k : Int) : List Int := ks.take (below ks k) ++ k :: ks.drop (below ks k)
def insF (ks : List Int) (k : Int) : Option (List Int) := if validK ks && isKeyB k && !decide (k ∈ ks) then some (insK ks k) else none
theorem ins_yes {ks : List Int} {k : Int} (h1 : validK ks = true) (h2 : isKeyB k = true) (h3 : k ∉ ks) : insF ks k = some (insK ks k) := by simp [insF, h1, h2, h3]
theorem ins_no {ks : List Int} {k : Int} (h : validK ks = false ∨ isKeyB k = false ∨ k ∈ ks) : insF ks k = none := by
  rcases h with h | h | h <;> simp [insF, h]
def midK (n : Nat) : Nat := (n + 1) / 2
def splY (x : LinkT) (n : Nat) : LinkT := ⟨x.keys.take (midK x.keys.length), x.keys.getD (midK x.keys.length) 0, n⟩
def splZ (x : LinkT) : LinkT := ⟨x.keys.drop (midK x.keys.length), x.high, x.right⟩
def splB (l : List LinkT) (at_ : Nat) : List LinkT := (l ++ [splZ (gL l at_)]).set at_ (splY (gL l at_) l.length)
def splOk (l : List LinkT) (at_ : Int) : Bool := validC l && (decide (0 ≤ at_) && decide (at_ < l.length)) && decide (2 ≤ (gL l at_.toNat).keys.length) && decide (l.length ≠ 16)
def splitF (l : List LinkT) (at_ : Int) : Option (List LinkT) := if splOk l at_ then some (splB l at_.toNat) else none
theorem splOk_iff {l : List LinkT} {at_ : Int} : splOk l at_ = true ↔ validC l = true ∧ (0 ≤ at_ ∧ at_ < l.length) ∧ 2 ≤ (gL l at_.toNat).keys.length ∧ l.length ≠ 16 := by
  simp [splOk, and_assoc]
theorem split_yes {l : List LinkT} {at_ : Int} (h : splOk l at_ = true) : splitF l at_ = some (splB l at_.toNat) := by simp [splitF, h]
theorem split_no {l : List LinkT} {at_ : Int} (h : splOk l at_ = false) : splitF l at_ = none := by simp [splitF, h]
theorem valid_keys {l : List LinkT} (h : validC l = true) {i : Nat} (hi : i < l.length) : ∃ low, okLk (gL l i) low = true := by
  obtain ⟨_, ⟨c, hc⟩, h3⟩ := from_ok h hi
  have := sfx_ok h3 (by rw [hc]; simp [hdq])
  rw [hc] at this
  simpa [hdq] using this
theorem valid_len4 {l : List LinkT} (h : validC l = true) {i : Nat} (hi : i < l.length) : (gL l i).keys.length ≤ 4 ∧ validK (gL l i).keys = true := by
  obtain ⟨low, h⟩ := valid_keys h hi
  exact ⟨(okLk_iff.1 h).2.1, (okLk_iff.1 h).2.2.1⟩
def putAt (l : List LinkT) (f : Nat) (key : Int) : List LinkT := l.set f ⟨insK (gL l f).keys key, (gL l f).high, (gL l f).right⟩
def putF (l : List LinkT) (key : Int) : Option (List LinkT) :=
  if validC l && isKeyB key then
    if key ∈ (gL l (findC l 0 key).toNat).keys then some l
    else if (gL l (findC l 0 key).toNat).keys.length = 4 then (splitF l (findC l 0 key)).map fun l' => putAt l' (findC l' 0 key).toNat key
    else some (putAt l (findC l 0 key).toNat key)
  else none
end Go.Px
