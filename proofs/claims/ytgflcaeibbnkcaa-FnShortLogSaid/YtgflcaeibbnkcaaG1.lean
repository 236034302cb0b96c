/- Own layer: part of this seat (G1). Plain theorems; no conditions. -/
import Derived.Test.YtgflcaeibbnkcaaG0
set_option linter.unusedVariables false
set_option linter.unusedSimpArgs false
namespace Go.Px
theorem rep_s1 {R L : List PairT} {r : RecT} (hL : L = if r.kind = 1 then putP R ⟨r.key, r.val⟩ else R) (h2 : r.kind ≠ 2) : L = applyR R r := by
  subst hL; simp [applyR, h2]
theorem rep_s2 {R L : List PairT} {r : RecT} (hL : L = if r.kind = 1 then putP R ⟨r.key, r.val⟩ else R) (h2 : r.kind = 2) (hin : r.key ∉ keysP L) : L = applyR R r := by
  have h1 : r.kind ≠ 1 := by omega
  rw [if_neg h1] at hL
  subst hL
  rw [apply2 h2, drop_out (by simpa [isInB] using hin)]
theorem rep_s3 {R L : List PairT} {r : RecT} (hL : L = if r.kind = 1 then putP R ⟨r.key, r.val⟩ else R) (h2 : r.kind = 2) (hin : r.key ∈ keysP L) : L.take (plc L r.key) ++ L.drop (plc L r.key + 1) = applyR R r := by
  have h1 : r.kind ≠ 1 := by omega
  rw [if_neg h1] at hL
  subst hL
  rw [apply2 h2, drop_in (by simpa [isInB] using hin)]
theorem plc_in {L : List PairT} {k : Int} (ha : asc (keysP L) = true) (h : k ∈ keysP L) : plc L k < L.length := by
  obtain ⟨hb, _⟩ := (isIn_at ha).1 (by simpa [isInB] using h)
  exact hb
theorem with_fst {l : List PairT} {x : PairT} (h : asc (keysP l) = true) (hb : (withS l x).2 = true) : (withS l x).1 = putP l x := by
  have := with_put (x := x) h; rwa [if_pos hb] at this
theorem with_snd {l : List PairT} {x : PairT} (h : asc (keysP l) = true) (hb : (withS l x).2 = false) : (withS l x).1 ++ [x] = putP l x := by
  have := with_put (x := x) h; rwa [hb, if_neg (by simp)] at this
theorem stepW_1 {x : PairT} {s : List PairT × Bool} {p : PairT} {o : List PairT} {b : Bool} (h1 : o = s.1) (h2 : b = s.2) : stepW x s p = ((if p.key ≠ x.key then (if !b && decide (p.key ≥ x.key) then o ++ [x] else o) ++ [p] else (if !b && decide (p.key ≥ x.key) then o ++ [x] else o)), b || decide (p.key ≥ x.key)) := by
  subst h1 h2; rfl
theorem withS_len {l : List PairT} {x : PairT} : ∀ k, k ≤ l.length → (withS (l.take k) x).1.length ≤ 2 * k
  | 0, _ => by simp [withS]
  | k + 1, h => by
    rw [withS_take (by omega)]
    have := withS_len (l := l) (x := x) k (by omega)
    unfold stepW
    split <;> split <;> simp <;> omega
end Go.Px
