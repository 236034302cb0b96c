/- Own layer: part of this seat (T3). Plain theorems; no conditions. -/
import Derived.Test.YtfdlmimgooeioaaDoorT1
import Derived.Test.YtfdlmimgooeioaaDoorSH
import Derived.Test.YtfdlmimgooeioaaDoorRows
set_option linter.unusedVariables false
set_option linter.unusedSimpArgs false
/-! this program's contracts on numbers as texts and on a builder's text -/
namespace Go.Proofs.YtfdlmimgooeioaaDoor
open Go.Px Go.RowKit
/-- the name of the library's table of powers of ten, as the given rows list it -/
def tabN : String := Rows.fnRowTextRow.named.headD ""
abbrev TAB (w : World) : Prop := Lib.TabIs Tryd.prog w tabN .u64 Lib.pow10Tab
theorem Itoa_fn (n : Int) (w : World) (htab : TAB w) (hn : -9223372036854775808 ≤ n ∧ n ≤ 9223372036854775807) : Does Tryd.prog 47 [I (n)] w (fun v w1 => v = S (itoaS n) ∧ Mem w w1 [] []) :=
  ⟨(Any.strconv_Itoa Tryd.laysM171 n hn.1 hn.2 w htab).mono fun e w' ⟨he, k, os, hw⟩ => ⟨_, he, rfl, by rw [hw]; exact Px.mem_grow⟩⟩
theorem String_fn {l : Str} {b : Nat} (w : World) {B : Nat} (hBw : B ≤ w.heap.size) (h : Lib.IsBuilder 66 5 B b (Lib.byteCells l) w) : Does Tryd.prog 48 [.pointer (ofs (bl b) 0)] w (fun v w1 => v = S l ∧ Below B w w1) :=
  ⟨(Tryd.Builder_String_any B b l w h hBw).mono fun e w' ⟨he, hw⟩ => ⟨_, he, rfl, hw⟩⟩
end Go.Proofs.YtfdlmimgooeioaaDoor
namespace Go.Px
open Go.RowKit
section
variable {w0 w w1 : World} {M : List (List FE)}
theorem mem_below (h : Mem w0 w [] M) (hB : Below w0.heap.size w w1) : Mem w0 w1 [] [] :=
  ⟨hB.os.trans h.os, hB.tape.trans h.tape, hB.output.trans h.output, Nat.le_trans h.size hB.size, fun k hk hr => (hB.block k hk).trans (h.block k hk hr), by simp, by simp, by simp⟩
theorem Mem0.builder {A : Option Addr} {b c T e : Nat} {p : Value} {l : Str} (h : Mem w0 w [] M) (i j : Nat) (hi : M[i]? = some [⟨.slice (bl b) 1 1, T, 2, 1, [p, .slice A l.length c]⟩]) (hj : M[j]? = some [⟨.slice A l.length c, e, 1, l.length, l.map byteV⟩]) (hp : p = .pointer none ∨ p = .pointer (ofs (bl b) 0)) (hij : i ≠ j := by decide) : Lib.IsBuilder T e w0.heap.size b (Lib.byteCells l) w := by
  have hb := mem_blk (i := i) (j := 0) h hi rfl
  have ho : Px.own w 0 e 1 (.slice A l.length c) l.length (l.map byteV) := h.get hj (j := 0) rfl
  have hbb : w0.heap.size ≤ b := by
    rcases h.born _ (List.mem_flatten.2 ⟨_, List.mem_of_getElem? hi, List.mem_singleton.2 rfl⟩) b rfl with h1 | h1
    · exact h1
    · simp at h1
  have hg := Px.grp_get (List.pairwise_flatten.1 h.apart).2 hi hj hij
  have hap : Apart _ _ := hg _ (List.mem_singleton.2 rfl) _ (List.mem_singleton.2 rfl)
  have key : ∀ q : Value, p = q → Lib.BuilderAt T e w0.heap.size b q (Lib.byteCells l) w := by
    rintro q rfl
    refine ⟨hbb, _, hb, ⟨?_, ?_⟩, ?_⟩
    · simp [Lib.byteCells]
    · have hlen : (Lib.byteCells l).length = l.length := by simp [Lib.byteCells]
      rw [hlen]
      obtain ⟨_, ⟨hv, h0⟩ | ⟨g, cap, cur, hv, hbg, hgg, hnc, hcm, hcs, ht⟩⟩ := ho
      · left; exact ⟨hv, h0⟩
      · right
        refine ⟨g, cap, cur, hv, ?_, hgg, hnc, hcm, hcs, ht⟩
        rcases h.born _ (List.mem_flatten.2 ⟨_, List.mem_of_getElem? hj, List.mem_singleton.2 rfl⟩) g (by rw [FE.blk, hv]; rfl) with h1 | h1
        · exact h1
        · simp at h1
    · intro e'
      exact hap b rfl e'
  rcases hp with hp | hp
  · exact .inl (key _ hp)
  · exact .inr (key _ hp)
end
end Go.Px
