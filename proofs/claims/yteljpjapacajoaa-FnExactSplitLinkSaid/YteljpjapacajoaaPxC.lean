/- Own layer: the facts on a program head. Plain theorems; no conditions. -/
import Derived.ProofKit
import Derived.JoinedOf
set_option linter.unusedVariables false
set_option linter.unusedSimpArgs false
/-! The facts on a program's head, from its words. -/
namespace Go.Px
theorem behind {h s : List Char} {r : List (List Char)} (h1 : (h == "harness".toList) = true) (h2 : isSumSigns s = true) : behindMainWord (h :: s :: r) = r := by
  simp only [behindMainWord, h1, h2, Bool.true_or, Bool.and_true, if_true]
/-- no word of the lifts stands ahead of a word that is none -/
theorem strip_no {w : List Char} {r : List (List Char)} : ∀ (os : List String), (∀ o ∈ os, (w == o.toList) = false) → stripLifts os (w :: r) = ([], w :: r)
  | [], _ => rfl
  | o :: os, h => by
    have h0 := h o (by simp)
    simp only [stripLifts, h0, Bool.false_eq_true, if_false]
    exact strip_no os (fun o ho => h o (by simp [ho]))
section
variable {P : Program} {r : List (List Char)} {c : List Char}
theorem mayEnter_of (hb : behindMainWord (wordsSigns P.initOrder.toList) = c :: r) (hc : c = "cut".toList) (hs : stripLifts liftWords (c :: r) = ([], c :: r)) (h1 : P.laysLater = false) (h2 : P.bearsReflect = false) (h3 : P.doorFits [] = true) : P.mayEnter = true := by
  unfold Program.mayEnter
  rw [hb]
  have hcut : (some c == some "cut".toList) = true := by rw [hc]; simp
  simp only [hs, h1, h2, h3, List.head?_cons, hcut, Bool.not_false, Bool.or_true, Bool.and_true, Bool.true_and]
  simp
theorem lifts_of (hb : behindMainWord (wordsSigns P.initOrder.toList) = c :: r) (hc : c = "cut".toList) (hs : stripLifts liftWords (c :: r) = ([], c :: r)) (hn : (some c == some "carried".toList) = false) : P.liftsFinal = false := by
  unfold Program.liftsFinal Program.headLifts
  rw [hb]
  have hcut : (some c == some "cut".toList) = true := by rw [hc]; simp
  simp only [hs, List.head?_cons, hn, Bool.false_and, Bool.false_or, hcut, if_true]
  rfl
theorem made_of (hb : behindMainWord (wordsSigns P.initOrder.toList) = c :: r) (hc : c = "cut".toList) (h1 : (c == "gc".toList) = false) (h2 : (c == "spec".toList) = false) : P.make = some .cut := by
  unfold Program.make
  rw [hb]
  simp only [h1, h2, Bool.or_self, Bool.false_eq_true, if_false]
  simp [hc]
end
end Go.Px
