/- The statement Rows.FnExactParseRowCardSaid: the Go function laws.FnExactParseRow returns true for every input, and each argument reads afterwards as it read before; the tied card. Condition: the listed package-level variables read as the card ties them to the program's text. -/
import Derived.Test.YtfdlmimgooeioaaDoorRows
import Derived.Test.YtfdlmimgooeioaaDoorCards
import Derived.Test.YtfdlmimgooeioaaDoorTie
import Derived.Test.YtfdlmimgooeioaaDoorPxO
import Derived.Test.YtfdlmimgooeioaaDoorEJ
import Derived.WalkKit
import Derived.ProofKit
import Derived.OpenShut
import Derived.ShutString
import Derived.ChangeOld
import Derived.SliceStrings
import Derived.Deep.Slices
import Derived.Deep.Fields
import Derived.ChangeSame
import Derived.Below
import Derived.LaidMore
import Derived.Stop.Joined
import Derived.SevenTiedAt
import Derived.MakeChecks
import Derived.Lay
set_option linter.unusedVariables false
set_option linter.unusedSimpArgs false
namespace Go.Proofs.YtfdlmimgooeioaaDoor
open Go.Px
set_option linter.unusedVariables false
theorem FnExactParseRow_fn (s : Str) (w : World) (hlw : LW w) (hl : s.length ≤ 9223372036854775807) :
    Does Tryd.prog 7 [S (s)] w (fun v w1 => v = .bool (true) ∧ Mem w w1 [] []) := by
  have hM : Mem w w [] [] := Mem.refl
  refine Does.enter1 Tryd.func7 rfl Tryd.results7 Tryd.ntmps7 rfl ?_
  refine C.seq ?_
  refine C.region ?_
  refine O.val (v := .bool (false)) rfl (Ru.assign rfl) rfl ?_
  refine O.nil ?_
  refine C.seq ?_
  refine C.seq ?_
  refine C.region ?_
  refine O.val (v := S (s)) rfl (Ru.move rfl) rfl ?_
  refine O.val (v := I (((s).length : Int))) rfl (Ru.slen Tryd.underlying9 rfl) rfl ?_
  refine O.val (v := .bool (decide (((s).length : Int) > 1048576))) rfl (Ru.gtr rfl rfl) rfl ?_
  refine O.nil ?_
  refine C.cond (p := ((s).length : Int) > 1048576) rfl (fun c13 => ?_) (fun c13 => ?_)
  · refine C.seq ?_
    refine C.region ?_
    refine O.val (v := .bool (true)) rfl (Ru.assign rfl) rfl ?_
    refine O.nil ?_
    refine C.ret ?_
    refine P1 (v := .bool (true)) rfl ?_
    exact ⟨rfl, (Mem.none hM)⟩
  · have hrl := rowS_len (s := s)
    refine C.skip ?_
    refine C.seq ?_
    refine C.region ?_
    refine O.val (v := S (s)) rfl (Ru.move rfl) rfl ?_
    refine O.callg [S (s)] rfl en26 rfl rfl (sParseRow_fn s w (by omega)) ?_
    rintro _ w3_1 ⟨A13_1, c13_1, rfl, hR3_1⟩
    have hM3_1 : Mem w w3_1 [] [[⟨.slice (A13_1) (((rowS s).getD []).length) (c13_1), 61, 2, (((rowS s).getD []).length), ((rowS s).getD []).flatMap encP⟩]] := Mem.call (Ma := []) hM hR3_1 rfl
    have hcr3_1_0 := (hM3_1.cap 0 rfl).1
    refine O.val (v := .tuple #[.slice (A13_1) (((rowS s).getD []).length) (c13_1), .bool ((rowS s).isSome)]) rfl (Ru.move rfl) rfl ?_
    refine O.val (v := .slice (A13_1) (((rowS s).getD []).length) (c13_1)) rfl (Ru.extract rfl rfl) rfl ?_
    refine O.val (v := .bool ((rowS s).isSome)) rfl (Ru.extract rfl rfl) rfl ?_
    refine O.val (v := .slice (A13_1) (((rowS s).getD []).length) (c13_1)) rfl (Ru.assign rfl) rfl ?_
    refine O.val (v := .bool ((rowS s).isSome)) rfl (Ru.assign rfl) rfl ?_
    refine O.nil ?_
    refine C.seq ?_
    refine C.region ?_
    refine O.val (v := S (s)) rfl (Ru.move rfl) rfl ?_
    refine O.callg [S (s)] rfl en27 rfl rfl (ParseRow_fn s w3_1 (hlw.at hM3_1) (by omega)) ?_
    rintro _ w4_1 ⟨A14_1, c14_1, rfl, hR4_1⟩
    have hM4_1 : Mem w w4_1 [] [[⟨.slice (A14_1) (((rowS s).getD []).length) (c14_1), 61, 2, (((rowS s).getD []).length), ((rowS s).getD []).flatMap encP⟩], [⟨.slice (A13_1) (((rowS s).getD []).length) (c13_1), 61, 2, (((rowS s).getD []).length), ((rowS s).getD []).flatMap encP⟩]] := Mem.call (Ma := []) hM3_1 hR4_1 rfl
    have hcr4_1_0 := (hM4_1.cap 0 rfl).1
    refine O.val (v := .tuple #[.slice (A14_1) (((rowS s).getD []).length) (c14_1), .bool ((rowS s).isSome)]) rfl (Ru.move rfl) rfl ?_
    refine O.val (v := .slice (A14_1) (((rowS s).getD []).length) (c14_1)) rfl (Ru.extract rfl rfl) rfl ?_
    refine O.val (v := .bool ((rowS s).isSome)) rfl (Ru.extract rfl rfl) rfl ?_
    refine O.val (v := .slice (A14_1) (((rowS s).getD []).length) (c14_1)) rfl (Ru.assign rfl) rfl ?_
    refine O.val (v := .bool ((rowS s).isSome)) rfl (Ru.assign rfl) rfl ?_
    refine O.nil ?_
    refine C.seq ?_
    refine C.seq ?_
    refine C.region ?_
    refine O.val (v := .slice (A14_1) (((rowS s).getD []).length) (c14_1)) rfl (Ru.move rfl) rfl ?_
    refine O.val (v := .slice (A13_1) (((rowS s).getD []).length) (c13_1)) rfl (Ru.move rfl) rfl ?_
    refine O.callg [.slice (A14_1) (((rowS s).getD []).length) (c14_1), .slice (A13_1) (((rowS s).getD []).length) (c13_1)] rfl en17 rfl rfl (eqPairS_fn A14_1 c14_1 ((rowS s).getD []) A13_1 c13_1 ((rowS s).getD []) w4_1 (hM4_1.rd 0 rfl) (hM4_1.rd 1 rfl) (by omega)) ?_
    rintro _ w5_2 ⟨hv5_2, hR5_2⟩
    obtain rfl : _ = Value.bool true := hv5_2.trans (by simp)
    have hM5_2 : Mem w w5_2 [] [[⟨.slice (A14_1) (((rowS s).getD []).length) (c14_1), 61, 2, (((rowS s).getD []).length), ((rowS s).getD []).flatMap encP⟩], [⟨.slice (A13_1) (((rowS s).getD []).length) (c13_1), 61, 2, (((rowS s).getD []).length), ((rowS s).getD []).flatMap encP⟩]] := Mem.call (Ma := []) hM4_1 hR5_2 rfl
    refine O.val (v := .bool (false)) rfl (Ru.not (b := true) rfl) rfl ?_
    refine O.val (v := .bool (false)) rfl (Ru.move rfl) rfl ?_
    refine O.val (v := .bool ((rowS s).isSome)) rfl (Ru.move rfl) rfl ?_
    refine O.val (v := .bool ((rowS s).isSome)) rfl (Ru.move rfl) rfl ?_
    refine O.val (v := .bool (false)) rfl (Ru.congr (v := .bool (decide ((rowS s).isSome ≠ (rowS s).isSome))) (v' := .bool (false)) (Ru.bneq Tryd.underlying4 rfl rfl) ((congrArg Value.bool (decide_eq_false (by simp))))) rfl ?_
    refine O.val (v := .bool (false)) rfl (Ru.pickF rfl rfl) rfl ?_
    refine O.nil ?_
    refine C.condF rfl ?_
    refine C.skip ?_
    refine C.seq ?_
    refine C.region ?_
    refine O.val (v := I (1)) rfl (Ru.assign rfl) rfl ?_
    refine O.nil ?_
    refine C.seq ?_
    refine C.region ?_
    refine O.val (v := .slice (A14_1) (((rowS s).getD []).length) (c14_1)) rfl (Ru.move rfl) rfl ?_
    refine O.val (v := I (1)) rfl (Ru.move rfl) rfl ?_
    refine O.callg [.slice (A14_1) (((rowS s).getD []).length) (c14_1), I (1)] rfl en28 rfl rfl (markPairS_fn A14_1 c14_1 ((rowS s).getD []) 1 w5_2 (Mem.focus (Ma := [[⟨.slice (A14_1) (((rowS s).getD []).length) (c14_1), 61, 2, (((rowS s).getD []).length), ((rowS s).getD []).flatMap encP⟩]]) (rest := [[⟨.slice (A13_1) (((rowS s).getD []).length) (c13_1), 61, 2, (((rowS s).getD []).length), ((rowS s).getD []).flatMap encP⟩]]) hM5_2 rfl) (by omega) (by first | omega | assumption | (simp; omega) | simp | (intros; omega))) ?_
    rintro _ w8_2 ⟨rfl, hR8_2⟩
    have hM8_2 : Mem w w8_2 [] [[⟨.slice (A14_1) ((((rowS s).getD [])).length) (c14_1), 61, 2, ((((rowS s).getD [])).length), (mkL (fun t => ⟨((1 + 2 * t : Nat) : Int), ((1 + 2 * t + 1 : Nat) : Int)⟩ : Nat → PairT) ((rowS s).getD []).length).flatMap encP⟩], [⟨.slice (A13_1) (((rowS s).getD []).length) (c13_1), 61, 2, (((rowS s).getD []).length), ((rowS s).getD []).flatMap encP⟩]] := Mem.call (Ma := [[⟨.slice (A14_1) (((rowS s).getD []).length) (c14_1), 61, 2, (((rowS s).getD []).length), ((rowS s).getD []).flatMap encP⟩]]) hM5_2 hR8_2 rfl
    have hcr8_2_0 := (hM8_2.cap 0 rfl).1
    refine O.val (v := I (((1 + 2 * ((rowS s).getD []).length : Nat) : Int))) rfl (Ru.assign rfl) rfl ?_
    refine O.nil ?_
    refine C.seq ?_
    refine C.region ?_
    refine O.val (v := I (1)) rfl (Ru.assign rfl) rfl ?_
    refine O.nil ?_
    refine C.seq ?_
    refine C.region ?_
    refine O.val (v := .slice (A14_1) (((rowS s).getD []).length) (c14_1)) rfl (Ru.move rfl) rfl ?_
    refine O.val (v := I (1)) rfl (Ru.move rfl) rfl ?_
    refine O.callg [.slice (A14_1) (((rowS s).getD []).length) (c14_1), I (1)] rfl en29 rfl rfl (heldPairS_fn A14_1 (((rowS s).getD []).length) c14_1 1 w8_2 (hM8_2.rd 0 rfl) (by first | omega | assumption | (simp; omega) | simp | (intros; omega)) (by first | omega | assumption | (simp; omega) | simp | (intros; omega))) ?_
    rintro _ w10_2 ⟨rfl, hR10_2⟩
    have hM10_2 : Mem w w10_2 [] [[⟨.slice (A14_1) ((((rowS s).getD [])).length) (c14_1), 61, 2, ((((rowS s).getD [])).length), (mkL (fun t => ⟨((1 + 2 * t : Nat) : Int), ((1 + 2 * t + 1 : Nat) : Int)⟩ : Nat → PairT) ((rowS s).getD []).length).flatMap encP⟩], [⟨.slice (A13_1) (((rowS s).getD []).length) (c13_1), 61, 2, (((rowS s).getD []).length), ((rowS s).getD []).flatMap encP⟩]] := Mem.call (Ma := []) hM8_2 hR10_2 rfl
    refine O.val (v := I (((1 + 2 * (((rowS s).getD []).length) : Nat) : Int))) rfl (Ru.assign rfl) rfl ?_
    refine O.nil ?_
    refine C.seq ?_
    refine C.seq ?_
    refine C.region ?_
    refine O.val (v := I (((1 + 2 * (((rowS s).getD []).length) : Nat) : Int))) rfl (Ru.move rfl) rfl ?_
    refine O.val (v := .bool (false)) rfl (Ru.congr (v := .bool (decide (((1 + 2 * (((rowS s).getD []).length) : Nat) : Int) < 0))) (v' := .bool (false)) (Ru.lss rfl rfl) ((congrArg Value.bool (decide_eq_false (by omega))))) rfl ?_
    refine O.nil ?_
    refine C.condF rfl ?_
    refine C.skip ?_
    refine C.seq ?_
    refine C.seq ?_
    refine C.region ?_
    refine O.val (v := I (((1 + 2 * (((rowS s).getD []).length) : Nat) : Int))) rfl (Ru.move rfl) rfl ?_
    refine O.val (v := I (((1 + 2 * ((rowS s).getD []).length : Nat) : Int))) rfl (Ru.move rfl) rfl ?_
    refine O.val (v := .bool (false)) rfl (Ru.congr (v := .bool (decide (((1 + 2 * (((rowS s).getD []).length) : Nat) : Int) ≠ ((1 + 2 * ((rowS s).getD []).length : Nat) : Int)))) (v' := .bool (false)) (Ru.neq rfl rfl) ((congrArg Value.bool (decide_eq_false (by omega))))) rfl ?_
    refine O.nil ?_
    refine C.condF rfl ?_
    refine C.skip ?_
    refine C.seq ?_
    refine C.region ?_
    refine O.val (v := S (s)) rfl (Ru.move rfl) rfl ?_
    refine O.callg [S (s)] rfl en27 rfl rfl (ParseRow_fn s w10_2 (hlw.at hM10_2) (by omega)) ?_
    rintro _ w15_1 ⟨A115_1, c115_1, rfl, hR15_1⟩
    have hM15_1 : Mem w w15_1 [] [[⟨.slice (A115_1) (((rowS s).getD []).length) (c115_1), 61, 2, (((rowS s).getD []).length), ((rowS s).getD []).flatMap encP⟩], [⟨.slice (A14_1) ((((rowS s).getD [])).length) (c14_1), 61, 2, ((((rowS s).getD [])).length), (mkL (fun t => ⟨((1 + 2 * t : Nat) : Int), ((1 + 2 * t + 1 : Nat) : Int)⟩ : Nat → PairT) ((rowS s).getD []).length).flatMap encP⟩], [⟨.slice (A13_1) (((rowS s).getD []).length) (c13_1), 61, 2, (((rowS s).getD []).length), ((rowS s).getD []).flatMap encP⟩]] := Mem.call (Ma := []) hM10_2 hR15_1 rfl
    have hcr15_1_0 := (hM15_1.cap 0 rfl).1
    refine O.val (v := .tuple #[.slice (A115_1) (((rowS s).getD []).length) (c115_1), .bool ((rowS s).isSome)]) rfl (Ru.move rfl) rfl ?_
    refine O.val (v := .slice (A115_1) (((rowS s).getD []).length) (c115_1)) rfl (Ru.extract rfl rfl) rfl ?_
    refine O.val (v := .bool ((rowS s).isSome)) rfl (Ru.extract rfl rfl) rfl ?_
    refine O.val (v := .slice (A115_1) (((rowS s).getD []).length) (c115_1)) rfl (Ru.assign rfl) rfl ?_
    refine O.val (v := .bool ((rowS s).isSome)) rfl (Ru.assign rfl) rfl ?_
    refine O.nil ?_
    refine C.seq ?_
    refine C.seq ?_
    refine C.region ?_
    refine O.val (v := .slice (A115_1) (((rowS s).getD []).length) (c115_1)) rfl (Ru.move rfl) rfl ?_
    refine O.val (v := .slice (A13_1) (((rowS s).getD []).length) (c13_1)) rfl (Ru.move rfl) rfl ?_
    refine O.callg [.slice (A115_1) (((rowS s).getD []).length) (c115_1), .slice (A13_1) (((rowS s).getD []).length) (c13_1)] rfl en17 rfl rfl (eqPairS_fn A115_1 c115_1 ((rowS s).getD []) A13_1 c13_1 ((rowS s).getD []) w15_1 (hM15_1.rd 0 rfl) (hM15_1.rd 2 rfl) (by omega)) ?_
    rintro _ w16_2 ⟨hv16_2, hR16_2⟩
    obtain rfl : _ = Value.bool true := hv16_2.trans (by simp)
    have hM16_2 : Mem w w16_2 [] [[⟨.slice (A115_1) (((rowS s).getD []).length) (c115_1), 61, 2, (((rowS s).getD []).length), ((rowS s).getD []).flatMap encP⟩], [⟨.slice (A14_1) ((((rowS s).getD [])).length) (c14_1), 61, 2, ((((rowS s).getD [])).length), (mkL (fun t => ⟨((1 + 2 * t : Nat) : Int), ((1 + 2 * t + 1 : Nat) : Int)⟩ : Nat → PairT) ((rowS s).getD []).length).flatMap encP⟩], [⟨.slice (A13_1) (((rowS s).getD []).length) (c13_1), 61, 2, (((rowS s).getD []).length), ((rowS s).getD []).flatMap encP⟩]] := Mem.call (Ma := []) hM15_1 hR16_2 rfl
    refine O.val (v := .bool (false)) rfl (Ru.not (b := true) rfl) rfl ?_
    refine O.val (v := .bool (false)) rfl (Ru.move rfl) rfl ?_
    refine O.val (v := .bool ((rowS s).isSome)) rfl (Ru.move rfl) rfl ?_
    refine O.val (v := .bool ((rowS s).isSome)) rfl (Ru.move rfl) rfl ?_
    refine O.val (v := .bool (false)) rfl (Ru.congr (v := .bool (decide ((rowS s).isSome ≠ (rowS s).isSome))) (v' := .bool (false)) (Ru.bneq Tryd.underlying4 rfl rfl) ((congrArg Value.bool (decide_eq_false (by simp))))) rfl ?_
    refine O.val (v := .bool (false)) rfl (Ru.pickF rfl rfl) rfl ?_
    refine O.nil ?_
    refine C.condF rfl ?_
    refine C.skip ?_
    refine C.seq ?_
    refine C.region ?_
    refine O.val (v := I (1)) rfl (Ru.assign rfl) rfl ?_
    refine O.nil ?_
    refine C.seq ?_
    refine C.region ?_
    refine O.val (v := .slice (A14_1) (((rowS s).getD []).length) (c14_1)) rfl (Ru.move rfl) rfl ?_
    refine O.val (v := I (1)) rfl (Ru.move rfl) rfl ?_
    refine O.callg [.slice (A14_1) (((rowS s).getD []).length) (c14_1), I (1)] rfl en29 rfl rfl (heldPairS_fn A14_1 (((rowS s).getD []).length) c14_1 1 w16_2 (hM16_2.rd 1 rfl) (by first | omega | assumption | (simp; omega) | simp | (intros; omega)) (by first | omega | assumption | (simp; omega) | simp | (intros; omega))) ?_
    rintro _ w19_2 ⟨rfl, hR19_2⟩
    have hM19_2 : Mem w w19_2 [] [[⟨.slice (A115_1) (((rowS s).getD []).length) (c115_1), 61, 2, (((rowS s).getD []).length), ((rowS s).getD []).flatMap encP⟩], [⟨.slice (A14_1) ((((rowS s).getD [])).length) (c14_1), 61, 2, ((((rowS s).getD [])).length), (mkL (fun t => ⟨((1 + 2 * t : Nat) : Int), ((1 + 2 * t + 1 : Nat) : Int)⟩ : Nat → PairT) ((rowS s).getD []).length).flatMap encP⟩], [⟨.slice (A13_1) (((rowS s).getD []).length) (c13_1), 61, 2, (((rowS s).getD []).length), ((rowS s).getD []).flatMap encP⟩]] := Mem.call (Ma := []) hM16_2 hR19_2 rfl
    refine O.val (v := I (((1 + 2 * (((rowS s).getD []).length) : Nat) : Int))) rfl (Ru.assign rfl) rfl ?_
    refine O.nil ?_
    refine C.seq ?_
    refine C.seq ?_
    refine C.region ?_
    refine O.val (v := I (((1 + 2 * (((rowS s).getD []).length) : Nat) : Int))) rfl (Ru.move rfl) rfl ?_
    refine O.val (v := .bool (false)) rfl (Ru.congr (v := .bool (decide (((1 + 2 * (((rowS s).getD []).length) : Nat) : Int) < 0))) (v' := .bool (false)) (Ru.lss rfl rfl) ((congrArg Value.bool (decide_eq_false (by omega))))) rfl ?_
    refine O.nil ?_
    refine C.condF rfl ?_
    refine C.skip ?_
    refine C.seq ?_
    refine C.seq ?_
    refine C.region ?_
    refine O.val (v := I (((1 + 2 * (((rowS s).getD []).length) : Nat) : Int))) rfl (Ru.move rfl) rfl ?_
    refine O.val (v := I (((1 + 2 * ((rowS s).getD []).length : Nat) : Int))) rfl (Ru.move rfl) rfl ?_
    refine O.val (v := .bool (false)) rfl (Ru.congr (v := .bool (decide (((1 + 2 * (((rowS s).getD []).length) : Nat) : Int) ≠ ((1 + 2 * ((rowS s).getD []).length : Nat) : Int)))) (v' := .bool (false)) (Ru.neq rfl rfl) ((congrArg Value.bool (decide_eq_false (by omega))))) rfl ?_
    refine O.nil ?_
    refine C.condF rfl ?_
    refine C.skip ?_
    refine C.seq ?_
    refine C.region ?_
    refine O.val (v := .bool (true)) rfl (Ru.assign rfl) rfl ?_
    refine O.nil ?_
    refine C.ret ?_
    refine P1 (v := .bool (true)) rfl ?_
    exact ⟨rfl, (Mem.none hM19_2)⟩
end Go.Proofs.YtfdlmimgooeioaaDoor
namespace Go.Proofs.YtfdlmimgooeioaaDoor.fnExactParseRow
open Go.ChangeShapes Go.WideShapes Go.ChangeAt Go.RowKit Go.Px
open Go.ChangeMaps (open_string shut_string)
set_option linter.unusedVariables false

theorem own : ownKnob Tryd.prog.godebug = none := by kernel_rfl
theorem laidOut : laidOutB Tryd.prog = true := by kernel_rfl

set_option maxRecDepth 100000 in
theorem lifted (os : Os) (started : os.Started) (H : Type) (enc : TypeId × Value → H) :
    ReturnsInHanded {} Tryd.checked os 7 .any (fun w args => (Rows.fnExactParseRowSpec.pre enc Tryd.prog Tryd.f7 [] false w args ∧ laidMetH Tryd.prog Rows.fnExactParseRowRow.laid w) ∧ sizedMet enc Tryd.prog Tryd.f7 (OpenSpec.ofChange Rows.fnExactParseRowSpec) false w args) (Rows.fnExactParseRowSpec.post enc Tryd.prog Tryd.f7 false true false false) := by
  refine Px.returnsIn_and_shaped (C := Tryd.checked) (X := fun w _ => laidMetH Tryd.prog Rows.fnExactParseRowRow.laid w) (fun _ _ _ hh h => h.of_heap hh) own started (by kernel_rfl) Tryd.func7
    (ChangeSpec.witness_shaped (enc := enc) (C := Tryd.checked) (os := os) (X := fun w _ => laidMetH Tryd.prog Rows.fnExactParseRowRow.laid w) false (World.laidAll Tryd.prog os Rows.fnExactParseRowRow.laid) #[.string ByteArray.empty] 8 (World.laidAll_os _ _ _) (World.shaped_of_ZipB (by kernel_rfl) (by kernel_rfl)) (by kernel_rfl) (by kernel_rfl) (by kernel_rfl) (by rw [MakeChecks.laidMetH_plain _ _ _ (by kernel_rfl)]; exact laidMet_laidAll _ (by kernel_rfl) (by kernel_rfl))) ?_
  intro W base args ds gs before hval0 hW hL hsh
  have hval : ∀ (j : Nat) t v, Tryd.f7.params[j]? = some t → args[j]? = some v → Value.okWide Tryd.prog W .any base t v := hval0
  have hW' := hW
  obtain ⟨p, q, hA0, hV, rfl, hfz, hnd⟩ := hW'
  have hW' := hW
  have hA : DataW.TrodAll enc Tryd.prog W 0 (fun _ => true) true Tryd.f7.params.toList args.toList ds p := hA0
  rw [Tryd.params7] at hA hval
  obtain ⟨v0, vs0, d0, ds0, p0, q0, hargs, rfl, rfl, h0, r0⟩ := trodAll_cons hA
  obtain ⟨rfl, rfl, rfl⟩ := trodAll_nil r0
  obtain rfl : args = #[v0] := by cases args; simp_all
  obtain ⟨rfl, rfl⟩ := trodVars_none hV
  have k0 := h0
  have lt0 : ∀ x ∈ p0, x.block < W.heap.size := by obtain ⟨m, hm⟩ := k0; exact DataW.trod_lt m _ _ _ hm
  obtain ⟨a0, rfl, rfl, rfl, w0⟩ := open_string Tryd.underlying9 (hval 0 9 v0 rfl rfl) h0
  have hLw : LW W := lw_of hL hsh
  clear hA0 hval0
  refine (FnExactParseRow_fn a0.data.toList W hLw (by rw [← bytes_len]; unfold maxLen at w0; exact w0)).out.mono fun e W' ⟨v, he, hv, hg⟩ => ?_
  subst he hv
  have bel : Below W.heap.size W W' := ⟨hg.os, hg.tape, hg.output, hg.size, fun k hk => hg.block k hk (by simp)⟩
  exact ⟨_, rfl, _, _, _, [], _, [], hW', trodAll_mk1 (shut_bool Tryd.underlying4 _), (trodAll_cons_mk (Below.trod laidOut (by kernel_rfl) (of_decide_eq_true (by kernel_rfl)) k0 bel lt0) trodAll_mk0), rfl, bel.frame _, fun h => by cases h⟩

theorem named_ : Tryd.prog.funcNamed Rows.fnExactParseRowRow.func = some 7 := by kernel_rfl
theorem closed : joinedFacts Tryd.prog 7 Tryd.f7 Rows.fnExactParseRowSpec Rows.fnExactParseRowRow = true := by kernel_rfl
theorem inst_ : Tryd.f7.isInstance Tryd.prog Rows.fnExactParseRowRow.origin Rows.fnExactParseRowRow.targs := of_decide_eq_true (by kernel_rfl)
theorem wrap_ : Tryd.f7.isWrapper Tryd.prog Rows.fnExactParseRowRow.wrapper Rows.fnExactParseRowRow.mainSum := by
  unfold Func.isWrapper
  rw [if_neg (by decide +kernel)]
  exact ⟨rfl, rfl⟩
theorem over : Rows.fnExactParseRowRow.holds Tryd.pinned (OpenSpec.ofChange Rows.fnExactParseRowSpec) :=
  OpenClaim.holds_of_wide 7 Tryd.f7 rfl rfl rfl rfl rfl rfl rfl ⟨rfl, rfl, rfl, rfl, rfl⟩ rfl rfl rfl rfl rfl named_ Tryd.func7 closed inst_ wrap_
    (fun os started H enc _ => lifted os started H enc)
theorem proved : Rows.FnExactParseRowCardSaid :=
  Claim7.holds_tied_plain_at .later [] [.data, .data, .data, .data, .sentinel, .sentinel, .pinned] true (true, "124a393d7e7933ca6a4c65599ee55d0bdb73d00978c952e65eea3ed228b91ce8") true over (fun _ h => by cases h) (by kernel_rfl) (fun _ h => by cases h) fnExactParseRow_row_tie rfl ⟨rfl, rfl⟩ (by kernel_rfl) rfl
    (fun f fn hf hfn => by
      obtain rfl : f = 7 := Option.some.inj (named_.symm.trans hf) |>.symm
      obtain rfl : fn = Tryd.f7 := (Option.some.inj (Tryd.func7.symm.trans hfn)).symm
      exact ⟨by kernel_rfl, fun j t ht => by
        rw [Tryd.params7] at ht
        have hm : t ∈ [9] := by simpa using Array.mem_of_getElem? ht
        have hall : ([9].all fun u => !Tryd.prog.wantsStandIn u) = true := by kernel_rfl
        exact (show Tryd.prog.wantsStandIn t = false by simpa using List.all_eq_true.1 hall t hm)⟩)
    (by kernel_rfl)
end Go.Proofs.YtfdlmimgooeioaaDoor.fnExactParseRow
