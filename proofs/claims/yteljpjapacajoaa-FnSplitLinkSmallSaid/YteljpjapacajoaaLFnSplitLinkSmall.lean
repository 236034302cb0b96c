/- The statement Rows.FnSplitLinkSmallSaid: the Go function laws.FnSplitLinkSmall returns true for every input, and each argument reads afterwards as it read before. No conditions. -/
import Derived.Test.YteljpjapacajoaaRows
import Derived.Test.YteljpjapacajoaaPxO
import Derived.Test.YteljpjapacajoaaDZ
import Derived.Test.YteljpjapacajoaaH0
import Derived.WalkKit
import Derived.ProofKit
import Derived.OpenShut
import Derived.ShutString
import Derived.ChangeOld
import Derived.SliceStrings
import Derived.Deep.Slices
import Derived.Deep.Fields
import Derived.ChangeSame
import Derived.Below
set_option linter.unusedVariables false
set_option linter.unusedSimpArgs false
namespace Go.Proofs.Yteljpjapacajoaa
open Go.Px
set_option linter.unusedVariables false
theorem FnSplitLinkSmall_fn (A : Option Addr) (c : Nat) (l : List UInt8) (w : World) (hA : Rd w A ((l).map byteV)) (hl : l.length ≤ 9223372036854775807) (hc : l.length ≤ c) :
    Does Try.prog 10 [.slice (A) ((l).length) (c)] w (fun v w1 => v = .bool (true) ∧ Mem w w1 [] []) := by
  have hM : Mem w w [] [] := Mem.refl
  refine Does.enter1 Try.func10 rfl Try.results10 Try.ntmps10 rfl ?_
  refine C.seq ?_
  refine C.region ?_
  refine O.val (v := .bool (false)) rfl (Ru.assign rfl) rfl ?_
  refine O.nil ?_
  refine C.seq ?_
  refine C.seq ?_
  refine C.region ?_
  refine O.val (v := .slice (A) ((l).length) (c)) rfl (Ru.move rfl) rfl ?_
  refine O.val (v := I ((((l).length : Nat) : Int))) rfl (Ru.blenSlice Try.underlying22 rfl) rfl ?_
  refine O.val (v := .bool (decide ((((l).length : Nat) : Int) > 1048576))) rfl (Ru.gtr rfl rfl) rfl ?_
  refine O.nil ?_
  refine C.cond (p := (((l).length : Nat) : Int) > 1048576) rfl (fun c11 => ?_) (fun c11 => ?_)
  · refine C.seq ?_
    refine C.region ?_
    refine O.val (v := .bool (true)) rfl (Ru.assign rfl) rfl ?_
    refine O.nil ?_
    refine C.ret ?_
    refine P1 (v := .bool (true)) rfl ?_
    exact ⟨rfl, (Mem.none hM)⟩
  · refine C.skip ?_
    refine C.seq ?_
    refine C.region ?_
    refine O.val (v := .slice (A) ((l).length) (c)) rfl (Ru.move rfl) rfl ?_
    refine O.callg [.slice (A) ((l).length) (c)] rfl en36 rfl rfl (DrawSplitLink_fn A c l w (hA.at hM) (by first | omega | assumption | (simp; omega) | simp | (intros; omega)) (by first | omega | assumption | (simp; omega) | simp | (intros; omega))) ?_
    rintro _ w3_1 ⟨l13_1, A13_1, c13_1, G3_1, at13_1, rfl, hl3_1, hk3_1, hG3_1, hcp3_1, hR3_1⟩
    have hM3_1 : Mem w w3_1 [] [[⟨.slice (A13_1) ((l13_1).length) (c13_1), 28, 3, ((l13_1).length), (l13_1).flatMap encL⟩], G3_1] := Mem.call (Ma := []) hM hR3_1 rfl
    have hcr3_1_0 := (hM3_1.cap 0 rfl).1
    refine O.val (v := .tuple #[.slice (A13_1) ((l13_1).length) (c13_1), I (at13_1)]) rfl (Ru.move rfl) rfl ?_
    refine O.val (v := .slice (A13_1) ((l13_1).length) (c13_1)) rfl (Ru.extract rfl rfl) rfl ?_
    refine O.val (v := I (at13_1)) rfl (Ru.extract rfl rfl) rfl ?_
    refine O.val (v := .slice (A13_1) ((l13_1).length) (c13_1)) rfl (Ru.assign rfl) rfl ?_
    refine O.val (v := I (at13_1)) rfl (Ru.assign rfl) rfl ?_
    refine O.nil ?_
    refine C.seq ?_
    refine C.region ?_
    refine O.val (v := .slice (A13_1) ((l13_1).length) (c13_1)) rfl (Ru.move rfl) rfl ?_
    refine O.val (v := I (at13_1)) rfl (Ru.move rfl) rfl ?_
    refine O.callg [.slice (A13_1) ((l13_1).length) (c13_1), I (at13_1)] rfl en32 rfl rfl (SplitLink_fn A13_1 c13_1 l13_1 at13_1 w3_1 (hM3_1.rd 0 rfl) (hG3_1 _ (Mem.gown hM3_1 1 rfl)) (by omega) (by exact hcp3_1)) ?_
    rintro _ w4_2 ⟨L14_2, A14_2, c14_2, rfl, hts4_2, hR4_2⟩
    have hM4_2 : Mem w w4_2 [] [[⟨.slice (A14_2) ((L14_2).length) (c14_2), 28, 3, ((L14_2).length), (L14_2).flatMap encL⟩], (L14_2).map (keyF 3), [⟨.slice (A13_1) ((l13_1).length) (c13_1), 28, 3, ((l13_1).length), (l13_1).flatMap encL⟩], G3_1] := Mem.call (Ma := []) hM3_1 hR4_2 rfl
    have hcr4_2_0 := (hM4_2.cap 0 rfl).1
    have hL4 : L14_2.length ≤ 17 := by have h8 := congrArg List.length hts4_2; have h9 := splF_len (l := tsL l13_1) (at_ := at13_1); simp only [List.length_map] at h8; omega
    have hK4 : ∀ x ∈ L14_2, x.t.keys.length ≤ 100 := keys_le hts4_2 splF_keys4
    refine O.val (v := .tuple #[.slice (A14_2) ((L14_2).length) (c14_2), .bool ((splitF (tsL l13_1) at13_1).isSome)]) rfl (Ru.move rfl) rfl ?_
    refine O.val (v := .slice (A14_2) ((L14_2).length) (c14_2)) rfl (Ru.extract rfl rfl) rfl ?_
    refine O.val (v := .bool ((splitF (tsL l13_1) at13_1).isSome)) rfl (Ru.extract rfl rfl) rfl ?_
    refine O.val (v := .slice (A14_2) ((L14_2).length) (c14_2)) rfl (Ru.assign rfl) rfl ?_
    refine O.val (v := .bool ((splitF (tsL l13_1) at13_1).isSome)) rfl (Ru.assign rfl) rfl ?_
    refine O.nil ?_
    refine C.seq ?_
    refine C.region ?_
    refine O.val (v := .slice (A13_1) ((l13_1).length) (c13_1)) rfl (Ru.move rfl) rfl ?_
    refine O.val (v := I (at13_1)) rfl (Ru.move rfl) rfl ?_
    refine O.callg [.slice (A13_1) ((l13_1).length) (c13_1), I (at13_1)] rfl en30 rfl rfl (sSplitLink_fn A13_1 c13_1 l13_1 at13_1 w4_2 (hM4_2.rd 2 rfl) (hG3_1 _ (Mem.gown hM4_2 3 rfl)) (by omega) (by exact hcp3_1)) ?_
    rintro _ w5_2 ⟨L15_2, A15_2, c15_2, rfl, hts5_2, hR5_2⟩
    have hM5_2 : Mem w w5_2 [] [[⟨.slice (A15_2) ((L15_2).length) (c15_2), 28, 3, ((L15_2).length), (L15_2).flatMap encL⟩], (L15_2).map (keyF 3), [⟨.slice (A14_2) ((L14_2).length) (c14_2), 28, 3, ((L14_2).length), (L14_2).flatMap encL⟩], (L14_2).map (keyF 3), [⟨.slice (A13_1) ((l13_1).length) (c13_1), 28, 3, ((l13_1).length), (l13_1).flatMap encL⟩], G3_1] := Mem.call (Ma := []) hM4_2 hR5_2 rfl
    have hcr5_2_0 := (hM5_2.cap 0 rfl).1
    refine O.val (v := .tuple #[.slice (A15_2) ((L15_2).length) (c15_2), .bool ((splitF (tsL l13_1) at13_1).isSome)]) rfl (Ru.move rfl) rfl ?_
    refine O.val (v := .slice (A15_2) ((L15_2).length) (c15_2)) rfl (Ru.extract rfl rfl) rfl ?_
    refine O.val (v := .bool ((splitF (tsL l13_1) at13_1).isSome)) rfl (Ru.extract rfl rfl) rfl ?_
    refine O.val (v := .slice (A15_2) ((L15_2).length) (c15_2)) rfl (Ru.assign rfl) rfl ?_
    refine O.val (v := .bool ((splitF (tsL l13_1) at13_1).isSome)) rfl (Ru.assign rfl) rfl ?_
    refine O.nil ?_
    refine C.seq ?_
    refine C.seq ?_
    refine C.region ?_
    refine O.val (v := .slice (A14_2) ((L14_2).length) (c14_2)) rfl (Ru.move rfl) rfl ?_
    refine O.val (v := .slice (A15_2) ((L15_2).length) (c15_2)) rfl (Ru.move rfl) rfl ?_
    refine O.callg [.slice (A14_2) ((L14_2).length) (c14_2), .slice (A15_2) ((L15_2).length) (c15_2)] rfl en37 rfl rfl (equalChains_fn A14_2 c14_2 L14_2 A15_2 c15_2 L15_2 w5_2 (hM5_2.rd 2 rfl) (Nst.mem hM5_2 3 rfl) (hM5_2.rd 0 rfl) (Nst.mem hM5_2 1 rfl) (by omega) (by intro x hx; have := hK4 x hx; omega)) ?_
    rintro _ w6_2 ⟨hv6_2, hR6_2⟩
    obtain rfl : _ = .bool (true) := hv6_2.trans (congrArg Value.bool (decide_eq_true (by rw [hts4_2, hts5_2])))
    have hM6_2 : Mem w w6_2 [] [[⟨.slice (A15_2) ((L15_2).length) (c15_2), 28, 3, ((L15_2).length), (L15_2).flatMap encL⟩], (L15_2).map (keyF 3), [⟨.slice (A14_2) ((L14_2).length) (c14_2), 28, 3, ((L14_2).length), (L14_2).flatMap encL⟩], (L14_2).map (keyF 3), [⟨.slice (A13_1) ((l13_1).length) (c13_1), 28, 3, ((l13_1).length), (l13_1).flatMap encL⟩], G3_1] := Mem.call (Ma := []) hM5_2 hR6_2 rfl
    refine O.val (v := .bool (false)) rfl (Ru.not (b := true) rfl) rfl ?_
    refine O.val (v := .bool (false)) rfl (Ru.move rfl) rfl ?_
    refine O.val (v := .bool ((splitF (tsL l13_1) at13_1).isSome)) rfl (Ru.move rfl) rfl ?_
    refine O.val (v := .bool ((splitF (tsL l13_1) at13_1).isSome)) rfl (Ru.move rfl) rfl ?_
    refine O.val (v := .bool (false)) rfl (Ru.congr (v := .bool (decide ((splitF (tsL l13_1) at13_1).isSome ≠ (splitF (tsL l13_1) at13_1).isSome))) (v' := .bool (false)) (Ru.bneq Try.underlying4 rfl rfl) ((congrArg Value.bool (decide_eq_false (by simp))))) rfl ?_
    refine O.val (v := .bool (false)) rfl (Ru.pickF rfl rfl) rfl ?_
    refine O.val (v := .bool (false)) rfl (Ru.move rfl) rfl ?_
    refine O.val (v := .slice (A13_1) ((l13_1).length) (c13_1)) rfl (Ru.move rfl) rfl ?_
    refine O.callg [.slice (A13_1) ((l13_1).length) (c13_1)] rfl en18 rfl rfl (ValidChain_fn A13_1 c13_1 l13_1 w6_2 (hM6_2.rd 4 rfl) (hG3_1 _ (Mem.gown hM6_2 5 rfl)) (by omega)) ?_
    rintro _ w6_11 ⟨rfl, hR6_11⟩
    have hM6_11 : Mem w w6_11 [] [[⟨.slice (A15_2) ((L15_2).length) (c15_2), 28, 3, ((L15_2).length), (L15_2).flatMap encL⟩], (L15_2).map (keyF 3), [⟨.slice (A14_2) ((L14_2).length) (c14_2), 28, 3, ((L14_2).length), (L14_2).flatMap encL⟩], (L14_2).map (keyF 3), [⟨.slice (A13_1) ((l13_1).length) (c13_1), 28, 3, ((l13_1).length), (l13_1).flatMap encL⟩], G3_1] := Mem.call (Ma := []) hM6_2 hR6_11 rfl
    refine O.val (v := .bool (!(validC (tsL l13_1)))) rfl (Ru.not rfl) rfl ?_
    refine O.val (v := .bool (!(validC (tsL l13_1)))) rfl (Ru.pickF rfl rfl) rfl ?_
    refine O.val (v := .bool (!(validC (tsL l13_1)))) rfl (Ru.move rfl) rfl ?_
    refine O.part 43 (!(validC (tsL l13_1))) rfl (fun g43 => ?_) (fun g43 => ?_)
    · refine O.pass rfl rfl rfl rfl rfl ?_
      refine O.pass rfl rfl rfl rfl rfl ?_
      refine O.val (v := .bool (true)) rfl (Ru.pickT rfl rfl) rfl ?_
      refine O.val (v := .bool (true)) rfl (Ru.move rfl) rfl ?_
      refine O.pass rfl rfl rfl rfl rfl ?_
      refine O.pass rfl rfl rfl rfl rfl ?_
      refine O.pass rfl rfl rfl rfl rfl ?_
      refine O.pass rfl rfl rfl rfl rfl ?_
      refine O.val (v := .bool (true)) rfl (Ru.pickT rfl rfl) rfl ?_
      refine O.nil ?_
      refine C.condT rfl ?_
      refine C.seq ?_
      refine C.region ?_
      refine O.val (v := .slice (A14_2) ((L14_2).length) (c14_2)) rfl (Ru.move rfl) rfl ?_
      refine O.val (v := .slice (A15_2) ((L15_2).length) (c15_2)) rfl (Ru.move rfl) rfl ?_
      refine O.callg [.slice (A14_2) ((L14_2).length) (c14_2), .slice (A15_2) ((L15_2).length) (c15_2)] rfl en37 rfl rfl (equalChains_fn A14_2 c14_2 L14_2 A15_2 c15_2 L15_2 w6_11 (hM6_11.rd 2 rfl) (Nst.mem hM6_11 3 rfl) (hM6_11.rd 0 rfl) (Nst.mem hM6_11 1 rfl) (by omega) (by intro x hx; have := hK4 x hx; omega)) ?_
      rintro _ w7_2 ⟨hv7_2, hR7_2⟩
      obtain rfl : _ = .bool (true) := hv7_2.trans (congrArg Value.bool (decide_eq_true (by rw [hts4_2, hts5_2])))
      have hM7_2 : Mem w w7_2 [] [[⟨.slice (A15_2) ((L15_2).length) (c15_2), 28, 3, ((L15_2).length), (L15_2).flatMap encL⟩], (L15_2).map (keyF 3), [⟨.slice (A14_2) ((L14_2).length) (c14_2), 28, 3, ((L14_2).length), (L14_2).flatMap encL⟩], (L14_2).map (keyF 3), [⟨.slice (A13_1) ((l13_1).length) (c13_1), 28, 3, ((l13_1).length), (l13_1).flatMap encL⟩], G3_1] := Mem.call (Ma := []) hM6_11 hR7_2 rfl
      refine O.val (v := .bool (true)) rfl (Ru.move rfl) rfl ?_
      refine O.val (v := .bool ((splitF (tsL l13_1) at13_1).isSome)) rfl (Ru.move rfl) rfl ?_
      refine O.val (v := .bool ((splitF (tsL l13_1) at13_1).isSome)) rfl (Ru.move rfl) rfl ?_
      refine O.val (v := .bool (true)) rfl (Ru.congr (v := .bool (decide ((splitF (tsL l13_1) at13_1).isSome = (splitF (tsL l13_1) at13_1).isSome))) (v' := .bool (true)) (Ru.beql Try.underlying4 rfl rfl) ((congrArg Value.bool (decide_eq_true rfl)))) rfl ?_
      refine O.val (v := .bool (true)) rfl (Ru.pickT rfl rfl) rfl ?_
      refine O.val (v := .bool (true)) rfl (Ru.assign rfl) rfl ?_
      refine O.nil ?_
      refine C.ret ?_
      refine P1 (v := .bool (true)) rfl ?_
      exact ⟨rfl, (Mem.none hM7_2)⟩
    · refine O.val (v := I (at13_1)) rfl (Ru.move rfl) rfl ?_
      refine O.val (v := .bool (decide (at13_1 < 0))) rfl (Ru.lss rfl rfl) rfl ?_
      refine O.val (v := .bool (decide (at13_1 < 0))) rfl (Ru.pickF rfl rfl) rfl ?_
      refine O.val (v := .bool (decide (at13_1 < 0))) rfl (Ru.move rfl) rfl ?_
      refine O.partp 47 (at13_1 < 0) rfl (fun g47 => ?_) (fun g47 => ?_)
      · refine O.pass rfl rfl rfl rfl rfl ?_
        refine O.pass rfl rfl rfl rfl rfl ?_
        refine O.pass rfl rfl rfl rfl rfl ?_
        refine O.pass rfl rfl rfl rfl rfl ?_
        refine O.val (v := .bool (true)) rfl (Ru.pickT rfl rfl) rfl ?_
        refine O.nil ?_
        refine C.condT rfl ?_
        refine C.seq ?_
        refine C.region ?_
        refine O.val (v := .slice (A14_2) ((L14_2).length) (c14_2)) rfl (Ru.move rfl) rfl ?_
        refine O.val (v := .slice (A15_2) ((L15_2).length) (c15_2)) rfl (Ru.move rfl) rfl ?_
        refine O.callg [.slice (A14_2) ((L14_2).length) (c14_2), .slice (A15_2) ((L15_2).length) (c15_2)] rfl en37 rfl rfl (equalChains_fn A14_2 c14_2 L14_2 A15_2 c15_2 L15_2 w6_11 (hM6_11.rd 2 rfl) (Nst.mem hM6_11 3 rfl) (hM6_11.rd 0 rfl) (Nst.mem hM6_11 1 rfl) (by omega) (by intro x hx; have := hK4 x hx; omega)) ?_
        rintro _ w7_2 ⟨hv7_2, hR7_2⟩
        obtain rfl : _ = .bool (true) := hv7_2.trans (congrArg Value.bool (decide_eq_true (by rw [hts4_2, hts5_2])))
        have hM7_2 : Mem w w7_2 [] [[⟨.slice (A15_2) ((L15_2).length) (c15_2), 28, 3, ((L15_2).length), (L15_2).flatMap encL⟩], (L15_2).map (keyF 3), [⟨.slice (A14_2) ((L14_2).length) (c14_2), 28, 3, ((L14_2).length), (L14_2).flatMap encL⟩], (L14_2).map (keyF 3), [⟨.slice (A13_1) ((l13_1).length) (c13_1), 28, 3, ((l13_1).length), (l13_1).flatMap encL⟩], G3_1] := Mem.call (Ma := []) hM6_11 hR7_2 rfl
        refine O.val (v := .bool (true)) rfl (Ru.move rfl) rfl ?_
        refine O.val (v := .bool ((splitF (tsL l13_1) at13_1).isSome)) rfl (Ru.move rfl) rfl ?_
        refine O.val (v := .bool ((splitF (tsL l13_1) at13_1).isSome)) rfl (Ru.move rfl) rfl ?_
        refine O.val (v := .bool (true)) rfl (Ru.congr (v := .bool (decide ((splitF (tsL l13_1) at13_1).isSome = (splitF (tsL l13_1) at13_1).isSome))) (v' := .bool (true)) (Ru.beql Try.underlying4 rfl rfl) ((congrArg Value.bool (decide_eq_true rfl)))) rfl ?_
        refine O.val (v := .bool (true)) rfl (Ru.pickT rfl rfl) rfl ?_
        refine O.val (v := .bool (true)) rfl (Ru.assign rfl) rfl ?_
        refine O.nil ?_
        refine C.ret ?_
        refine P1 (v := .bool (true)) rfl ?_
        exact ⟨rfl, (Mem.none hM7_2)⟩
      · refine O.val (v := I (at13_1)) rfl (Ru.move rfl) rfl ?_
        refine O.val (v := .slice (A13_1) ((l13_1).length) (c13_1)) rfl (Ru.move rfl) rfl ?_
        refine O.val (v := I ((((l13_1).length : Nat) : Int))) rfl (Ru.blenSlice Try.underlying23 rfl) rfl ?_
        refine O.val (v := .bool (decide (at13_1 ≥ (((l13_1).length : Nat) : Int)))) rfl (Ru.geq rfl rfl) rfl ?_
        refine O.val (v := .bool (decide (at13_1 ≥ (((l13_1).length : Nat) : Int)))) rfl (Ru.pickF rfl rfl) rfl ?_
        refine O.nil ?_
        refine C.cond (p := at13_1 ≥ (((l13_1).length : Nat) : Int)) rfl (fun c52 => ?_) (fun c52 => ?_)
        · refine C.seq ?_
          refine C.region ?_
          refine O.val (v := .slice (A14_2) ((L14_2).length) (c14_2)) rfl (Ru.move rfl) rfl ?_
          refine O.val (v := .slice (A15_2) ((L15_2).length) (c15_2)) rfl (Ru.move rfl) rfl ?_
          refine O.callg [.slice (A14_2) ((L14_2).length) (c14_2), .slice (A15_2) ((L15_2).length) (c15_2)] rfl en37 rfl rfl (equalChains_fn A14_2 c14_2 L14_2 A15_2 c15_2 L15_2 w6_11 (hM6_11.rd 2 rfl) (Nst.mem hM6_11 3 rfl) (hM6_11.rd 0 rfl) (Nst.mem hM6_11 1 rfl) (by omega) (by intro x hx; have := hK4 x hx; omega)) ?_
          rintro _ w7_2 ⟨hv7_2, hR7_2⟩
          obtain rfl : _ = .bool (true) := hv7_2.trans (congrArg Value.bool (decide_eq_true (by rw [hts4_2, hts5_2])))
          have hM7_2 : Mem w w7_2 [] [[⟨.slice (A15_2) ((L15_2).length) (c15_2), 28, 3, ((L15_2).length), (L15_2).flatMap encL⟩], (L15_2).map (keyF 3), [⟨.slice (A14_2) ((L14_2).length) (c14_2), 28, 3, ((L14_2).length), (L14_2).flatMap encL⟩], (L14_2).map (keyF 3), [⟨.slice (A13_1) ((l13_1).length) (c13_1), 28, 3, ((l13_1).length), (l13_1).flatMap encL⟩], G3_1] := Mem.call (Ma := []) hM6_11 hR7_2 rfl
          refine O.val (v := .bool (true)) rfl (Ru.move rfl) rfl ?_
          refine O.val (v := .bool ((splitF (tsL l13_1) at13_1).isSome)) rfl (Ru.move rfl) rfl ?_
          refine O.val (v := .bool ((splitF (tsL l13_1) at13_1).isSome)) rfl (Ru.move rfl) rfl ?_
          refine O.val (v := .bool (true)) rfl (Ru.congr (v := .bool (decide ((splitF (tsL l13_1) at13_1).isSome = (splitF (tsL l13_1) at13_1).isSome))) (v' := .bool (true)) (Ru.beql Try.underlying4 rfl rfl) ((congrArg Value.bool (decide_eq_true rfl)))) rfl ?_
          refine O.val (v := .bool (true)) rfl (Ru.pickT rfl rfl) rfl ?_
          refine O.val (v := .bool (true)) rfl (Ru.assign rfl) rfl ?_
          refine O.nil ?_
          refine C.ret ?_
          refine P1 (v := .bool (true)) rfl ?_
          exact ⟨rfl, (Mem.none hM7_2)⟩
        · have hv : validC (tsL l13_1) = true := by simp_all
          have hrl2 : 0 ≤ at13_1 ∧ at13_1 < (l13_1.length : Int) := by omega
          have hsm := split_small hv hrl2.1 (by omega)
          refine C.skip ?_
          refine C.seq ?_
          refine C.region ?_
          refine O.val (v := .bool ((splitF (tsL l13_1) at13_1).isSome)) rfl (Ru.move rfl) rfl ?_
          refine O.val (v := .slice (A13_1) ((l13_1).length) (c13_1)) rfl (Ru.move rfl) rfl ?_
          refine O.val (v := I (at13_1)) rfl (Ru.move rfl) rfl ?_
          have hx8_3 : at13_1.toNat < (l13_1).length := (by omega)
          refine O.val (v := .pointer (ofs (A13_1) ((at13_1.toNat) * 3))) rfl (Ru.indexA (j := at13_1.toNat) Try.underlying23 el28 rfl rfl (smf encL_len (hM6_11.rd 4 rfl) hx8_3 rfl) (by omega) (by omega)) rfl ?_
          refine O.val (v := .pointer (ofs (A13_1) ((at13_1.toNat) * 3 + 0))) rfl (Ru.fieldA fl28_0 rfl (smf encL_len (hM6_11.rd 4 rfl) hx8_3 rfl)) rfl ?_
          refine O.val rfl (Ru.load1 el26 rfl (ldf encL_len (hM6_11.rd 4 rfl) hx8_3 rfl)) rfl ?_
          refine O.val (v := I (((((l13_1)[at13_1.toNat]'hx8_3).t.keys.length : Nat) : Int))) rfl (Ru.blenSlice Try.underlying26 rfl) rfl ?_
          refine O.val (v := .bool (decide (((((l13_1)[at13_1.toNat]'hx8_3).t.keys.length : Nat) : Int) ≥ 2))) rfl (Ru.geq rfl rfl) rfl ?_
          refine O.val (v := .bool (decide (((((l13_1)[at13_1.toNat]'hx8_3).t.keys.length : Nat) : Int) ≥ 2))) rfl (Ru.move rfl) rfl ?_
          refine O.partp 69 (((((l13_1)[at13_1.toNat]'hx8_3).t.keys.length : Nat) : Int) ≥ 2) rfl (fun g69 => ?_) (fun g69 => ?_)
          · refine O.val (v := .slice (A13_1) ((l13_1).length) (c13_1)) rfl (Ru.move rfl) rfl ?_
            refine O.val (v := I ((((l13_1).length : Nat) : Int))) rfl (Ru.blenSlice Try.underlying23 rfl) rfl ?_
            refine O.val (v := .bool (decide ((((l13_1).length : Nat) : Int) < 16))) rfl (Ru.lss rfl rfl) rfl ?_
            refine O.val (v := .bool (decide ((((l13_1).length : Nat) : Int) < 16))) rfl (Ru.pickT rfl rfl) rfl ?_
            refine O.val (v := .bool (decide ((splitF (tsL l13_1) at13_1).isSome = decide ((((l13_1).length : Nat) : Int) < 16)))) rfl (Ru.beql Try.underlying4 rfl rfl) rfl ?_
            refine O.val (v := .bool (decide ((splitF (tsL l13_1) at13_1).isSome = decide ((((l13_1).length : Nat) : Int) < 16)))) rfl (Ru.assign rfl) rfl ?_
            refine O.nil ?_
            refine C.ret ?_
            refine P1 (v := .bool (decide ((splitF (tsL l13_1) at13_1).isSome = decide ((((l13_1).length : Nat) : Int) < 16)))) rfl ?_
            exact ⟨(congrArg Value.bool (decide_eq_true (by rw [hsm, Bool.eq_iff_iff]; simp <;> omega))), (Mem.none hM6_11)⟩
          · refine O.pass rfl rfl rfl rfl rfl ?_
            refine O.pass rfl rfl rfl rfl rfl ?_
            refine O.pass rfl rfl rfl rfl rfl ?_
            refine O.val (v := .bool (false)) rfl (Ru.pickF rfl rfl) rfl ?_
            refine O.val (v := .bool (decide ((splitF (tsL l13_1) at13_1).isSome = false))) rfl (Ru.beql Try.underlying4 rfl rfl) rfl ?_
            refine O.val (v := .bool (decide ((splitF (tsL l13_1) at13_1).isSome = false))) rfl (Ru.assign rfl) rfl ?_
            refine O.nil ?_
            refine C.ret ?_
            refine P1 (v := .bool (decide ((splitF (tsL l13_1) at13_1).isSome = false))) rfl ?_
            exact ⟨(congrArg Value.bool (decide_eq_true (by rw [hsm, Bool.eq_iff_iff]; simp <;> omega))), (Mem.none hM6_11)⟩
end Go.Proofs.Yteljpjapacajoaa
namespace Go.Proofs.Yteljpjapacajoaa.fnSplitLinkSmall
open Go.ChangeShapes Go.WideShapes Go.ChangeAt Go.RowKit Go.Px
open Go.ChangeMaps (open_string shut_string)
set_option linter.unusedVariables false

theorem own : ownKnob Try.prog.godebug = none := by kernel_rfl
theorem laidOut : laidOutB Try.prog = true := by kernel_rfl

set_option maxRecDepth 100000 in
theorem lifted (os : Os) (started : os.Started) (H : Type) (enc : TypeId × Value → H) :
    ReturnsInHanded {} Try.checked os 10 .any (Rows.fnSplitLinkSmallSpec.pre6 enc Try.prog Try.f10 Rows.fnSplitLinkSmallRow.domain false) (Rows.fnSplitLinkSmallSpec.post enc Try.prog Try.f10 false true false false) := by
  refine returnsInHanded_of_change (C := Try.checked) own started (by kernel_rfl) Try.func10
    (ChangeSpec.witness6 (enc := enc) (C := Try.checked) false ⟨#[], #[.slice none 0 0], []⟩ 8 (by kernel_rfl) (by kernel_rfl) (by kernel_rfl) (by kernel_rfl)) ?_
  intro W base args ds gs before hval0 hW hcnd _
  have hval : ∀ (j : Nat) t v, Try.f10.params[j]? = some t → args[j]? = some v → Value.okWide Try.prog W .any base t v := hval0
  have hW' := hW
  obtain ⟨p, q, hA0, hV, rfl, hfz, hnd⟩ := hW
  have hA : DataW.TrodAll enc Try.prog W 0 (fun _ => true) true Try.f10.params.toList args.toList ds p := hA0
  rw [Try.params10] at hA hval
  obtain ⟨v0, vs0, d0, ds0, p0, q0, hargs, rfl, rfl, h0, r0⟩ := trodAll_cons hA
  obtain ⟨rfl, rfl, rfl⟩ := trodAll_nil r0
  obtain rfl : args = #[v0] := by cases args; simp_all
  obtain ⟨rfl, rfl⟩ := trodVars_none hV
  have k0 := h0
  have lt0 : ∀ x ∈ p0, x.block < W.heap.size := by obtain ⟨m, hm⟩ := k0; exact DataW.trod_lt m _ _ _ hm
  obtain ⟨a0, len0, cap0, rfl⟩ := okWide_slice Try.underlying22 (hval 0 22 v0 rfl rfl)
  have kk0 := k0
  obtain ⟨fuel0, hf0⟩ := kk0
  obtain ⟨z0, rfl, hz0, hc0, hw0, hRd0⟩ := slice_in (α := UInt8) (f := fun a : UInt8 => [byteV a]) (c := 1) Try.underlying22 (by kernel_rfl) (fun _ => rfl) (byte_el Try.underlying5) hf0
  rw [flat_one] at hRd0
  clear hA0 hval0
  refine (FnSplitLinkSmall_fn a0 cap0 z0 W hRd0 hz0 hc0).out.mono fun e W' ⟨v, he, hv, hg⟩ => ?_
  subst he hv
  have bel : Below W.heap.size W W' := ⟨hg.os, hg.tape, hg.output, hg.size, fun k hk => hg.block k hk (by simp)⟩
  exact ⟨_, rfl, _, _, _, [], _, [], hW', trodAll_mk1 (shut_bool Try.underlying4 _), (trodAll_cons_mk (Below.trod laidOut (by kernel_rfl) (of_decide_eq_true (by kernel_rfl)) k0 bel lt0) trodAll_mk0), rfl, bel.frame _, fun h => by cases h⟩

theorem named_ : Try.prog.funcNamed Rows.fnSplitLinkSmallRow.func = some 10 := by kernel_rfl
theorem closed : joinedFacts Try.prog 10 Try.f10 Rows.fnSplitLinkSmallSpec Rows.fnSplitLinkSmallRow = true := by
  unfold joinedFacts
  rw [enter_, lifts_, made_]
  kernel_rfl
theorem inst_ : Try.f10.isInstance Try.prog Rows.fnSplitLinkSmallRow.origin Rows.fnSplitLinkSmallRow.targs := of_decide_eq_true (by kernel_rfl)
theorem wrap_ : Try.f10.isWrapper Try.prog Rows.fnSplitLinkSmallRow.wrapper Rows.fnSplitLinkSmallRow.mainSum := by
  unfold Func.isWrapper
  rw [if_neg (by decide +kernel)]
  exact ⟨rfl, rfl⟩
theorem over : Rows.fnSplitLinkSmallRow.holds Try.pinned (OpenSpec.ofChange Rows.fnSplitLinkSmallSpec) :=
  OpenClaim.holds_of_wide 10 Try.f10 rfl rfl rfl rfl rfl rfl rfl ⟨rfl, rfl, rfl, rfl, rfl⟩ rfl rfl rfl rfl rfl named_ Try.func10 closed inst_ wrap_
    (fun os started H enc _ => lifted os started H enc)
theorem proved : Rows.FnSplitLinkSmallSaid := over
end Go.Proofs.Yteljpjapacajoaa.fnSplitLinkSmall
