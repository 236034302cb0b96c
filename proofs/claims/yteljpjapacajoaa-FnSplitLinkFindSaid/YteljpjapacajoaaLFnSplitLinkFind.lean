/- The statement Rows.FnSplitLinkFindSaid: the Go function laws.FnSplitLinkFind returns true for every input, and each argument reads afterwards as it read before. No conditions. -/
import Derived.Test.YteljpjapacajoaaRows
import Derived.Test.YteljpjapacajoaaPxO
import Derived.Test.YteljpjapacajoaaDZ
import Derived.Test.YteljpjapacajoaaH0
import Derived.WalkKit
import Derived.ProofKit
import Derived.OpenShut
import Derived.ShutString
import Derived.ChangeOld
import Derived.SliceStrings
import Derived.Deep.Slices
import Derived.Deep.Fields
import Derived.ChangeSame
import Derived.Below
set_option linter.unusedVariables false
set_option linter.unusedSimpArgs false
namespace Go.Proofs.Yteljpjapacajoaa
open Go.Px
set_option linter.unusedVariables false
theorem FnSplitLinkFind_fn (A : Option Addr) (c : Nat) (l : List UInt8) (w : World) (hA : Rd w A ((l).map byteV)) (hl : l.length ≤ 9223372036854775807) (hc : l.length ≤ c) :
    Does Try.prog 11 [.slice (A) ((l).length) (c)] w (fun v w1 => v = .bool (true) ∧ Mem w w1 [] []) := by
  have hM : Mem w w [] [] := Mem.refl
  refine Does.enter1 Try.func11 rfl Try.results11 Try.ntmps11 rfl ?_
  refine C.seq ?_
  refine C.region ?_
  refine O.val (v := .bool (false)) rfl (Ru.assign rfl) rfl ?_
  refine O.nil ?_
  refine C.seq ?_
  refine C.seq ?_
  refine C.region ?_
  refine O.val (v := .slice (A) ((l).length) (c)) rfl (Ru.move rfl) rfl ?_
  refine O.val (v := I ((((l).length : Nat) : Int))) rfl (Ru.blenSlice Try.underlying22 rfl) rfl ?_
  refine O.val (v := .bool (decide ((((l).length : Nat) : Int) > 1048576))) rfl (Ru.gtr rfl rfl) rfl ?_
  refine O.nil ?_
  refine C.cond (p := (((l).length : Nat) : Int) > 1048576) rfl (fun c14 => ?_) (fun c14 => ?_)
  · refine C.seq ?_
    refine C.region ?_
    refine O.val (v := .bool (true)) rfl (Ru.assign rfl) rfl ?_
    refine O.nil ?_
    refine C.ret ?_
    refine P1 (v := .bool (true)) rfl ?_
    exact ⟨rfl, (Mem.none hM)⟩
  · refine C.skip ?_
    refine C.seq ?_
    refine C.region ?_
    refine O.val (v := .slice (A) ((l).length) (c)) rfl (Ru.move rfl) rfl ?_
    refine O.callg [.slice (A) ((l).length) (c)] rfl en36 rfl rfl (DrawSplitLink_fn A c l w (hA.at hM) (by first | omega | assumption | (simp; omega) | simp | (intros; omega)) (by first | omega | assumption | (simp; omega) | simp | (intros; omega))) ?_
    rintro _ w3_1 ⟨l13_1, A13_1, c13_1, G3_1, at13_1, rfl, hl3_1, hk3_1, hG3_1, hcp3_1, hR3_1⟩
    have hM3_1 : Mem w w3_1 [] [[⟨.slice (A13_1) ((l13_1).length) (c13_1), 28, 3, ((l13_1).length), (l13_1).flatMap encL⟩], G3_1] := Mem.call (Ma := []) hM hR3_1 rfl
    have hcr3_1_0 := (hM3_1.cap 0 rfl).1
    refine O.val (v := .tuple #[.slice (A13_1) ((l13_1).length) (c13_1), I (at13_1)]) rfl (Ru.move rfl) rfl ?_
    refine O.val (v := .slice (A13_1) ((l13_1).length) (c13_1)) rfl (Ru.extract rfl rfl) rfl ?_
    refine O.val (v := I (at13_1)) rfl (Ru.extract rfl rfl) rfl ?_
    refine O.val (v := .slice (A13_1) ((l13_1).length) (c13_1)) rfl (Ru.assign rfl) rfl ?_
    refine O.val (v := I (at13_1)) rfl (Ru.assign rfl) rfl ?_
    refine O.nil ?_
    refine C.seq ?_
    refine C.region ?_
    refine O.val (v := .slice (A13_1) ((l13_1).length) (c13_1)) rfl (Ru.move rfl) rfl ?_
    refine O.val (v := I (at13_1)) rfl (Ru.move rfl) rfl ?_
    refine O.callg [.slice (A13_1) ((l13_1).length) (c13_1), I (at13_1)] rfl en32 rfl rfl (SplitLink_fn A13_1 c13_1 l13_1 at13_1 w3_1 (hM3_1.rd 0 rfl) (hG3_1 _ (Mem.gown hM3_1 1 rfl)) (by omega) (by exact hcp3_1)) ?_
    rintro _ w4_2 ⟨L14_2, A14_2, c14_2, rfl, hts4_2, hR4_2⟩
    have hM4_2 : Mem w w4_2 [] [[⟨.slice (A14_2) ((L14_2).length) (c14_2), 28, 3, ((L14_2).length), (L14_2).flatMap encL⟩], (L14_2).map (keyF 3), [⟨.slice (A13_1) ((l13_1).length) (c13_1), 28, 3, ((l13_1).length), (l13_1).flatMap encL⟩], G3_1] := Mem.call (Ma := []) hM3_1 hR4_2 rfl
    have hcr4_2_0 := (hM4_2.cap 0 rfl).1
    have hL4 : L14_2.length ≤ 17 := by have h8 := congrArg List.length hts4_2; have h9 := splF_len (l := tsL l13_1) (at_ := at13_1); simp only [List.length_map] at h8; omega
    have hK4 : ∀ x ∈ L14_2, x.t.keys.length ≤ 100 := keys_le hts4_2 splF_keys4
    refine O.val (v := .tuple #[.slice (A14_2) ((L14_2).length) (c14_2), .bool ((splitF (tsL l13_1) at13_1).isSome)]) rfl (Ru.move rfl) rfl ?_
    refine O.val (v := .slice (A14_2) ((L14_2).length) (c14_2)) rfl (Ru.extract rfl rfl) rfl ?_
    refine O.val (v := .bool ((splitF (tsL l13_1) at13_1).isSome)) rfl (Ru.extract rfl rfl) rfl ?_
    refine O.val (v := .slice (A14_2) ((L14_2).length) (c14_2)) rfl (Ru.assign rfl) rfl ?_
    refine O.val (v := .bool ((splitF (tsL l13_1) at13_1).isSome)) rfl (Ru.assign rfl) rfl ?_
    refine O.nil ?_
    refine C.seq ?_
    refine C.region ?_
    refine O.val (v := .slice (A13_1) ((l13_1).length) (c13_1)) rfl (Ru.move rfl) rfl ?_
    refine O.val (v := I (at13_1)) rfl (Ru.move rfl) rfl ?_
    refine O.callg [.slice (A13_1) ((l13_1).length) (c13_1), I (at13_1)] rfl en30 rfl rfl (sSplitLink_fn A13_1 c13_1 l13_1 at13_1 w4_2 (hM4_2.rd 2 rfl) (hG3_1 _ (Mem.gown hM4_2 3 rfl)) (by omega) (by exact hcp3_1)) ?_
    rintro _ w5_2 ⟨L15_2, A15_2, c15_2, rfl, hts5_2, hR5_2⟩
    have hM5_2 : Mem w w5_2 [] [[⟨.slice (A15_2) ((L15_2).length) (c15_2), 28, 3, ((L15_2).length), (L15_2).flatMap encL⟩], (L15_2).map (keyF 3), [⟨.slice (A14_2) ((L14_2).length) (c14_2), 28, 3, ((L14_2).length), (L14_2).flatMap encL⟩], (L14_2).map (keyF 3), [⟨.slice (A13_1) ((l13_1).length) (c13_1), 28, 3, ((l13_1).length), (l13_1).flatMap encL⟩], G3_1] := Mem.call (Ma := []) hM4_2 hR5_2 rfl
    have hcr5_2_0 := (hM5_2.cap 0 rfl).1
    refine O.val (v := .tuple #[.slice (A15_2) ((L15_2).length) (c15_2), .bool ((splitF (tsL l13_1) at13_1).isSome)]) rfl (Ru.move rfl) rfl ?_
    refine O.val (v := .slice (A15_2) ((L15_2).length) (c15_2)) rfl (Ru.extract rfl rfl) rfl ?_
    refine O.val (v := .bool ((splitF (tsL l13_1) at13_1).isSome)) rfl (Ru.extract rfl rfl) rfl ?_
    refine O.val (v := .slice (A15_2) ((L15_2).length) (c15_2)) rfl (Ru.assign rfl) rfl ?_
    refine O.val (v := .bool ((splitF (tsL l13_1) at13_1).isSome)) rfl (Ru.assign rfl) rfl ?_
    refine O.nil ?_
    refine C.seq ?_
    refine C.seq ?_
    refine C.region ?_
    refine O.val (v := .slice (A14_2) ((L14_2).length) (c14_2)) rfl (Ru.move rfl) rfl ?_
    refine O.val (v := .slice (A15_2) ((L15_2).length) (c15_2)) rfl (Ru.move rfl) rfl ?_
    refine O.callg [.slice (A14_2) ((L14_2).length) (c14_2), .slice (A15_2) ((L15_2).length) (c15_2)] rfl en37 rfl rfl (equalChains_fn A14_2 c14_2 L14_2 A15_2 c15_2 L15_2 w5_2 (hM5_2.rd 2 rfl) (Nst.mem hM5_2 3 rfl) (hM5_2.rd 0 rfl) (Nst.mem hM5_2 1 rfl) (by omega) (by intro x hx; have := hK4 x hx; omega)) ?_
    rintro _ w6_2 ⟨hv6_2, hR6_2⟩
    obtain rfl : _ = .bool (true) := hv6_2.trans (congrArg Value.bool (decide_eq_true (by rw [hts4_2, hts5_2])))
    have hM6_2 : Mem w w6_2 [] [[⟨.slice (A15_2) ((L15_2).length) (c15_2), 28, 3, ((L15_2).length), (L15_2).flatMap encL⟩], (L15_2).map (keyF 3), [⟨.slice (A14_2) ((L14_2).length) (c14_2), 28, 3, ((L14_2).length), (L14_2).flatMap encL⟩], (L14_2).map (keyF 3), [⟨.slice (A13_1) ((l13_1).length) (c13_1), 28, 3, ((l13_1).length), (l13_1).flatMap encL⟩], G3_1] := Mem.call (Ma := []) hM5_2 hR6_2 rfl
    refine O.val (v := .bool (false)) rfl (Ru.not (b := true) rfl) rfl ?_
    refine O.val (v := .bool (false)) rfl (Ru.move rfl) rfl ?_
    refine O.val (v := .bool ((splitF (tsL l13_1) at13_1).isSome)) rfl (Ru.move rfl) rfl ?_
    refine O.val (v := .bool ((splitF (tsL l13_1) at13_1).isSome)) rfl (Ru.move rfl) rfl ?_
    refine O.val (v := .bool (false)) rfl (Ru.congr (v := .bool (decide ((splitF (tsL l13_1) at13_1).isSome ≠ (splitF (tsL l13_1) at13_1).isSome))) (v' := .bool (false)) (Ru.bneq Try.underlying4 rfl rfl) ((congrArg Value.bool (decide_eq_false (by simp))))) rfl ?_
    refine O.val (v := .bool (false)) rfl (Ru.pickF rfl rfl) rfl ?_
    refine O.val (v := .bool (false)) rfl (Ru.move rfl) rfl ?_
    refine O.val (v := .bool ((splitF (tsL l13_1) at13_1).isSome)) rfl (Ru.move rfl) rfl ?_
    refine O.val (v := .bool (!((splitF (tsL l13_1) at13_1).isSome))) rfl (Ru.not rfl) rfl ?_
    refine O.val (v := .bool (!((splitF (tsL l13_1) at13_1).isSome))) rfl (Ru.pickF rfl rfl) rfl ?_
    refine O.val (v := .bool (!((splitF (tsL l13_1) at13_1).isSome))) rfl (Ru.move rfl) rfl ?_
    refine O.part 45 (!((splitF (tsL l13_1) at13_1).isSome)) rfl (fun g45 => ?_) (fun g45 => ?_)
    · refine O.pass rfl rfl rfl rfl rfl ?_
      refine O.pass rfl rfl rfl rfl rfl ?_
      refine O.pass rfl rfl rfl rfl rfl ?_
      refine O.pass rfl rfl rfl rfl rfl ?_
      refine O.pass rfl rfl rfl rfl rfl ?_
      refine O.pass rfl rfl rfl rfl rfl ?_
      refine O.val (v := .bool (true)) rfl (Ru.pickT rfl rfl) rfl ?_
      refine O.nil ?_
      refine C.condT rfl ?_
      refine C.seq ?_
      refine C.region ?_
      refine O.val (v := .slice (A14_2) ((L14_2).length) (c14_2)) rfl (Ru.move rfl) rfl ?_
      refine O.val (v := .slice (A15_2) ((L15_2).length) (c15_2)) rfl (Ru.move rfl) rfl ?_
      refine O.callg [.slice (A14_2) ((L14_2).length) (c14_2), .slice (A15_2) ((L15_2).length) (c15_2)] rfl en37 rfl rfl (equalChains_fn A14_2 c14_2 L14_2 A15_2 c15_2 L15_2 w6_2 (hM6_2.rd 2 rfl) (Nst.mem hM6_2 3 rfl) (hM6_2.rd 0 rfl) (Nst.mem hM6_2 1 rfl) (by omega) (by intro x hx; have := hK4 x hx; omega)) ?_
      rintro _ w7_2 ⟨hv7_2, hR7_2⟩
      obtain rfl : _ = .bool (true) := hv7_2.trans (congrArg Value.bool (decide_eq_true (by rw [hts4_2, hts5_2])))
      have hM7_2 : Mem w w7_2 [] [[⟨.slice (A15_2) ((L15_2).length) (c15_2), 28, 3, ((L15_2).length), (L15_2).flatMap encL⟩], (L15_2).map (keyF 3), [⟨.slice (A14_2) ((L14_2).length) (c14_2), 28, 3, ((L14_2).length), (L14_2).flatMap encL⟩], (L14_2).map (keyF 3), [⟨.slice (A13_1) ((l13_1).length) (c13_1), 28, 3, ((l13_1).length), (l13_1).flatMap encL⟩], G3_1] := Mem.call (Ma := []) hM6_2 hR7_2 rfl
      refine O.val (v := .bool (true)) rfl (Ru.move rfl) rfl ?_
      refine O.val (v := .bool ((splitF (tsL l13_1) at13_1).isSome)) rfl (Ru.move rfl) rfl ?_
      refine O.val (v := .bool ((splitF (tsL l13_1) at13_1).isSome)) rfl (Ru.move rfl) rfl ?_
      refine O.val (v := .bool (true)) rfl (Ru.congr (v := .bool (decide ((splitF (tsL l13_1) at13_1).isSome = (splitF (tsL l13_1) at13_1).isSome))) (v' := .bool (true)) (Ru.beql Try.underlying4 rfl rfl) ((congrArg Value.bool (decide_eq_true rfl)))) rfl ?_
      refine O.val (v := .bool (true)) rfl (Ru.pickT rfl rfl) rfl ?_
      refine O.val (v := .bool (true)) rfl (Ru.assign rfl) rfl ?_
      refine O.nil ?_
      refine C.ret ?_
      refine P1 (v := .bool (true)) rfl ?_
      exact ⟨rfl, (Mem.none hM7_2)⟩
    · refine O.val (v := .slice (A14_2) ((L14_2).length) (c14_2)) rfl (Ru.move rfl) rfl ?_
      refine O.val (v := I ((((L14_2).length : Nat) : Int))) rfl (Ru.blenSlice Try.underlying23 rfl) rfl ?_
      refine O.val (v := .slice (A13_1) ((l13_1).length) (c13_1)) rfl (Ru.move rfl) rfl ?_
      refine O.val (v := I ((((l13_1).length : Nat) : Int))) rfl (Ru.blenSlice Try.underlying23 rfl) rfl ?_
      refine O.val (v := I (((((l13_1).length + 1) : Nat) : Int))) rfl (Ru.congr (v := I (((((l13_1).length : Nat) : Int) + 1))) (v' := I (((((l13_1).length + 1) : Nat) : Int))) (Ru.add rfl rfl (by omega)) (I_congr (by first | omega | simp))) rfl ?_
      refine O.val (v := .bool (decide ((((L14_2).length : Nat) : Int) ≠ ((((l13_1).length + 1) : Nat) : Int)))) rfl (Ru.neq rfl rfl) rfl ?_
      refine O.val (v := .bool (decide ((((L14_2).length : Nat) : Int) ≠ ((((l13_1).length + 1) : Nat) : Int)))) rfl (Ru.pickF rfl rfl) rfl ?_
      refine O.nil ?_
      refine C.cond (p := (((L14_2).length : Nat) : Int) ≠ ((((l13_1).length + 1) : Nat) : Int)) rfl (fun c52 => ?_) (fun c52 => ?_)
      · refine C.seq ?_
        refine C.region ?_
        refine O.val (v := .slice (A14_2) ((L14_2).length) (c14_2)) rfl (Ru.move rfl) rfl ?_
        refine O.val (v := .slice (A15_2) ((L15_2).length) (c15_2)) rfl (Ru.move rfl) rfl ?_
        refine O.callg [.slice (A14_2) ((L14_2).length) (c14_2), .slice (A15_2) ((L15_2).length) (c15_2)] rfl en37 rfl rfl (equalChains_fn A14_2 c14_2 L14_2 A15_2 c15_2 L15_2 w6_2 (hM6_2.rd 2 rfl) (Nst.mem hM6_2 3 rfl) (hM6_2.rd 0 rfl) (Nst.mem hM6_2 1 rfl) (by omega) (by intro x hx; have := hK4 x hx; omega)) ?_
        rintro _ w7_2 ⟨hv7_2, hR7_2⟩
        obtain rfl : _ = .bool (true) := hv7_2.trans (congrArg Value.bool (decide_eq_true (by rw [hts4_2, hts5_2])))
        have hM7_2 : Mem w w7_2 [] [[⟨.slice (A15_2) ((L15_2).length) (c15_2), 28, 3, ((L15_2).length), (L15_2).flatMap encL⟩], (L15_2).map (keyF 3), [⟨.slice (A14_2) ((L14_2).length) (c14_2), 28, 3, ((L14_2).length), (L14_2).flatMap encL⟩], (L14_2).map (keyF 3), [⟨.slice (A13_1) ((l13_1).length) (c13_1), 28, 3, ((l13_1).length), (l13_1).flatMap encL⟩], G3_1] := Mem.call (Ma := []) hM6_2 hR7_2 rfl
        refine O.val (v := .bool (true)) rfl (Ru.move rfl) rfl ?_
        refine O.val (v := .bool ((splitF (tsL l13_1) at13_1).isSome)) rfl (Ru.move rfl) rfl ?_
        refine O.val (v := .bool ((splitF (tsL l13_1) at13_1).isSome)) rfl (Ru.move rfl) rfl ?_
        refine O.val (v := .bool (true)) rfl (Ru.congr (v := .bool (decide ((splitF (tsL l13_1) at13_1).isSome = (splitF (tsL l13_1) at13_1).isSome))) (v' := .bool (true)) (Ru.beql Try.underlying4 rfl rfl) ((congrArg Value.bool (decide_eq_true rfl)))) rfl ?_
        refine O.val (v := .bool (true)) rfl (Ru.pickT rfl rfl) rfl ?_
        refine O.val (v := .bool (true)) rfl (Ru.assign rfl) rfl ?_
        refine O.nil ?_
        refine C.ret ?_
        refine P1 (v := .bool (true)) rfl ?_
        exact ⟨rfl, (Mem.none hM7_2)⟩
      · obtain ⟨hok, hsp⟩ := split_get (l := tsL l13_1) (at_ := at13_1) (by simp_all)
        have hrg := (splOk_iff.1 hok).2.1
        have hvl := valid_all (splOk_iff.1 hok).1
        have hL5 : tsL L14_2 = splB (tsL l13_1) at13_1.toNat := by rw [hts4_2, hsp, Option.getD_some]
        have hL6 := congrArg List.length hL5
        rw [splB_len] at hL6
        simp only [List.length_map] at hL6 hrg
        have hvo := (split_at hok).1
        refine C.skip ?_
        refine C.seq ?_
        refine C.region ?_
        refine O.val (v := .slice (A13_1) ((l13_1).length) (c13_1)) rfl (Ru.move rfl) rfl ?_
        refine O.val (v := I ((((l13_1).length : Nat) : Int))) rfl (Ru.blenSlice Try.underlying23 rfl) rfl ?_
        refine O.val (v := I ((((l13_1).length : Nat) : Int))) rfl (Ru.assign rfl) rfl ?_
        refine O.nil ?_
        refine C.seq ?_
        refine C.seq ?_
        refine C.region ?_
        refine O.val (v := I (0)) rfl (Ru.assign rfl) rfl ?_
        refine O.nil ?_
        refine C.block ?_
        refine C.loop (ι := Nat) (fun i => ([(4, I (at13_1)), (5, .slice (A14_2) ((L14_2).length) (c14_2)), (9, I ((((l13_1).length : Nat) : Int))), (10, I (((i : Nat) : Int)))] : List (Nat × Value))) (fun i w_ => (i ≤ (L14_2[l13_1.length]'(by omega)).t.keys.length) ∧ (Mem w w_ [] [[⟨.slice (A15_2) ((L15_2).length) (c15_2), 28, 3, ((L15_2).length), (L15_2).flatMap encL⟩], (L15_2).map (keyF 3), [⟨.slice (A14_2) ((L14_2).length) (c14_2), 28, 3, ((L14_2).length), (L14_2).flatMap encL⟩], (L14_2).map (keyF 3), [⟨.slice (A13_1) ((l13_1).length) (c13_1), 28, 3, ((l13_1).length), (l13_1).flatMap encL⟩], G3_1])) (fun i => (L14_2[l13_1.length]'(by omega)).t.keys.length - i) (0) (Has.cons rfl (Has.cons rfl (Has.cons rfl (Has.cons (I_congr (by first | rfl | omega | (simp; omega) | simp)) Has.nil)))) ⟨(Nat.zero_le _), (hM6_2.pick [0, 1, 2, 3, 4, 5] (by decide) rfl)⟩ (fun i σ w_l10 hI => ?_)
        try dsimp only at hI
        obtain ⟨hi0_l10, hM_l10⟩ := hI
        have hcl0_l10 := (hM_l10.cap 0 rfl).1
        have hcl2_l10 := (hM_l10.cap 2 rfl).1
        have hcl4_l10 := (hM_l10.cap 4 rfl).1
        have hk9 := hK4 _ (List.getElem_mem (l := L14_2) (n := l13_1.length) (by omega))
        refine C.seq ?_
        refine C.seq ?_
        refine C.region ?_
        refine O.val (v := I (((i : Nat) : Int))) rfl (Ru.move rfl) rfl ?_
        refine O.val (v := .slice (A14_2) ((L14_2).length) (c14_2)) rfl (Ru.move rfl) rfl ?_
        refine O.val (v := I ((((l13_1).length : Nat) : Int))) rfl (Ru.move rfl) rfl ?_
        have hx10_3 : l13_1.length < (L14_2).length := (by omega)
        refine O.val (v := .pointer (ofs (A14_2) ((l13_1.length) * 3))) rfl (Ru.indexA (j := l13_1.length) Try.underlying23 el28 rfl rfl (smf encL_len (hM_l10.rd 2 rfl) hx10_3 rfl) (by omega) (by omega)) rfl ?_
        refine O.val (v := .pointer (ofs (A14_2) ((l13_1.length) * 3 + 0))) rfl (Ru.fieldA fl28_0 rfl (smf encL_len (hM_l10.rd 2 rfl) hx10_3 rfl)) rfl ?_
        refine O.val rfl (Ru.load1 el26 rfl (ldf encL_len (hM_l10.rd 2 rfl) hx10_3 rfl)) rfl ?_
        refine O.val (v := I (((((L14_2)[l13_1.length]'hx10_3).t.keys.length : Nat) : Int))) rfl (Ru.blenSlice Try.underlying26 rfl) rfl ?_
        refine O.val (v := .bool (decide (((i : Nat) : Int) < ((((L14_2)[l13_1.length]'hx10_3).t.keys.length : Nat) : Int)))) rfl (Ru.lss rfl rfl) rfl ?_
        refine O.nil ?_
        refine C.cond (p := ((i : Nat) : Int) < ((((L14_2)[l13_1.length]'hx10_3).t.keys.length : Nat) : Int)) rfl (fun c70 => ?_) (fun c70 => ?_)
        · refine C.skip ?_
          refine C.seq ?_
          refine C.block ?_
          refine C.seq ?_
          refine C.region ?_
          refine O.val (v := .slice (A14_2) ((L14_2).length) (c14_2)) rfl (Ru.move rfl) rfl ?_
          refine O.val (v := I (at13_1)) rfl (Ru.move rfl) rfl ?_
          refine O.val (v := .slice (A14_2) ((L14_2).length) (c14_2)) rfl (Ru.move rfl) rfl ?_
          refine O.val (v := I ((((l13_1).length : Nat) : Int))) rfl (Ru.move rfl) rfl ?_
          have hx12_4 : l13_1.length < (L14_2).length := (by omega)
          refine O.val (v := .pointer (ofs (A14_2) ((l13_1.length) * 3))) rfl (Ru.indexA (j := l13_1.length) Try.underlying23 el28 rfl rfl (smf encL_len (hM_l10.rd 2 rfl) hx12_4 rfl) (by omega) (by omega)) rfl ?_
          refine O.val (v := .pointer (ofs (A14_2) ((l13_1.length) * 3 + 0))) rfl (Ru.fieldA fl28_0 rfl (smf encL_len (hM_l10.rd 2 rfl) hx12_4 rfl)) rfl ?_
          refine O.val rfl (Ru.load1 el26 rfl (ldf encL_len (hM_l10.rd 2 rfl) hx12_4 rfl)) rfl ?_
          refine O.val (v := I (((i : Nat) : Int))) rfl (Ru.move rfl) rfl ?_
          have hx12_8 : i < (((L14_2)[l13_1.length]'hx12_4).t.keys).length := (by first | omega | (simp; omega))
          refine O.val (v := .pointer (ofs (((L14_2)[l13_1.length]'hx12_4).A) (i * 1))) rfl (Ru.indexA (j := i) Try.underlying26 el3 rfl rfl (smm ((Nst.mem hM_l10 3 rfl).get hx12_4) hx12_8) (by omega) (by first | omega | (simp; omega))) rfl ?_
          refine O.val rfl (Ru.load1 el3 rfl (ldm ((Nst.mem hM_l10 3 rfl).get hx12_4) hx12_8)) rfl ?_
          refine O.callg [.slice (A14_2) ((L14_2).length) (c14_2), I (at13_1), I ((((L14_2)[l13_1.length]'hx12_4).t.keys)[i]'hx12_8)] rfl en21 rfl rfl (FindLink_fn A14_2 c14_2 L14_2 at13_1 ((((L14_2)[l13_1.length]'hx12_4).t.keys)[i]'hx12_8) w_l10 (hM_l10.rd 2 rfl) (Nst.mem hM_l10 3 rfl) (by omega)) ?_
          rintro _ w12_10 ⟨rfl, hR12_10⟩
          have hM12_10 : Mem w w12_10 [] [[⟨.slice (A15_2) ((L15_2).length) (c15_2), 28, 3, ((L15_2).length), (L15_2).flatMap encL⟩], (L15_2).map (keyF 3), [⟨.slice (A14_2) ((L14_2).length) (c14_2), 28, 3, ((L14_2).length), (L14_2).flatMap encL⟩], (L14_2).map (keyF 3), [⟨.slice (A13_1) ((l13_1).length) (c13_1), 28, 3, ((l13_1).length), (l13_1).flatMap encL⟩], G3_1] := Mem.call (Ma := []) hM_l10 hR12_10 rfl
          refine O.val (v := I ((((l13_1).length : Nat) : Int))) rfl (Ru.move rfl) rfl ?_
          refine O.val (v := .bool (false)) rfl (Ru.congr (v := .bool (decide (findC (tsL L14_2) at13_1 ((((L14_2)[l13_1.length]'hx12_4).t.keys)[i]'hx12_8) ≠ (((l13_1).length : Nat) : Int)))) (v' := .bool (false)) (Ru.neq rfl rfl) ((congrArg Value.bool (decide_eq_false (by have h9 := split_out_z (i := i) hL5 hok (by simp) hx12_4 hx12_8; omega))))) rfl ?_
          refine O.nil ?_
          refine C.condF rfl ?_
          refine C.skip ?_
          refine C.region ?_
          refine O.val (v := I (((i : Nat) : Int))) rfl (Ru.move rfl) rfl ?_
          refine O.val (v := I ((((i + 1) : Nat) : Int))) rfl (Ru.congr (v := I ((((i : Nat) : Int) + 1))) (v' := I ((((i + 1) : Nat) : Int))) (Ru.add rfl rfl (by omega)) (I_congr (by first | omega | simp))) rfl ?_
          refine O.val (v := I ((((i + 1) : Nat) : Int))) rfl (Ru.assign rfl) rfl ?_
          refine O.nil ?_
          exact loopEnd (i + 1) (by (try dsimp only); omega) (Has.cons rfl (Has.cons rfl (Has.cons rfl (Has.cons (I_congr (by first | rfl | omega | (simp; omega) | simp)) Has.nil)))) ⟨(by (try dsimp only); omega), (hM12_10.pick [0, 1, 2, 3, 4, 5] (by decide) rfl)⟩
        · refine C.exit ?_
          refine C.seq ?_
          refine C.seq ?_
          refine C.region ?_
          refine O.val (v := I (0)) rfl (Ru.assign rfl) rfl ?_
          refine O.nil ?_
          refine C.block ?_
          refine C.loop (ι := Nat) (fun i => ([(4, I (at13_1)), (5, .slice (A14_2) ((L14_2).length) (c14_2)), (11, I (((i : Nat) : Int)))] : List (Nat × Value))) (fun i w_ => (i ≤ (L14_2[at13_1.toNat]'(by omega)).t.keys.length) ∧ (Mem w w_ [] [[⟨.slice (A15_2) ((L15_2).length) (c15_2), 28, 3, ((L15_2).length), (L15_2).flatMap encL⟩], (L15_2).map (keyF 3), [⟨.slice (A14_2) ((L14_2).length) (c14_2), 28, 3, ((L14_2).length), (L14_2).flatMap encL⟩], (L14_2).map (keyF 3), [⟨.slice (A13_1) ((l13_1).length) (c13_1), 28, 3, ((l13_1).length), (l13_1).flatMap encL⟩], G3_1])) (fun i => (L14_2[at13_1.toNat]'(by omega)).t.keys.length - i) (0) (Has.cons rfl (Has.cons rfl (Has.cons (I_congr (by first | rfl | omega | (simp; omega) | simp)) Has.nil))) ⟨(Nat.zero_le _), (hM_l10.pick [0, 1, 2, 3, 4, 5] (by decide) rfl)⟩ (fun i σ w_l15 hI => ?_)
          try dsimp only at hI
          obtain ⟨hi0_l15, hM_l15⟩ := hI
          have hcl0_l15 := (hM_l15.cap 0 rfl).1
          have hcl2_l15 := (hM_l15.cap 2 rfl).1
          have hcl4_l15 := (hM_l15.cap 4 rfl).1
          have hk9 := hK4 _ (List.getElem_mem (l := L14_2) (n := at13_1.toNat) (by omega))
          refine C.seq ?_
          refine C.seq ?_
          refine C.region ?_
          refine O.val (v := I (((i : Nat) : Int))) rfl (Ru.move rfl) rfl ?_
          refine O.val (v := .slice (A14_2) ((L14_2).length) (c14_2)) rfl (Ru.move rfl) rfl ?_
          refine O.val (v := I (at13_1)) rfl (Ru.move rfl) rfl ?_
          have hx15_3 : at13_1.toNat < (L14_2).length := (by omega)
          refine O.val (v := .pointer (ofs (A14_2) ((at13_1.toNat) * 3))) rfl (Ru.indexA (j := at13_1.toNat) Try.underlying23 el28 rfl rfl (smf encL_len (hM_l15.rd 2 rfl) hx15_3 rfl) (by omega) (by omega)) rfl ?_
          refine O.val (v := .pointer (ofs (A14_2) ((at13_1.toNat) * 3 + 0))) rfl (Ru.fieldA fl28_0 rfl (smf encL_len (hM_l15.rd 2 rfl) hx15_3 rfl)) rfl ?_
          refine O.val rfl (Ru.load1 el26 rfl (ldf encL_len (hM_l15.rd 2 rfl) hx15_3 rfl)) rfl ?_
          refine O.val (v := I (((((L14_2)[at13_1.toNat]'hx15_3).t.keys.length : Nat) : Int))) rfl (Ru.blenSlice Try.underlying26 rfl) rfl ?_
          refine O.val (v := .bool (decide (((i : Nat) : Int) < ((((L14_2)[at13_1.toNat]'hx15_3).t.keys.length : Nat) : Int)))) rfl (Ru.lss rfl rfl) rfl ?_
          refine O.nil ?_
          refine C.cond (p := ((i : Nat) : Int) < ((((L14_2)[at13_1.toNat]'hx15_3).t.keys.length : Nat) : Int)) rfl (fun c93 => ?_) (fun c93 => ?_)
          · refine C.skip ?_
            refine C.seq ?_
            refine C.block ?_
            refine C.seq ?_
            refine C.region ?_
            refine O.val (v := .slice (A14_2) ((L14_2).length) (c14_2)) rfl (Ru.move rfl) rfl ?_
            refine O.val (v := I (at13_1)) rfl (Ru.move rfl) rfl ?_
            refine O.val (v := .slice (A14_2) ((L14_2).length) (c14_2)) rfl (Ru.move rfl) rfl ?_
            refine O.val (v := I (at13_1)) rfl (Ru.move rfl) rfl ?_
            have hx17_4 : at13_1.toNat < (L14_2).length := (by omega)
            refine O.val (v := .pointer (ofs (A14_2) ((at13_1.toNat) * 3))) rfl (Ru.indexA (j := at13_1.toNat) Try.underlying23 el28 rfl rfl (smf encL_len (hM_l15.rd 2 rfl) hx17_4 rfl) (by omega) (by omega)) rfl ?_
            refine O.val (v := .pointer (ofs (A14_2) ((at13_1.toNat) * 3 + 0))) rfl (Ru.fieldA fl28_0 rfl (smf encL_len (hM_l15.rd 2 rfl) hx17_4 rfl)) rfl ?_
            refine O.val rfl (Ru.load1 el26 rfl (ldf encL_len (hM_l15.rd 2 rfl) hx17_4 rfl)) rfl ?_
            refine O.val (v := I (((i : Nat) : Int))) rfl (Ru.move rfl) rfl ?_
            have hx17_8 : i < (((L14_2)[at13_1.toNat]'hx17_4).t.keys).length := (by first | omega | (simp; omega))
            refine O.val (v := .pointer (ofs (((L14_2)[at13_1.toNat]'hx17_4).A) (i * 1))) rfl (Ru.indexA (j := i) Try.underlying26 el3 rfl rfl (smm ((Nst.mem hM_l15 3 rfl).get hx17_4) hx17_8) (by omega) (by first | omega | (simp; omega))) rfl ?_
            refine O.val rfl (Ru.load1 el3 rfl (ldm ((Nst.mem hM_l15 3 rfl).get hx17_4) hx17_8)) rfl ?_
            refine O.callg [.slice (A14_2) ((L14_2).length) (c14_2), I (at13_1), I ((((L14_2)[at13_1.toNat]'hx17_4).t.keys)[i]'hx17_8)] rfl en21 rfl rfl (FindLink_fn A14_2 c14_2 L14_2 at13_1 ((((L14_2)[at13_1.toNat]'hx17_4).t.keys)[i]'hx17_8) w_l15 (hM_l15.rd 2 rfl) (Nst.mem hM_l15 3 rfl) (by omega)) ?_
            rintro _ w17_10 ⟨rfl, hR17_10⟩
            have hM17_10 : Mem w w17_10 [] [[⟨.slice (A15_2) ((L15_2).length) (c15_2), 28, 3, ((L15_2).length), (L15_2).flatMap encL⟩], (L15_2).map (keyF 3), [⟨.slice (A14_2) ((L14_2).length) (c14_2), 28, 3, ((L14_2).length), (L14_2).flatMap encL⟩], (L14_2).map (keyF 3), [⟨.slice (A13_1) ((l13_1).length) (c13_1), 28, 3, ((l13_1).length), (l13_1).flatMap encL⟩], G3_1] := Mem.call (Ma := []) hM_l15 hR17_10 rfl
            refine O.val (v := I (at13_1)) rfl (Ru.move rfl) rfl ?_
            refine O.val (v := .bool (false)) rfl (Ru.congr (v := .bool (decide (findC (tsL L14_2) at13_1 ((((L14_2)[at13_1.toNat]'hx17_4).t.keys)[i]'hx17_8) ≠ at13_1))) (v' := .bool (false)) (Ru.neq rfl rfl) ((congrArg Value.bool (decide_eq_false (by have h9 := split_out_y (i := i) hL5 hok hx17_4 hx17_8; omega))))) rfl ?_
            refine O.nil ?_
            refine C.condF rfl ?_
            refine C.skip ?_
            refine C.region ?_
            refine O.val (v := I (((i : Nat) : Int))) rfl (Ru.move rfl) rfl ?_
            refine O.val (v := I ((((i + 1) : Nat) : Int))) rfl (Ru.congr (v := I ((((i : Nat) : Int) + 1))) (v' := I ((((i + 1) : Nat) : Int))) (Ru.add rfl rfl (by omega)) (I_congr (by first | omega | simp))) rfl ?_
            refine O.val (v := I ((((i + 1) : Nat) : Int))) rfl (Ru.assign rfl) rfl ?_
            refine O.nil ?_
            exact loopEnd (i + 1) (by (try dsimp only); omega) (Has.cons rfl (Has.cons rfl (Has.cons (I_congr (by first | rfl | omega | (simp; omega) | simp)) Has.nil))) ⟨(by (try dsimp only); omega), (hM17_10.pick [0, 1, 2, 3, 4, 5] (by decide) rfl)⟩
          · refine C.exit ?_
            refine C.seq ?_
            refine C.region ?_
            refine O.val (v := .bool (true)) rfl (Ru.assign rfl) rfl ?_
            refine O.nil ?_
            refine C.ret ?_
            refine P1 (v := .bool (true)) rfl ?_
            exact ⟨rfl, (Mem.none hM_l15)⟩
end Go.Proofs.Yteljpjapacajoaa
namespace Go.Proofs.Yteljpjapacajoaa.fnSplitLinkFind
open Go.ChangeShapes Go.WideShapes Go.ChangeAt Go.RowKit Go.Px
open Go.ChangeMaps (open_string shut_string)
set_option linter.unusedVariables false

theorem own : ownKnob Try.prog.godebug = none := by kernel_rfl
theorem laidOut : laidOutB Try.prog = true := by kernel_rfl

set_option maxRecDepth 100000 in
theorem lifted (os : Os) (started : os.Started) (H : Type) (enc : TypeId × Value → H) :
    ReturnsInHanded {} Try.checked os 11 .any (Rows.fnSplitLinkFindSpec.pre6 enc Try.prog Try.f11 Rows.fnSplitLinkFindRow.domain false) (Rows.fnSplitLinkFindSpec.post enc Try.prog Try.f11 false true false false) := by
  refine returnsInHanded_of_change (C := Try.checked) own started (by kernel_rfl) Try.func11
    (ChangeSpec.witness6 (enc := enc) (C := Try.checked) false ⟨#[], #[.slice none 0 0], []⟩ 8 (by kernel_rfl) (by kernel_rfl) (by kernel_rfl) (by kernel_rfl)) ?_
  intro W base args ds gs before hval0 hW hcnd _
  have hval : ∀ (j : Nat) t v, Try.f11.params[j]? = some t → args[j]? = some v → Value.okWide Try.prog W .any base t v := hval0
  have hW' := hW
  obtain ⟨p, q, hA0, hV, rfl, hfz, hnd⟩ := hW
  have hA : DataW.TrodAll enc Try.prog W 0 (fun _ => true) true Try.f11.params.toList args.toList ds p := hA0
  rw [Try.params11] at hA hval
  obtain ⟨v0, vs0, d0, ds0, p0, q0, hargs, rfl, rfl, h0, r0⟩ := trodAll_cons hA
  obtain ⟨rfl, rfl, rfl⟩ := trodAll_nil r0
  obtain rfl : args = #[v0] := by cases args; simp_all
  obtain ⟨rfl, rfl⟩ := trodVars_none hV
  have k0 := h0
  have lt0 : ∀ x ∈ p0, x.block < W.heap.size := by obtain ⟨m, hm⟩ := k0; exact DataW.trod_lt m _ _ _ hm
  obtain ⟨a0, len0, cap0, rfl⟩ := okWide_slice Try.underlying22 (hval 0 22 v0 rfl rfl)
  have kk0 := k0
  obtain ⟨fuel0, hf0⟩ := kk0
  obtain ⟨z0, rfl, hz0, hc0, hw0, hRd0⟩ := slice_in (α := UInt8) (f := fun a : UInt8 => [byteV a]) (c := 1) Try.underlying22 (by kernel_rfl) (fun _ => rfl) (byte_el Try.underlying5) hf0
  rw [flat_one] at hRd0
  clear hA0 hval0
  refine (FnSplitLinkFind_fn a0 cap0 z0 W hRd0 hz0 hc0).out.mono fun e W' ⟨v, he, hv, hg⟩ => ?_
  subst he hv
  have bel : Below W.heap.size W W' := ⟨hg.os, hg.tape, hg.output, hg.size, fun k hk => hg.block k hk (by simp)⟩
  exact ⟨_, rfl, _, _, _, [], _, [], hW', trodAll_mk1 (shut_bool Try.underlying4 _), (trodAll_cons_mk (Below.trod laidOut (by kernel_rfl) (of_decide_eq_true (by kernel_rfl)) k0 bel lt0) trodAll_mk0), rfl, bel.frame _, fun h => by cases h⟩

theorem named_ : Try.prog.funcNamed Rows.fnSplitLinkFindRow.func = some 11 := by kernel_rfl
theorem closed : joinedFacts Try.prog 11 Try.f11 Rows.fnSplitLinkFindSpec Rows.fnSplitLinkFindRow = true := by
  unfold joinedFacts
  rw [enter_, lifts_, made_]
  kernel_rfl
theorem inst_ : Try.f11.isInstance Try.prog Rows.fnSplitLinkFindRow.origin Rows.fnSplitLinkFindRow.targs := of_decide_eq_true (by kernel_rfl)
theorem wrap_ : Try.f11.isWrapper Try.prog Rows.fnSplitLinkFindRow.wrapper Rows.fnSplitLinkFindRow.mainSum := by
  unfold Func.isWrapper
  rw [if_neg (by decide +kernel)]
  exact ⟨rfl, rfl⟩
theorem over : Rows.fnSplitLinkFindRow.holds Try.pinned (OpenSpec.ofChange Rows.fnSplitLinkFindSpec) :=
  OpenClaim.holds_of_wide 11 Try.f11 rfl rfl rfl rfl rfl rfl rfl ⟨rfl, rfl, rfl, rfl, rfl⟩ rfl rfl rfl rfl rfl named_ Try.func11 closed inst_ wrap_
    (fun os started H enc _ => lifted os started H enc)
theorem proved : Rows.FnSplitLinkFindSaid := over
end Go.Proofs.Yteljpjapacajoaa.fnSplitLinkFind
