/- The statement Rows.FnExactSplitLinkSaid: the Go function laws.FnExactSplitLink returns true for every input, and each argument reads afterwards as it read before. No conditions. -/
import Derived.Test.YteljpjapacajoaaRows
import Derived.Test.YteljpjapacajoaaPxO
import Derived.Test.YteljpjapacajoaaDY
import Derived.Test.YteljpjapacajoaaCO
import Derived.Test.YteljpjapacajoaaH0
import Derived.WalkKit
import Derived.ProofKit
import Derived.OpenShut
import Derived.ShutString
import Derived.ChangeOld
import Derived.SliceStrings
import Derived.Deep.Slices
import Derived.Deep.Fields
import Derived.ChangeSame
import Derived.Below
set_option linter.unusedVariables false
set_option linter.unusedSimpArgs false
namespace Go.Proofs.Yteljpjapacajoaa
open Go.Px
set_option linter.unusedVariables false
set_option maxHeartbeats 4000000 in
theorem FnExactSplitLink_fn (A : Option Addr) (c : Nat) (l : List LnkL) (at0 : Int) (w : World) (hA : Rd w A ((l).flatMap encL)) (hNA : Nst w l) (hl : l.length ≤ 9223372036854775807) (hk : ∀ x ∈ l, x.t.keys.length ≤ 9223372036854775807) :
    Does Try.prog 9 [.slice (A) ((l).length) (c), I (at0)] w (fun v w1 => v = .bool (true) ∧ Mem w w1 [] []) := by
  have hM : Mem w w [] [] := Mem.refl
  refine Does.enter1 Try.func9 rfl Try.results9 Try.ntmps9 rfl ?_
  refine C.seq ?_
  refine C.region ?_
  refine O.val (v := .bool (false)) rfl (Ru.assign rfl) rfl ?_
  refine O.nil ?_
  refine C.seq ?_
  refine C.region ?_
  refine O.val (v := I (1048576)) rfl (Ru.assign rfl) rfl ?_
  refine O.nil ?_
  refine C.seq ?_
  refine C.region ?_
  refine O.val (v := .slice (A) ((l).length) (c)) rfl (Ru.move rfl) rfl ?_
  refine O.val (v := I (1048576)) rfl (Ru.move rfl) rfl ?_
  refine O.callg [.slice (A) ((l).length) (c), I (1048576)] rfl en29 rfl rfl (szLinkS_fn A c l 1048576 w (hA.at hM) (hNA.at hM) (by first | omega | assumption | (simp; omega) | simp | (intros; omega)) (by first | omega | assumption | (simp; omega) | simp | (intros; omega)) (by first | omega | assumption | (simp; omega) | simp | (intros; omega))) ?_
  rintro _ w2_2 ⟨rfl, hR2_2⟩
  have hM2_2 : Mem w w2_2 [] [] := Mem.call (Ma := []) hM hR2_2 rfl
  refine O.val (v := I (szR 1048576 (l.length + sumKL l))) rfl (Ru.assign rfl) rfl ?_
  refine O.nil ?_
  refine C.seq ?_
  refine C.seq ?_
  refine C.region ?_
  refine O.val (v := I (szR 1048576 (l.length + sumKL l))) rfl (Ru.move rfl) rfl ?_
  refine O.val (v := .bool (decide (szR 1048576 (l.length + sumKL l) < 0))) rfl (Ru.lss rfl rfl) rfl ?_
  refine O.nil ?_
  refine C.cond (p := szR 1048576 (l.length + sumKL l) < 0) rfl (fun c20 => ?_) (fun c20 => ?_)
  · refine C.seq ?_
    refine C.region ?_
    refine O.val (v := .bool (true)) rfl (Ru.assign rfl) rfl ?_
    refine O.nil ?_
    refine C.ret ?_
    refine P1 (v := .bool (true)) rfl ?_
    exact ⟨rfl, (Mem.none hM2_2)⟩
  · have hz : l.length + sumKL l ≤ 1048576 := by apply Classical.byContradiction; intro hn; apply c20; rw [szR_no (by omega)]; decide
    have hkm : ∀ x ∈ l, x.t.keys.length ≤ 1048576 := fun x hx => by have := sumKL_mem hx; omega
    have hkt : ∀ x ∈ tsL l, x.keys.length ≤ 1048576 := fun x hx => by obtain ⟨y, hy, rfl⟩ := List.mem_map.1 hx; exact hkm y hy
    refine C.skip ?_
    refine C.seq ?_
    refine C.region ?_
    refine O.val (v := .slice (A) ((l).length) (c)) rfl (Ru.move rfl) rfl ?_
    refine O.callg [.slice (A) ((l).length) (c)] rfl en31 rfl rfl (toLinkS_fn A c l w2_2 (hA.at hM2_2) (hNA.at hM2_2) (by omega) (by exact hkm)) ?_
    rintro _ w5_1 ⟨L15_1, A15_1, c15_1, rfl, hts5_1, hR5_1⟩
    have hM5_1 : Mem w w5_1 [] [[⟨.slice (A15_1) ((L15_1).length) (c15_1), 28, 3, ((L15_1).length), (L15_1).flatMap encL⟩], (L15_1).map (keyF 3)] := Mem.call (Ma := []) hM2_2 hR5_1 rfl
    have hcr5_1_0 := (hM5_1.cap 0 rfl).1
    have hel5_1 := ts_eq_len hts5_1
    have hek5_1 := keys_le hts5_1 hkt
    refine O.val (v := I (at0)) rfl (Ru.move rfl) rfl ?_
    have hcp5_3 := Mem.ncap hM5_1 1 rfl
    refine O.callg [.slice (A15_1) ((L15_1).length) (c15_1), I (at0)] rfl en30 rfl rfl (sSplitLink_fn A15_1 c15_1 L15_1 at0 w5_1 (hM5_1.rd 0 rfl) (Nst.mem hM5_1 1 rfl) (by omega) (by exact hcp5_3)) ?_
    rintro _ w5_3 ⟨L15_3, A15_3, c15_3, rfl, hts5_3, hR5_3⟩
    have hM5_3 : Mem w w5_3 [] [[⟨.slice (A15_3) ((L15_3).length) (c15_3), 28, 3, ((L15_3).length), (L15_3).flatMap encL⟩], (L15_3).map (keyF 3), [⟨.slice (A15_1) ((L15_1).length) (c15_1), 28, 3, ((L15_1).length), (L15_1).flatMap encL⟩], (L15_1).map (keyF 3)] := Mem.call (Ma := []) hM5_1 hR5_3 rfl
    have hcr5_3_0 := (hM5_3.cap 0 rfl).1
    have hW : tsL L15_3 = (splitF (tsL l) at0).getD [] := by rw [hts5_3, hts5_1]
    refine O.val (v := .tuple #[.slice (A15_3) ((L15_3).length) (c15_3), .bool ((splitF (tsL L15_1) at0).isSome)]) rfl (Ru.move rfl) rfl ?_
    refine O.val (v := .slice (A15_3) ((L15_3).length) (c15_3)) rfl (Ru.extract rfl rfl) rfl ?_
    refine O.val (v := .bool ((splitF (tsL L15_1) at0).isSome)) rfl (Ru.extract rfl rfl) rfl ?_
    refine O.val (v := .slice (A15_3) ((L15_3).length) (c15_3)) rfl (Ru.assign rfl) rfl ?_
    refine O.val (v := .bool ((splitF (tsL L15_1) at0).isSome)) rfl (Ru.assign rfl) rfl ?_
    refine O.nil ?_
    refine C.seq ?_
    refine C.region ?_
    refine O.val (v := .slice (A) ((l).length) (c)) rfl (Ru.move rfl) rfl ?_
    refine O.callg [.slice (A) ((l).length) (c)] rfl en31 rfl rfl (toLinkS_fn A c l w5_3 (hA.at hM5_3) (hNA.at hM5_3) (by omega) (by exact hkm)) ?_
    rintro _ w6_1 ⟨L16_1, A16_1, c16_1, rfl, hts6_1, hR6_1⟩
    have hM6_1 : Mem w w6_1 [] [[⟨.slice (A16_1) ((L16_1).length) (c16_1), 28, 3, ((L16_1).length), (L16_1).flatMap encL⟩], (L16_1).map (keyF 3), [⟨.slice (A15_3) ((L15_3).length) (c15_3), 28, 3, ((L15_3).length), (L15_3).flatMap encL⟩], (L15_3).map (keyF 3), [⟨.slice (A15_1) ((L15_1).length) (c15_1), 28, 3, ((L15_1).length), (L15_1).flatMap encL⟩], (L15_1).map (keyF 3)] := Mem.call (Ma := []) hM5_3 hR6_1 rfl
    have hcr6_1_0 := (hM6_1.cap 0 rfl).1
    have hel6_1 := ts_eq_len hts6_1
    have hek6_1 := keys_le hts6_1 hkt
    refine O.val (v := .slice (A16_1) ((L16_1).length) (c16_1)) rfl (Ru.assign rfl) rfl ?_
    refine O.nil ?_
    refine C.seq ?_
    refine C.region ?_
    refine O.val (v := .slice (A16_1) ((L16_1).length) (c16_1)) rfl (Ru.move rfl) rfl ?_
    refine O.val (v := I (at0)) rfl (Ru.move rfl) rfl ?_
    have hcp7_2 := Mem.ncap hM6_1 1 rfl
    refine O.callg [.slice (A16_1) ((L16_1).length) (c16_1), I (at0)] rfl en32 rfl rfl (SplitLink_fn A16_1 c16_1 L16_1 at0 w6_1 (hM6_1.rd 0 rfl) (Nst.mem hM6_1 1 rfl) (by omega) (by exact hcp7_2)) ?_
    rintro _ w7_2 ⟨L17_2, A17_2, c17_2, rfl, hts7_2, hR7_2⟩
    have hM7_2 : Mem w w7_2 [] [[⟨.slice (A17_2) ((L17_2).length) (c17_2), 28, 3, ((L17_2).length), (L17_2).flatMap encL⟩], (L17_2).map (keyF 3), [⟨.slice (A16_1) ((L16_1).length) (c16_1), 28, 3, ((L16_1).length), (L16_1).flatMap encL⟩], (L16_1).map (keyF 3), [⟨.slice (A15_3) ((L15_3).length) (c15_3), 28, 3, ((L15_3).length), (L15_3).flatMap encL⟩], (L15_3).map (keyF 3), [⟨.slice (A15_1) ((L15_1).length) (c15_1), 28, 3, ((L15_1).length), (L15_1).flatMap encL⟩], (L15_1).map (keyF 3)] := Mem.call (Ma := []) hM6_1 hR7_2 rfl
    have hcr7_2_0 := (hM7_2.cap 0 rfl).1
    have hG : tsL L17_2 = (splitF (tsL l) at0).getD [] := by rw [hts7_2, hts6_1]
    have hGl : L17_2.length ≤ 17 := by have h8 := congrArg List.length hG; have h9 := splF_len (l := tsL l) (at_ := at0); simp only [List.length_map] at h8; omega
    have hGk : ∀ x ∈ L17_2, x.t.keys.length ≤ 100 := keys_le hG splF_keys4
    have hGe : endL 1 L17_2 ≤ 2000 := by rw [endL_sum]; have := sumKL_le hGk; omega
    refine O.val (v := .tuple #[.slice (A17_2) ((L17_2).length) (c17_2), .bool ((splitF (tsL L16_1) at0).isSome)]) rfl (Ru.move rfl) rfl ?_
    refine O.val (v := .slice (A17_2) ((L17_2).length) (c17_2)) rfl (Ru.extract rfl rfl) rfl ?_
    refine O.val (v := .bool ((splitF (tsL L16_1) at0).isSome)) rfl (Ru.extract rfl rfl) rfl ?_
    refine O.val (v := .slice (A17_2) ((L17_2).length) (c17_2)) rfl (Ru.assign rfl) rfl ?_
    refine O.val (v := .bool ((splitF (tsL L16_1) at0).isSome)) rfl (Ru.assign rfl) rfl ?_
    refine O.nil ?_
    refine C.seq ?_
    refine C.seq ?_
    refine C.region ?_
    refine O.val (v := .slice (A17_2) ((L17_2).length) (c17_2)) rfl (Ru.move rfl) rfl ?_
    refine O.val (v := .slice (A15_3) ((L15_3).length) (c15_3)) rfl (Ru.move rfl) rfl ?_
    refine O.callg [.slice (A17_2) ((L17_2).length) (c17_2), .slice (A15_3) ((L15_3).length) (c15_3)] rfl en33 rfl rfl (eqLinkS_fn A17_2 c17_2 L17_2 A15_3 c15_3 L15_3 w7_2 (hM7_2.rd 0 rfl) (Nst.mem hM7_2 1 rfl) (hM7_2.rd 4 rfl) (Nst.mem hM7_2 5 rfl) (by omega) (by intro x hx; have := hGk x hx; omega)) ?_
    rintro _ w8_2 ⟨hv8_2, hR8_2⟩
    obtain rfl : _ = .bool (true) := hv8_2.trans (congrArg Value.bool (decide_eq_true (by rw [hG, hW])))
    have hM8_2 : Mem w w8_2 [] [[⟨.slice (A17_2) ((L17_2).length) (c17_2), 28, 3, ((L17_2).length), (L17_2).flatMap encL⟩], (L17_2).map (keyF 3), [⟨.slice (A16_1) ((L16_1).length) (c16_1), 28, 3, ((L16_1).length), (L16_1).flatMap encL⟩], (L16_1).map (keyF 3), [⟨.slice (A15_3) ((L15_3).length) (c15_3), 28, 3, ((L15_3).length), (L15_3).flatMap encL⟩], (L15_3).map (keyF 3), [⟨.slice (A15_1) ((L15_1).length) (c15_1), 28, 3, ((L15_1).length), (L15_1).flatMap encL⟩], (L15_1).map (keyF 3)] := Mem.call (Ma := []) hM7_2 hR8_2 rfl
    refine O.val (v := .bool (false)) rfl (Ru.not (b := true) rfl) rfl ?_
    refine O.val (v := .bool (false)) rfl (Ru.move rfl) rfl ?_
    refine O.val (v := .bool ((splitF (tsL L16_1) at0).isSome)) rfl (Ru.move rfl) rfl ?_
    refine O.val (v := .bool ((splitF (tsL L15_1) at0).isSome)) rfl (Ru.move rfl) rfl ?_
    refine O.val (v := .bool (false)) rfl (Ru.congr (v := .bool (decide ((splitF (tsL L16_1) at0).isSome ≠ (splitF (tsL L15_1) at0).isSome))) (v' := .bool (false)) (Ru.bneq Try.underlying4 rfl rfl) ((congrArg Value.bool (decide_eq_false (by simp only [hts6_1, hts5_1]; simp))))) rfl ?_
    refine O.val (v := .bool (false)) rfl (Ru.pickF rfl rfl) rfl ?_
    refine O.nil ?_
    refine C.condF rfl ?_
    refine C.skip ?_
    refine C.seq ?_
    refine C.seq ?_
    refine C.region ?_
    refine O.val (v := .slice (A16_1) ((L16_1).length) (c16_1)) rfl (Ru.move rfl) rfl ?_
    refine O.val (v := .slice (A) ((l).length) (c)) rfl (Ru.move rfl) rfl ?_
    refine O.callg [.slice (A) ((l).length) (c)] rfl en31 rfl rfl (toLinkS_fn A c l w8_2 (hA.at hM8_2) (hNA.at hM8_2) (by omega) (by exact hkm)) ?_
    rintro _ w10_2 ⟨L110_2, A110_2, c110_2, rfl, hts10_2, hR10_2⟩
    have hM10_2 : Mem w w10_2 [] [[⟨.slice (A110_2) ((L110_2).length) (c110_2), 28, 3, ((L110_2).length), (L110_2).flatMap encL⟩], (L110_2).map (keyF 3), [⟨.slice (A17_2) ((L17_2).length) (c17_2), 28, 3, ((L17_2).length), (L17_2).flatMap encL⟩], (L17_2).map (keyF 3), [⟨.slice (A16_1) ((L16_1).length) (c16_1), 28, 3, ((L16_1).length), (L16_1).flatMap encL⟩], (L16_1).map (keyF 3), [⟨.slice (A15_3) ((L15_3).length) (c15_3), 28, 3, ((L15_3).length), (L15_3).flatMap encL⟩], (L15_3).map (keyF 3), [⟨.slice (A15_1) ((L15_1).length) (c15_1), 28, 3, ((L15_1).length), (L15_1).flatMap encL⟩], (L15_1).map (keyF 3)] := Mem.call (Ma := []) hM8_2 hR10_2 rfl
    have hcr10_2_0 := (hM10_2.cap 0 rfl).1
    have hel10_2 := ts_eq_len hts10_2
    have hek10_2 := keys_le hts10_2 hkt
    refine O.callg [.slice (A16_1) ((L16_1).length) (c16_1), .slice (A110_2) ((L110_2).length) (c110_2)] rfl en33 rfl rfl (eqLinkS_fn A16_1 c16_1 L16_1 A110_2 c110_2 L110_2 w10_2 (hM10_2.rd 4 rfl) (Nst.mem hM10_2 5 rfl) (hM10_2.rd 0 rfl) (Nst.mem hM10_2 1 rfl) (by omega) (by intro x hx; have := hek6_1 x hx; omega)) ?_
    rintro _ w10_3 ⟨hv10_3, hR10_3⟩
    obtain rfl : _ = .bool (true) := hv10_3.trans (congrArg Value.bool (decide_eq_true (by rw [hts6_1, hts10_2])))
    have hM10_3 : Mem w w10_3 [] [[⟨.slice (A110_2) ((L110_2).length) (c110_2), 28, 3, ((L110_2).length), (L110_2).flatMap encL⟩], (L110_2).map (keyF 3), [⟨.slice (A17_2) ((L17_2).length) (c17_2), 28, 3, ((L17_2).length), (L17_2).flatMap encL⟩], (L17_2).map (keyF 3), [⟨.slice (A16_1) ((L16_1).length) (c16_1), 28, 3, ((L16_1).length), (L16_1).flatMap encL⟩], (L16_1).map (keyF 3), [⟨.slice (A15_3) ((L15_3).length) (c15_3), 28, 3, ((L15_3).length), (L15_3).flatMap encL⟩], (L15_3).map (keyF 3), [⟨.slice (A15_1) ((L15_1).length) (c15_1), 28, 3, ((L15_1).length), (L15_1).flatMap encL⟩], (L15_1).map (keyF 3)] := Mem.call (Ma := []) hM10_2 hR10_3 rfl
    refine O.val (v := .bool (false)) rfl (Ru.not (b := true) rfl) rfl ?_
    refine O.nil ?_
    refine C.condF rfl ?_
    refine C.skip ?_
    refine C.seq ?_
    refine C.region ?_
    refine O.val (v := I (1)) rfl (Ru.assign rfl) rfl ?_
    refine O.nil ?_
    refine C.seq ?_
    refine C.region ?_
    refine O.val (v := .slice (A16_1) ((L16_1).length) (c16_1)) rfl (Ru.move rfl) rfl ?_
    refine O.val (v := I (1)) rfl (Ru.move rfl) rfl ?_
    have hMf13_2 : Mem w w10_3 [] [[⟨.slice (A16_1) ((L16_1).length) (c16_1), 28, 3, ((L16_1).length), (L16_1).flatMap encL⟩], (L16_1).map (keyF 3), [⟨.slice (A110_2) ((L110_2).length) (c110_2), 28, 3, ((L110_2).length), (L110_2).flatMap encL⟩], (L110_2).map (keyF 3), [⟨.slice (A17_2) ((L17_2).length) (c17_2), 28, 3, ((L17_2).length), (L17_2).flatMap encL⟩], (L17_2).map (keyF 3), [⟨.slice (A15_3) ((L15_3).length) (c15_3), 28, 3, ((L15_3).length), (L15_3).flatMap encL⟩], (L15_3).map (keyF 3), [⟨.slice (A15_1) ((L15_1).length) (c15_1), 28, 3, ((L15_1).length), (L15_1).flatMap encL⟩], (L15_1).map (keyF 3)] := hM10_3.pick [4, 5, 0, 1, 2, 3, 6, 7, 8, 9] (by decide) rfl
    refine O.callg [.slice (A16_1) ((L16_1).length) (c16_1), I (1)] rfl en34 rfl rfl (markLinkS_fn A16_1 c16_1 L16_1 1 w10_3 (Mem.focus (Ma := [[⟨.slice (A16_1) ((L16_1).length) (c16_1), 28, 3, ((L16_1).length), (L16_1).flatMap encL⟩], (L16_1).map (keyF 3)]) (rest := [[⟨.slice (A110_2) ((L110_2).length) (c110_2), 28, 3, ((L110_2).length), (L110_2).flatMap encL⟩], (L110_2).map (keyF 3), [⟨.slice (A17_2) ((L17_2).length) (c17_2), 28, 3, ((L17_2).length), (L17_2).flatMap encL⟩], (L17_2).map (keyF 3), [⟨.slice (A15_3) ((L15_3).length) (c15_3), 28, 3, ((L15_3).length), (L15_3).flatMap encL⟩], (L15_3).map (keyF 3), [⟨.slice (A15_1) ((L15_1).length) (c15_1), 28, 3, ((L15_1).length), (L15_1).flatMap encL⟩], (L15_1).map (keyF 3)]) hMf13_2 rfl) (by omega) (by rw [endL_sum, sumKL_ts hts6_1]; omega) (by exact hek6_1)) ?_
    rintro _ w13_2 ⟨rfl, hR13_2⟩
    have hM13_2 : Mem w w13_2 [] [[⟨.slice (A16_1) ((L16_1).length) (c16_1), 28, 3, ((L16_1).length), (markL 1 L16_1).flatMap encL⟩], (markL 1 L16_1).map (keyF 3), [⟨.slice (A110_2) ((L110_2).length) (c110_2), 28, 3, ((L110_2).length), (L110_2).flatMap encL⟩], (L110_2).map (keyF 3), [⟨.slice (A17_2) ((L17_2).length) (c17_2), 28, 3, ((L17_2).length), (L17_2).flatMap encL⟩], (L17_2).map (keyF 3), [⟨.slice (A15_3) ((L15_3).length) (c15_3), 28, 3, ((L15_3).length), (L15_3).flatMap encL⟩], (L15_3).map (keyF 3), [⟨.slice (A15_1) ((L15_1).length) (c15_1), 28, 3, ((L15_1).length), (L15_1).flatMap encL⟩], (L15_1).map (keyF 3)] := Mem.call (Ma := [[⟨.slice (A16_1) ((L16_1).length) (c16_1), 28, 3, ((L16_1).length), (L16_1).flatMap encL⟩], (L16_1).map (keyF 3)]) hMf13_2 hR13_2 rfl
    have hcr13_2_0 := (hM13_2.cap 0 rfl).1
    refine O.val (v := I (((endL 1 L16_1 : Nat) : Int))) rfl (Ru.assign rfl) rfl ?_
    refine O.nil ?_
    refine C.seq ?_
    refine C.seq ?_
    refine C.region ?_
    refine O.val (v := I (((endL 1 L16_1 : Nat) : Int))) rfl (Ru.move rfl) rfl ?_
    refine O.val (v := .bool (false)) rfl (Ru.congr (v := .bool (decide (((endL 1 L16_1 : Nat) : Int) < 0))) (v' := .bool (false)) (Ru.lss rfl rfl) ((congrArg Value.bool (decide_eq_false (by omega))))) rfl ?_
    refine O.val (v := .bool (false)) rfl (Ru.move rfl) rfl ?_
    refine O.val (v := .slice (A17_2) ((L17_2).length) (c17_2)) rfl (Ru.move rfl) rfl ?_
    refine O.val (v := .slice (A15_3) ((L15_3).length) (c15_3)) rfl (Ru.move rfl) rfl ?_
    refine O.callg [.slice (A17_2) ((L17_2).length) (c17_2), .slice (A15_3) ((L15_3).length) (c15_3)] rfl en33 rfl rfl (eqLinkS_fn A17_2 c17_2 L17_2 A15_3 c15_3 L15_3 w13_2 (hM13_2.rd 4 rfl) (Nst.mem hM13_2 5 rfl) (hM13_2.rd 6 rfl) (Nst.mem hM13_2 7 rfl) (by omega) (by intro x hx; have := hGk x hx; omega)) ?_
    rintro _ w14_5 ⟨hv14_5, hR14_5⟩
    obtain rfl : _ = .bool (true) := hv14_5.trans (congrArg Value.bool (decide_eq_true (by rw [hG, hW])))
    have hM14_5 : Mem w w14_5 [] [[⟨.slice (A16_1) ((L16_1).length) (c16_1), 28, 3, ((L16_1).length), (markL 1 L16_1).flatMap encL⟩], (markL 1 L16_1).map (keyF 3), [⟨.slice (A110_2) ((L110_2).length) (c110_2), 28, 3, ((L110_2).length), (L110_2).flatMap encL⟩], (L110_2).map (keyF 3), [⟨.slice (A17_2) ((L17_2).length) (c17_2), 28, 3, ((L17_2).length), (L17_2).flatMap encL⟩], (L17_2).map (keyF 3), [⟨.slice (A15_3) ((L15_3).length) (c15_3), 28, 3, ((L15_3).length), (L15_3).flatMap encL⟩], (L15_3).map (keyF 3), [⟨.slice (A15_1) ((L15_1).length) (c15_1), 28, 3, ((L15_1).length), (L15_1).flatMap encL⟩], (L15_1).map (keyF 3)] := Mem.call (Ma := []) hM13_2 hR14_5 rfl
    refine O.val (v := .bool (false)) rfl (Ru.not (b := true) rfl) rfl ?_
    refine O.val (v := .bool (false)) rfl (Ru.pickF rfl rfl) rfl ?_
    refine O.val (v := .bool (false)) rfl (Ru.move rfl) rfl ?_
    refine O.val (v := .bool ((splitF (tsL L16_1) at0).isSome)) rfl (Ru.move rfl) rfl ?_
    refine O.val (v := .bool ((splitF (tsL L15_1) at0).isSome)) rfl (Ru.move rfl) rfl ?_
    refine O.val (v := .bool (false)) rfl (Ru.congr (v := .bool (decide ((splitF (tsL L16_1) at0).isSome ≠ (splitF (tsL L15_1) at0).isSome))) (v' := .bool (false)) (Ru.bneq Try.underlying4 rfl rfl) ((congrArg Value.bool (decide_eq_false (by simp only [hts6_1, hts5_1]; simp))))) rfl ?_
    refine O.val (v := .bool (false)) rfl (Ru.pickF rfl rfl) rfl ?_
    refine O.nil ?_
    refine C.condF rfl ?_
    refine C.skip ?_
    refine C.seq ?_
    refine C.region ?_
    refine O.val (v := I (1)) rfl (Ru.assign rfl) rfl ?_
    refine O.nil ?_
    refine C.seq ?_
    refine C.region ?_
    refine O.val (v := .slice (A17_2) ((L17_2).length) (c17_2)) rfl (Ru.move rfl) rfl ?_
    refine O.val (v := I (1)) rfl (Ru.move rfl) rfl ?_
    have hMf17_2 : Mem w w14_5 [] [[⟨.slice (A17_2) ((L17_2).length) (c17_2), 28, 3, ((L17_2).length), (L17_2).flatMap encL⟩], (L17_2).map (keyF 3), [⟨.slice (A16_1) ((L16_1).length) (c16_1), 28, 3, ((L16_1).length), (markL 1 L16_1).flatMap encL⟩], (markL 1 L16_1).map (keyF 3), [⟨.slice (A110_2) ((L110_2).length) (c110_2), 28, 3, ((L110_2).length), (L110_2).flatMap encL⟩], (L110_2).map (keyF 3), [⟨.slice (A15_3) ((L15_3).length) (c15_3), 28, 3, ((L15_3).length), (L15_3).flatMap encL⟩], (L15_3).map (keyF 3), [⟨.slice (A15_1) ((L15_1).length) (c15_1), 28, 3, ((L15_1).length), (L15_1).flatMap encL⟩], (L15_1).map (keyF 3)] := hM14_5.pick [4, 5, 0, 1, 2, 3, 6, 7, 8, 9] (by decide) rfl
    refine O.callg [.slice (A17_2) ((L17_2).length) (c17_2), I (1)] rfl en34 rfl rfl (markLinkS_fn A17_2 c17_2 L17_2 1 w14_5 (Mem.focus (Ma := [[⟨.slice (A17_2) ((L17_2).length) (c17_2), 28, 3, ((L17_2).length), (L17_2).flatMap encL⟩], (L17_2).map (keyF 3)]) (rest := [[⟨.slice (A16_1) ((L16_1).length) (c16_1), 28, 3, ((L16_1).length), (markL 1 L16_1).flatMap encL⟩], (markL 1 L16_1).map (keyF 3), [⟨.slice (A110_2) ((L110_2).length) (c110_2), 28, 3, ((L110_2).length), (L110_2).flatMap encL⟩], (L110_2).map (keyF 3), [⟨.slice (A15_3) ((L15_3).length) (c15_3), 28, 3, ((L15_3).length), (L15_3).flatMap encL⟩], (L15_3).map (keyF 3), [⟨.slice (A15_1) ((L15_1).length) (c15_1), 28, 3, ((L15_1).length), (L15_1).flatMap encL⟩], (L15_1).map (keyF 3)]) hMf17_2 rfl) (by omega) (by omega) (by intro x hx; have := hGk x hx; omega)) ?_
    rintro _ w17_2 ⟨rfl, hR17_2⟩
    have hM17_2 : Mem w w17_2 [] [[⟨.slice (A17_2) ((L17_2).length) (c17_2), 28, 3, ((L17_2).length), (markL 1 L17_2).flatMap encL⟩], (markL 1 L17_2).map (keyF 3), [⟨.slice (A16_1) ((L16_1).length) (c16_1), 28, 3, ((L16_1).length), (markL 1 L16_1).flatMap encL⟩], (markL 1 L16_1).map (keyF 3), [⟨.slice (A110_2) ((L110_2).length) (c110_2), 28, 3, ((L110_2).length), (L110_2).flatMap encL⟩], (L110_2).map (keyF 3), [⟨.slice (A15_3) ((L15_3).length) (c15_3), 28, 3, ((L15_3).length), (L15_3).flatMap encL⟩], (L15_3).map (keyF 3), [⟨.slice (A15_1) ((L15_1).length) (c15_1), 28, 3, ((L15_1).length), (L15_1).flatMap encL⟩], (L15_1).map (keyF 3)] := Mem.call (Ma := [[⟨.slice (A17_2) ((L17_2).length) (c17_2), 28, 3, ((L17_2).length), (L17_2).flatMap encL⟩], (L17_2).map (keyF 3)]) hMf17_2 hR17_2 rfl
    have hcr17_2_0 := (hM17_2.cap 0 rfl).1
    refine O.val (v := I (((endL 1 L17_2 : Nat) : Int))) rfl (Ru.assign rfl) rfl ?_
    refine O.nil ?_
    refine C.seq ?_
    refine C.region ?_
    refine O.val (v := I (1)) rfl (Ru.assign rfl) rfl ?_
    refine O.nil ?_
    refine C.seq ?_
    refine C.region ?_
    refine O.val (v := .slice (A17_2) ((L17_2).length) (c17_2)) rfl (Ru.move rfl) rfl ?_
    refine O.val (v := I (1)) rfl (Ru.move rfl) rfl ?_
    refine O.callg [.slice (A17_2) ((markL 1 L17_2).length) (c17_2), I (1)] rfl en35 (by first | rfl | (rw [show (markL 1 L17_2).length = (L17_2).length from (by first | rfl | (simp; done) | omega | (simp; omega))]; rfl)) rfl (heldLinkS_fn A17_2 c17_2 (markL 1 L17_2) 1 w17_2 (hM17_2.rd 0 rfl) (Nst.mem hM17_2 1 rfl) (by simp; omega) (by rw [endL_mark]; omega) (by intro x hx; have := mark_keys_le hGk x hx; omega) (by exact markL_idem)) ?_
    rintro _ w19_2 ⟨hv19_2, hR19_2⟩
    obtain rfl : _ = I (((endL 1 L17_2 : Nat) : Int)) := hv19_2.trans (I_congr (by rw [endL_mark]))
    have hM19_2 : Mem w w19_2 [] [[⟨.slice (A17_2) ((L17_2).length) (c17_2), 28, 3, ((L17_2).length), (markL 1 L17_2).flatMap encL⟩], (markL 1 L17_2).map (keyF 3), [⟨.slice (A16_1) ((L16_1).length) (c16_1), 28, 3, ((L16_1).length), (markL 1 L16_1).flatMap encL⟩], (markL 1 L16_1).map (keyF 3), [⟨.slice (A110_2) ((L110_2).length) (c110_2), 28, 3, ((L110_2).length), (L110_2).flatMap encL⟩], (L110_2).map (keyF 3), [⟨.slice (A15_3) ((L15_3).length) (c15_3), 28, 3, ((L15_3).length), (L15_3).flatMap encL⟩], (L15_3).map (keyF 3), [⟨.slice (A15_1) ((L15_1).length) (c15_1), 28, 3, ((L15_1).length), (L15_1).flatMap encL⟩], (L15_1).map (keyF 3)] := Mem.call (Ma := []) hM17_2 hR19_2 rfl
    refine O.val (v := I (((endL 1 L17_2 : Nat) : Int))) rfl (Ru.assign rfl) rfl ?_
    refine O.nil ?_
    refine C.seq ?_
    refine C.seq ?_
    refine C.region ?_
    refine O.val (v := I (((endL 1 L17_2 : Nat) : Int))) rfl (Ru.move rfl) rfl ?_
    refine O.val (v := .bool (false)) rfl (Ru.congr (v := .bool (decide (((endL 1 L17_2 : Nat) : Int) < 0))) (v' := .bool (false)) (Ru.lss rfl rfl) ((congrArg Value.bool (decide_eq_false (by omega))))) rfl ?_
    refine O.nil ?_
    refine C.condF rfl ?_
    refine C.skip ?_
    refine C.seq ?_
    refine C.seq ?_
    refine C.region ?_
    refine O.val (v := I (((endL 1 L17_2 : Nat) : Int))) rfl (Ru.move rfl) rfl ?_
    refine O.val (v := I (((endL 1 L17_2 : Nat) : Int))) rfl (Ru.move rfl) rfl ?_
    refine O.val (v := .bool (false)) rfl (Ru.congr (v := .bool (decide (((endL 1 L17_2 : Nat) : Int) ≠ ((endL 1 L17_2 : Nat) : Int)))) (v' := .bool (false)) (Ru.neq rfl rfl) ((congrArg Value.bool (decide_eq_false (by omega))))) rfl ?_
    refine O.nil ?_
    refine C.condF rfl ?_
    refine C.skip ?_
    refine C.seq ?_
    refine C.region ?_
    refine O.val (v := .slice (A) ((l).length) (c)) rfl (Ru.move rfl) rfl ?_
    refine O.callg [.slice (A) ((l).length) (c)] rfl en31 rfl rfl (toLinkS_fn A c l w19_2 (hA.at hM19_2) (hNA.at hM19_2) (by omega) (by exact hkm)) ?_
    rintro _ w24_1 ⟨L124_1, A124_1, c124_1, rfl, hts24_1, hR24_1⟩
    have hM24_1 : Mem w w24_1 [] [[⟨.slice (A124_1) ((L124_1).length) (c124_1), 28, 3, ((L124_1).length), (L124_1).flatMap encL⟩], (L124_1).map (keyF 3), [⟨.slice (A17_2) ((L17_2).length) (c17_2), 28, 3, ((L17_2).length), (markL 1 L17_2).flatMap encL⟩], (markL 1 L17_2).map (keyF 3), [⟨.slice (A16_1) ((L16_1).length) (c16_1), 28, 3, ((L16_1).length), (markL 1 L16_1).flatMap encL⟩], (markL 1 L16_1).map (keyF 3), [⟨.slice (A110_2) ((L110_2).length) (c110_2), 28, 3, ((L110_2).length), (L110_2).flatMap encL⟩], (L110_2).map (keyF 3), [⟨.slice (A15_3) ((L15_3).length) (c15_3), 28, 3, ((L15_3).length), (L15_3).flatMap encL⟩], (L15_3).map (keyF 3), [⟨.slice (A15_1) ((L15_1).length) (c15_1), 28, 3, ((L15_1).length), (L15_1).flatMap encL⟩], (L15_1).map (keyF 3)] := Mem.call (Ma := []) hM19_2 hR24_1 rfl
    have hcr24_1_0 := (hM24_1.cap 0 rfl).1
    have hel24_1 := ts_eq_len hts24_1
    have hek24_1 := keys_le hts24_1 hkt
    refine O.val (v := I (at0)) rfl (Ru.move rfl) rfl ?_
    have hcp24_3 := Mem.ncap hM24_1 1 rfl
    refine O.callg [.slice (A124_1) ((L124_1).length) (c124_1), I (at0)] rfl en32 rfl rfl (SplitLink_fn A124_1 c124_1 L124_1 at0 w24_1 (hM24_1.rd 0 rfl) (Nst.mem hM24_1 1 rfl) (by omega) (by exact hcp24_3)) ?_
    rintro _ w24_3 ⟨L124_3, A124_3, c124_3, rfl, hts24_3, hR24_3⟩
    have hM24_3 : Mem w w24_3 [] [[⟨.slice (A124_3) ((L124_3).length) (c124_3), 28, 3, ((L124_3).length), (L124_3).flatMap encL⟩], (L124_3).map (keyF 3), [⟨.slice (A124_1) ((L124_1).length) (c124_1), 28, 3, ((L124_1).length), (L124_1).flatMap encL⟩], (L124_1).map (keyF 3), [⟨.slice (A17_2) ((L17_2).length) (c17_2), 28, 3, ((L17_2).length), (markL 1 L17_2).flatMap encL⟩], (markL 1 L17_2).map (keyF 3), [⟨.slice (A16_1) ((L16_1).length) (c16_1), 28, 3, ((L16_1).length), (markL 1 L16_1).flatMap encL⟩], (markL 1 L16_1).map (keyF 3), [⟨.slice (A110_2) ((L110_2).length) (c110_2), 28, 3, ((L110_2).length), (L110_2).flatMap encL⟩], (L110_2).map (keyF 3), [⟨.slice (A15_3) ((L15_3).length) (c15_3), 28, 3, ((L15_3).length), (L15_3).flatMap encL⟩], (L15_3).map (keyF 3), [⟨.slice (A15_1) ((L15_1).length) (c15_1), 28, 3, ((L15_1).length), (L15_1).flatMap encL⟩], (L15_1).map (keyF 3)] := Mem.call (Ma := []) hM24_1 hR24_3 rfl
    have hcr24_3_0 := (hM24_3.cap 0 rfl).1
    have hH : tsL L124_3 = (splitF (tsL l) at0).getD [] := by rw [hts24_3, hts24_1]
    have hHl : L124_3.length ≤ 17 := by have h8 := congrArg List.length hH; have h9 := splF_len (l := tsL l) (at_ := at0); simp only [List.length_map] at h8; omega
    have hHk : ∀ x ∈ L124_3, x.t.keys.length ≤ 100 := keys_le hH splF_keys4
    refine O.val (v := .tuple #[.slice (A124_3) ((L124_3).length) (c124_3), .bool ((splitF (tsL L124_1) at0).isSome)]) rfl (Ru.move rfl) rfl ?_
    refine O.val (v := .slice (A124_3) ((L124_3).length) (c124_3)) rfl (Ru.extract rfl rfl) rfl ?_
    refine O.val (v := .bool ((splitF (tsL L124_1) at0).isSome)) rfl (Ru.extract rfl rfl) rfl ?_
    refine O.val (v := .slice (A124_3) ((L124_3).length) (c124_3)) rfl (Ru.assign rfl) rfl ?_
    refine O.val (v := .bool ((splitF (tsL L124_1) at0).isSome)) rfl (Ru.assign rfl) rfl ?_
    refine O.nil ?_
    refine C.seq ?_
    refine C.seq ?_
    refine C.region ?_
    refine O.val (v := .slice (A124_3) ((L124_3).length) (c124_3)) rfl (Ru.move rfl) rfl ?_
    refine O.val (v := .slice (A15_3) ((L15_3).length) (c15_3)) rfl (Ru.move rfl) rfl ?_
    refine O.callg [.slice (A124_3) ((L124_3).length) (c124_3), .slice (A15_3) ((L15_3).length) (c15_3)] rfl en33 rfl rfl (eqLinkS_fn A124_3 c124_3 L124_3 A15_3 c15_3 L15_3 w24_3 (hM24_3.rd 0 rfl) (Nst.mem hM24_3 1 rfl) (hM24_3.rd 10 rfl) (Nst.mem hM24_3 11 rfl) (by omega) (by intro x hx; have := hHk x hx; omega)) ?_
    rintro _ w25_2 ⟨hv25_2, hR25_2⟩
    obtain rfl : _ = .bool (true) := hv25_2.trans (congrArg Value.bool (decide_eq_true (by rw [hH, hW])))
    have hM25_2 : Mem w w25_2 [] [[⟨.slice (A124_3) ((L124_3).length) (c124_3), 28, 3, ((L124_3).length), (L124_3).flatMap encL⟩], (L124_3).map (keyF 3), [⟨.slice (A124_1) ((L124_1).length) (c124_1), 28, 3, ((L124_1).length), (L124_1).flatMap encL⟩], (L124_1).map (keyF 3), [⟨.slice (A17_2) ((L17_2).length) (c17_2), 28, 3, ((L17_2).length), (markL 1 L17_2).flatMap encL⟩], (markL 1 L17_2).map (keyF 3), [⟨.slice (A16_1) ((L16_1).length) (c16_1), 28, 3, ((L16_1).length), (markL 1 L16_1).flatMap encL⟩], (markL 1 L16_1).map (keyF 3), [⟨.slice (A110_2) ((L110_2).length) (c110_2), 28, 3, ((L110_2).length), (L110_2).flatMap encL⟩], (L110_2).map (keyF 3), [⟨.slice (A15_3) ((L15_3).length) (c15_3), 28, 3, ((L15_3).length), (L15_3).flatMap encL⟩], (L15_3).map (keyF 3), [⟨.slice (A15_1) ((L15_1).length) (c15_1), 28, 3, ((L15_1).length), (L15_1).flatMap encL⟩], (L15_1).map (keyF 3)] := Mem.call (Ma := []) hM24_3 hR25_2 rfl
    refine O.val (v := .bool (false)) rfl (Ru.not (b := true) rfl) rfl ?_
    refine O.val (v := .bool (false)) rfl (Ru.move rfl) rfl ?_
    refine O.val (v := .bool ((splitF (tsL L124_1) at0).isSome)) rfl (Ru.move rfl) rfl ?_
    refine O.val (v := .bool ((splitF (tsL L15_1) at0).isSome)) rfl (Ru.move rfl) rfl ?_
    refine O.val (v := .bool (false)) rfl (Ru.congr (v := .bool (decide ((splitF (tsL L124_1) at0).isSome ≠ (splitF (tsL L15_1) at0).isSome))) (v' := .bool (false)) (Ru.bneq Try.underlying4 rfl rfl) ((congrArg Value.bool (decide_eq_false (by simp only [hts24_1, hts5_1]; simp))))) rfl ?_
    refine O.val (v := .bool (false)) rfl (Ru.pickF rfl rfl) rfl ?_
    refine O.nil ?_
    refine C.condF rfl ?_
    refine C.skip ?_
    refine C.seq ?_
    refine C.region ?_
    refine O.val (v := I (1)) rfl (Ru.assign rfl) rfl ?_
    refine O.nil ?_
    refine C.seq ?_
    refine C.region ?_
    refine O.val (v := .slice (A17_2) ((L17_2).length) (c17_2)) rfl (Ru.move rfl) rfl ?_
    refine O.val (v := I (1)) rfl (Ru.move rfl) rfl ?_
    refine O.callg [.slice (A17_2) ((markL 1 L17_2).length) (c17_2), I (1)] rfl en35 (by first | rfl | (rw [show (markL 1 L17_2).length = (L17_2).length from (by first | rfl | (simp; done) | omega | (simp; omega))]; rfl)) rfl (heldLinkS_fn A17_2 c17_2 (markL 1 L17_2) 1 w25_2 (hM25_2.rd 4 rfl) (Nst.mem hM25_2 5 rfl) (by simp; omega) (by rw [endL_mark]; omega) (by intro x hx; have := mark_keys_le hGk x hx; omega) (by exact markL_idem)) ?_
    rintro _ w28_2 ⟨hv28_2, hR28_2⟩
    obtain rfl : _ = I (((endL 1 L17_2 : Nat) : Int)) := hv28_2.trans (I_congr (by rw [endL_mark]))
    have hM28_2 : Mem w w28_2 [] [[⟨.slice (A124_3) ((L124_3).length) (c124_3), 28, 3, ((L124_3).length), (L124_3).flatMap encL⟩], (L124_3).map (keyF 3), [⟨.slice (A124_1) ((L124_1).length) (c124_1), 28, 3, ((L124_1).length), (L124_1).flatMap encL⟩], (L124_1).map (keyF 3), [⟨.slice (A17_2) ((L17_2).length) (c17_2), 28, 3, ((L17_2).length), (markL 1 L17_2).flatMap encL⟩], (markL 1 L17_2).map (keyF 3), [⟨.slice (A16_1) ((L16_1).length) (c16_1), 28, 3, ((L16_1).length), (markL 1 L16_1).flatMap encL⟩], (markL 1 L16_1).map (keyF 3), [⟨.slice (A110_2) ((L110_2).length) (c110_2), 28, 3, ((L110_2).length), (L110_2).flatMap encL⟩], (L110_2).map (keyF 3), [⟨.slice (A15_3) ((L15_3).length) (c15_3), 28, 3, ((L15_3).length), (L15_3).flatMap encL⟩], (L15_3).map (keyF 3), [⟨.slice (A15_1) ((L15_1).length) (c15_1), 28, 3, ((L15_1).length), (L15_1).flatMap encL⟩], (L15_1).map (keyF 3)] := Mem.call (Ma := []) hM25_2 hR28_2 rfl
    refine O.val (v := I (((endL 1 L17_2 : Nat) : Int))) rfl (Ru.assign rfl) rfl ?_
    refine O.nil ?_
    refine C.seq ?_
    refine C.seq ?_
    refine C.region ?_
    refine O.val (v := I (((endL 1 L17_2 : Nat) : Int))) rfl (Ru.move rfl) rfl ?_
    refine O.val (v := .bool (false)) rfl (Ru.congr (v := .bool (decide (((endL 1 L17_2 : Nat) : Int) < 0))) (v' := .bool (false)) (Ru.lss rfl rfl) ((congrArg Value.bool (decide_eq_false (by omega))))) rfl ?_
    refine O.nil ?_
    refine C.condF rfl ?_
    refine C.skip ?_
    refine C.seq ?_
    refine C.seq ?_
    refine C.region ?_
    refine O.val (v := I (((endL 1 L17_2 : Nat) : Int))) rfl (Ru.move rfl) rfl ?_
    refine O.val (v := I (((endL 1 L17_2 : Nat) : Int))) rfl (Ru.move rfl) rfl ?_
    refine O.val (v := .bool (false)) rfl (Ru.congr (v := .bool (decide (((endL 1 L17_2 : Nat) : Int) ≠ ((endL 1 L17_2 : Nat) : Int)))) (v' := .bool (false)) (Ru.neq rfl rfl) ((congrArg Value.bool (decide_eq_false (by omega))))) rfl ?_
    refine O.nil ?_
    refine C.condF rfl ?_
    refine C.skip ?_
    refine C.seq ?_
    refine C.region ?_
    refine O.val (v := .bool (true)) rfl (Ru.assign rfl) rfl ?_
    refine O.nil ?_
    refine C.ret ?_
    refine P1 (v := .bool (true)) rfl ?_
    exact ⟨rfl, (Mem.none hM28_2)⟩
end Go.Proofs.Yteljpjapacajoaa
namespace Go.Proofs.Yteljpjapacajoaa.fnExactSplitLink
open Go.ChangeShapes Go.WideShapes Go.ChangeAt Go.RowKit Go.Px
open Go.ChangeMaps (open_string shut_string)
set_option linter.unusedVariables false

theorem own : ownKnob Try.prog.godebug = none := by kernel_rfl
theorem laidOut : laidOutB Try.prog = true := by kernel_rfl

set_option maxRecDepth 100000 in
theorem lifted (os : Os) (started : os.Started) (H : Type) (enc : TypeId × Value → H) :
    ReturnsInHanded {} Try.checked os 9 .any (Rows.fnExactSplitLinkSpec.pre6 enc Try.prog Try.f9 Rows.fnExactSplitLinkRow.domain false) (Rows.fnExactSplitLinkSpec.post enc Try.prog Try.f9 false true false false) := by
  refine returnsInHanded_of_change (C := Try.checked) own started (by kernel_rfl) Try.func9
    (ChangeSpec.witness6 (enc := enc) (C := Try.checked) false ⟨#[], #[.slice none 0 0, .int .i64 0], []⟩ 8 (by kernel_rfl) (by kernel_rfl) (by kernel_rfl) (by kernel_rfl)) ?_
  intro W base args ds gs before hval0 hW hcnd _
  have hval : ∀ (j : Nat) t v, Try.f9.params[j]? = some t → args[j]? = some v → Value.okWide Try.prog W .any base t v := hval0
  have hW' := hW
  obtain ⟨p, q, hA0, hV, rfl, hfz, hnd⟩ := hW
  have hA : DataW.TrodAll enc Try.prog W 0 (fun _ => true) true Try.f9.params.toList args.toList ds p := hA0
  rw [Try.params9] at hA hval
  obtain ⟨v0, vs0, d0, ds0, p0, q0, hargs, rfl, rfl, h0, r0⟩ := trodAll_cons hA
  obtain ⟨v1, vs1, d1, ds1, p1, q1, rfl, rfl, rfl, h1, r1⟩ := trodAll_cons r0
  obtain ⟨rfl, rfl, rfl⟩ := trodAll_nil r1
  obtain rfl : args = #[v0, v1] := by cases args; simp_all
  obtain ⟨rfl, rfl⟩ := trodVars_none hV
  have k0 := h0
  have lt0 : ∀ x ∈ p0, x.block < W.heap.size := by obtain ⟨m, hm⟩ := k0; exact DataW.trod_lt m _ _ _ hm
  obtain ⟨a0, len0, cap0, rfl⟩ := okWide_slice Try.underlying37 (hval 0 37 v0 rfl rfl)
  have kk0 := k0
  obtain ⟨fuel0, hf0⟩ := kk0
  obtain ⟨z0, rfl, hz0, hc0, hw0, hRd0⟩ := slice_in (α := LnkL) (f := encL) (c := 3) (ok := fun a : LnkL => a.t.keys.length ≤ 9223372036854775807 ∧ Rd W a.A (a.t.keys.map I)) Try.underlying37 (by kernel_rfl) (fun _ => rfl) (fun n cs y h => by
    obtain ⟨hl, hf⟩ := struct_els (l := [(26, 0, 1), (3, 1, 1), (3, 2, 1)]) (k := 3) (by kernel_rfl) (by kernel_rfl) h
    match cs, hl with
    | [b0, b1, b2], _ =>
      obtain ⟨_, _, h0⟩ := hf (26, 0, 1) (by simp)
      obtain ⟨_, _, h1⟩ := hf (3, 1, 1) (by simp)
      obtain ⟨_, _, h2⟩ := hf (3, 2, 1) (by simp)
      obtain ⟨A0, cp0, ks0, e0, m0, r0⟩ := slc_el Try.underlying26 Try.underlying3 (by kernel_rfl) _ _ _ h0
      obtain ⟨x1, e1, k1⟩ := int_el Try.underlying3 _ _ _ h1
      obtain ⟨x2, e2, k2⟩ := int_el Try.underlying3 _ _ _ h2
      refine ⟨⟨A0, cp0, ⟨ks0, x1, x2⟩⟩, ?_, m0, r0⟩
      simp at e0 e1 e2
      simp [encL, e0, e1, e2]) hf0
  have hNst0 : Nst W z0 := fun x hx => (hw0 x hx).2
  have hk0 : ∀ x ∈ z0, x.t.keys.length ≤ 9223372036854775807 := fun x hx => (hw0 x hx).1
  have k1 := h1
  have lt1 : ∀ x ∈ p1, x.block < W.heap.size := by obtain ⟨m, hm⟩ := k1; exact DataW.trod_lt m _ _ _ hm
  obtain ⟨a1, rfl, rfl, rfl, w1⟩ := open_int Try.underlying3 (hval 1 3 v1 rfl rfl) h1
  clear hA0 hval0
  refine (FnExactSplitLink_fn a0 cap0 z0 a1 W hRd0 hNst0 hz0 hk0).out.mono fun e W' ⟨v, he, hv, hg⟩ => ?_
  subst he hv
  have bel : Below W.heap.size W W' := ⟨hg.os, hg.tape, hg.output, hg.size, fun k hk => hg.block k hk (by simp)⟩
  exact ⟨_, rfl, _, _, _, [], _, [], hW', trodAll_mk1 (shut_bool Try.underlying4 _), (trodAll_cons_mk (Below.trod laidOut (by kernel_rfl) (of_decide_eq_true (by kernel_rfl)) k0 bel lt0) (trodAll_cons_mk (Below.trod laidOut (by kernel_rfl) (of_decide_eq_true (by kernel_rfl)) k1 bel lt1) trodAll_mk0)), rfl, bel.frame _, fun h => by cases h⟩

theorem named_ : Try.prog.funcNamed Rows.fnExactSplitLinkRow.func = some 9 := by kernel_rfl
theorem closed : joinedFacts Try.prog 9 Try.f9 Rows.fnExactSplitLinkSpec Rows.fnExactSplitLinkRow = true := by
  unfold joinedFacts
  rw [enter_, lifts_, made_]
  kernel_rfl
theorem inst_ : Try.f9.isInstance Try.prog Rows.fnExactSplitLinkRow.origin Rows.fnExactSplitLinkRow.targs := of_decide_eq_true (by kernel_rfl)
theorem wrap_ : Try.f9.isWrapper Try.prog Rows.fnExactSplitLinkRow.wrapper Rows.fnExactSplitLinkRow.mainSum := by
  unfold Func.isWrapper
  rw [if_neg (by decide +kernel)]
  exact ⟨rfl, rfl⟩
theorem over : Rows.fnExactSplitLinkRow.holds Try.pinned (OpenSpec.ofChange Rows.fnExactSplitLinkSpec) :=
  OpenClaim.holds_of_wide 9 Try.f9 rfl rfl rfl rfl rfl rfl rfl ⟨rfl, rfl, rfl, rfl, rfl⟩ rfl rfl rfl rfl rfl named_ Try.func9 closed inst_ wrap_
    (fun os started H enc _ => lifted os started H enc)
theorem proved : Rows.FnExactSplitLinkSaid := over
end Go.Proofs.Yteljpjapacajoaa.fnExactSplitLink
