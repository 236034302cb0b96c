/- The statement Rows.FnSplitLinkSaid: the Go function laws.FnSplitLink returns true for every input, and each argument reads afterwards as it read before. No conditions. -/
import Derived.Test.YteljpjapacajoaaRows
import Derived.Test.YteljpjapacajoaaPxO
import Derived.Test.YteljpjapacajoaaDZ
import Derived.Test.YteljpjapacajoaaH0
import Derived.WalkKit
import Derived.ProofKit
import Derived.OpenShut
import Derived.ShutString
import Derived.ChangeOld
import Derived.SliceStrings
import Derived.Deep.Slices
import Derived.Deep.Fields
import Derived.ChangeSame
import Derived.Below
set_option linter.unusedVariables false
set_option linter.unusedSimpArgs false
namespace Go.Proofs.Yteljpjapacajoaa
open Go.Px
set_option linter.unusedVariables false
theorem FnSplitLink_fn (A : Option Addr) (c : Nat) (l : List UInt8) (w : World) (hA : Rd w A ((l).map byteV)) (hl : l.length ≤ 9223372036854775807) (hc : l.length ≤ c) :
    Does Try.prog 12 [.slice (A) ((l).length) (c)] w (fun v w1 => v = .bool (true) ∧ Mem w w1 [] []) := by
  have hM : Mem w w [] [] := Mem.refl
  refine Does.enter1 Try.func12 rfl Try.results12 Try.ntmps12 rfl ?_
  refine C.seq ?_
  refine C.region ?_
  refine O.val (v := .bool (false)) rfl (Ru.assign rfl) rfl ?_
  refine O.nil ?_
  refine C.seq ?_
  refine C.seq ?_
  refine C.region ?_
  refine O.val (v := .slice (A) ((l).length) (c)) rfl (Ru.move rfl) rfl ?_
  refine O.val (v := I ((((l).length : Nat) : Int))) rfl (Ru.blenSlice Try.underlying22 rfl) rfl ?_
  refine O.val (v := .bool (decide ((((l).length : Nat) : Int) > 1048576))) rfl (Ru.gtr rfl rfl) rfl ?_
  refine O.nil ?_
  refine C.cond (p := (((l).length : Nat) : Int) > 1048576) rfl (fun c12 => ?_) (fun c12 => ?_)
  · refine C.seq ?_
    refine C.region ?_
    refine O.val (v := .bool (true)) rfl (Ru.assign rfl) rfl ?_
    refine O.nil ?_
    refine C.ret ?_
    refine P1 (v := .bool (true)) rfl ?_
    exact ⟨rfl, (Mem.none hM)⟩
  · refine C.skip ?_
    refine C.seq ?_
    refine C.region ?_
    refine O.val (v := .slice (A) ((l).length) (c)) rfl (Ru.move rfl) rfl ?_
    refine O.callg [.slice (A) ((l).length) (c)] rfl en36 rfl rfl (DrawSplitLink_fn A c l w (hA.at hM) (by first | omega | assumption | (simp; omega) | simp | (intros; omega)) (by first | omega | assumption | (simp; omega) | simp | (intros; omega))) ?_
    rintro _ w3_1 ⟨l13_1, A13_1, c13_1, G3_1, at13_1, rfl, hl3_1, hk3_1, hG3_1, hcp3_1, hR3_1⟩
    have hM3_1 : Mem w w3_1 [] [[⟨.slice (A13_1) ((l13_1).length) (c13_1), 28, 3, ((l13_1).length), (l13_1).flatMap encL⟩], G3_1] := Mem.call (Ma := []) hM hR3_1 rfl
    have hcr3_1_0 := (hM3_1.cap 0 rfl).1
    refine O.val (v := .tuple #[.slice (A13_1) ((l13_1).length) (c13_1), I (at13_1)]) rfl (Ru.move rfl) rfl ?_
    refine O.val (v := .slice (A13_1) ((l13_1).length) (c13_1)) rfl (Ru.extract rfl rfl) rfl ?_
    refine O.val (v := I (at13_1)) rfl (Ru.extract rfl rfl) rfl ?_
    refine O.val (v := .slice (A13_1) ((l13_1).length) (c13_1)) rfl (Ru.assign rfl) rfl ?_
    refine O.val (v := I (at13_1)) rfl (Ru.assign rfl) rfl ?_
    refine O.nil ?_
    refine C.seq ?_
    refine C.region ?_
    refine O.val (v := .slice (A13_1) ((l13_1).length) (c13_1)) rfl (Ru.move rfl) rfl ?_
    refine O.val (v := I (at13_1)) rfl (Ru.move rfl) rfl ?_
    refine O.callg [.slice (A13_1) ((l13_1).length) (c13_1), I (at13_1)] rfl en32 rfl rfl (SplitLink_fn A13_1 c13_1 l13_1 at13_1 w3_1 (hM3_1.rd 0 rfl) (hG3_1 _ (Mem.gown hM3_1 1 rfl)) (by omega) (by exact hcp3_1)) ?_
    rintro _ w4_2 ⟨L14_2, A14_2, c14_2, rfl, hts4_2, hR4_2⟩
    have hM4_2 : Mem w w4_2 [] [[⟨.slice (A14_2) ((L14_2).length) (c14_2), 28, 3, ((L14_2).length), (L14_2).flatMap encL⟩], (L14_2).map (keyF 3), [⟨.slice (A13_1) ((l13_1).length) (c13_1), 28, 3, ((l13_1).length), (l13_1).flatMap encL⟩], G3_1] := Mem.call (Ma := []) hM3_1 hR4_2 rfl
    have hcr4_2_0 := (hM4_2.cap 0 rfl).1
    have hL4 : L14_2.length ≤ 17 := by have h8 := congrArg List.length hts4_2; have h9 := splF_len (l := tsL l13_1) (at_ := at13_1); simp only [List.length_map] at h8; omega
    have hK4 : ∀ x ∈ L14_2, x.t.keys.length ≤ 100 := keys_le hts4_2 splF_keys4
    refine O.val (v := .tuple #[.slice (A14_2) ((L14_2).length) (c14_2), .bool ((splitF (tsL l13_1) at13_1).isSome)]) rfl (Ru.move rfl) rfl ?_
    refine O.val (v := .slice (A14_2) ((L14_2).length) (c14_2)) rfl (Ru.extract rfl rfl) rfl ?_
    refine O.val (v := .bool ((splitF (tsL l13_1) at13_1).isSome)) rfl (Ru.extract rfl rfl) rfl ?_
    refine O.val (v := .slice (A14_2) ((L14_2).length) (c14_2)) rfl (Ru.assign rfl) rfl ?_
    refine O.val (v := .bool ((splitF (tsL l13_1) at13_1).isSome)) rfl (Ru.assign rfl) rfl ?_
    refine O.nil ?_
    refine C.seq ?_
    refine C.region ?_
    refine O.val (v := .slice (A13_1) ((l13_1).length) (c13_1)) rfl (Ru.move rfl) rfl ?_
    refine O.val (v := I (at13_1)) rfl (Ru.move rfl) rfl ?_
    refine O.callg [.slice (A13_1) ((l13_1).length) (c13_1), I (at13_1)] rfl en30 rfl rfl (sSplitLink_fn A13_1 c13_1 l13_1 at13_1 w4_2 (hM4_2.rd 2 rfl) (hG3_1 _ (Mem.gown hM4_2 3 rfl)) (by omega) (by exact hcp3_1)) ?_
    rintro _ w5_2 ⟨L15_2, A15_2, c15_2, rfl, hts5_2, hR5_2⟩
    have hM5_2 : Mem w w5_2 [] [[⟨.slice (A15_2) ((L15_2).length) (c15_2), 28, 3, ((L15_2).length), (L15_2).flatMap encL⟩], (L15_2).map (keyF 3), [⟨.slice (A14_2) ((L14_2).length) (c14_2), 28, 3, ((L14_2).length), (L14_2).flatMap encL⟩], (L14_2).map (keyF 3), [⟨.slice (A13_1) ((l13_1).length) (c13_1), 28, 3, ((l13_1).length), (l13_1).flatMap encL⟩], G3_1] := Mem.call (Ma := []) hM4_2 hR5_2 rfl
    have hcr5_2_0 := (hM5_2.cap 0 rfl).1
    refine O.val (v := .tuple #[.slice (A15_2) ((L15_2).length) (c15_2), .bool ((splitF (tsL l13_1) at13_1).isSome)]) rfl (Ru.move rfl) rfl ?_
    refine O.val (v := .slice (A15_2) ((L15_2).length) (c15_2)) rfl (Ru.extract rfl rfl) rfl ?_
    refine O.val (v := .bool ((splitF (tsL l13_1) at13_1).isSome)) rfl (Ru.extract rfl rfl) rfl ?_
    refine O.val (v := .slice (A15_2) ((L15_2).length) (c15_2)) rfl (Ru.assign rfl) rfl ?_
    refine O.val (v := .bool ((splitF (tsL l13_1) at13_1).isSome)) rfl (Ru.assign rfl) rfl ?_
    refine O.nil ?_
    refine C.seq ?_
    refine C.seq ?_
    refine C.region ?_
    refine O.val (v := .slice (A14_2) ((L14_2).length) (c14_2)) rfl (Ru.move rfl) rfl ?_
    refine O.val (v := .slice (A15_2) ((L15_2).length) (c15_2)) rfl (Ru.move rfl) rfl ?_
    refine O.callg [.slice (A14_2) ((L14_2).length) (c14_2), .slice (A15_2) ((L15_2).length) (c15_2)] rfl en37 rfl rfl (equalChains_fn A14_2 c14_2 L14_2 A15_2 c15_2 L15_2 w5_2 (hM5_2.rd 2 rfl) (Nst.mem hM5_2 3 rfl) (hM5_2.rd 0 rfl) (Nst.mem hM5_2 1 rfl) (by omega) (by intro x hx; have := hK4 x hx; omega)) ?_
    rintro _ w6_2 ⟨hv6_2, hR6_2⟩
    obtain rfl : _ = .bool (true) := hv6_2.trans (congrArg Value.bool (decide_eq_true (by rw [hts4_2, hts5_2])))
    have hM6_2 : Mem w w6_2 [] [[⟨.slice (A15_2) ((L15_2).length) (c15_2), 28, 3, ((L15_2).length), (L15_2).flatMap encL⟩], (L15_2).map (keyF 3), [⟨.slice (A14_2) ((L14_2).length) (c14_2), 28, 3, ((L14_2).length), (L14_2).flatMap encL⟩], (L14_2).map (keyF 3), [⟨.slice (A13_1) ((l13_1).length) (c13_1), 28, 3, ((l13_1).length), (l13_1).flatMap encL⟩], G3_1] := Mem.call (Ma := []) hM5_2 hR6_2 rfl
    refine O.val (v := .bool (false)) rfl (Ru.not (b := true) rfl) rfl ?_
    refine O.val (v := .bool (false)) rfl (Ru.move rfl) rfl ?_
    refine O.val (v := .bool ((splitF (tsL l13_1) at13_1).isSome)) rfl (Ru.move rfl) rfl ?_
    refine O.val (v := .bool ((splitF (tsL l13_1) at13_1).isSome)) rfl (Ru.move rfl) rfl ?_
    refine O.val (v := .bool (false)) rfl (Ru.congr (v := .bool (decide ((splitF (tsL l13_1) at13_1).isSome ≠ (splitF (tsL l13_1) at13_1).isSome))) (v' := .bool (false)) (Ru.bneq Try.underlying4 rfl rfl) ((congrArg Value.bool (decide_eq_false (by simp))))) rfl ?_
    refine O.val (v := .bool (false)) rfl (Ru.pickF rfl rfl) rfl ?_
    refine O.val (v := .bool (false)) rfl (Ru.move rfl) rfl ?_
    refine O.val (v := .bool ((splitF (tsL l13_1) at13_1).isSome)) rfl (Ru.move rfl) rfl ?_
    refine O.val (v := .bool (!((splitF (tsL l13_1) at13_1).isSome))) rfl (Ru.not rfl) rfl ?_
    refine O.val (v := .bool (!((splitF (tsL l13_1) at13_1).isSome))) rfl (Ru.pickF rfl rfl) rfl ?_
    refine O.nil ?_
    refine C.condn (b := ((splitF (tsL l13_1) at13_1).isSome)) rfl (fun c42 => ?_) (fun c42 => ?_)
    · refine C.seq ?_
      refine C.region ?_
      refine O.val (v := .slice (A14_2) ((L14_2).length) (c14_2)) rfl (Ru.move rfl) rfl ?_
      refine O.val (v := .slice (A15_2) ((L15_2).length) (c15_2)) rfl (Ru.move rfl) rfl ?_
      refine O.callg [.slice (A14_2) ((L14_2).length) (c14_2), .slice (A15_2) ((L15_2).length) (c15_2)] rfl en37 rfl rfl (equalChains_fn A14_2 c14_2 L14_2 A15_2 c15_2 L15_2 w6_2 (hM6_2.rd 2 rfl) (Nst.mem hM6_2 3 rfl) (hM6_2.rd 0 rfl) (Nst.mem hM6_2 1 rfl) (by omega) (by intro x hx; have := hK4 x hx; omega)) ?_
      rintro _ w7_2 ⟨hv7_2, hR7_2⟩
      obtain rfl : _ = .bool (true) := hv7_2.trans (congrArg Value.bool (decide_eq_true (by rw [hts4_2, hts5_2])))
      have hM7_2 : Mem w w7_2 [] [[⟨.slice (A15_2) ((L15_2).length) (c15_2), 28, 3, ((L15_2).length), (L15_2).flatMap encL⟩], (L15_2).map (keyF 3), [⟨.slice (A14_2) ((L14_2).length) (c14_2), 28, 3, ((L14_2).length), (L14_2).flatMap encL⟩], (L14_2).map (keyF 3), [⟨.slice (A13_1) ((l13_1).length) (c13_1), 28, 3, ((l13_1).length), (l13_1).flatMap encL⟩], G3_1] := Mem.call (Ma := []) hM6_2 hR7_2 rfl
      refine O.val (v := .bool (true)) rfl (Ru.move rfl) rfl ?_
      refine O.val (v := .bool ((splitF (tsL l13_1) at13_1).isSome)) rfl (Ru.move rfl) rfl ?_
      refine O.val (v := .bool ((splitF (tsL l13_1) at13_1).isSome)) rfl (Ru.move rfl) rfl ?_
      refine O.val (v := .bool (true)) rfl (Ru.congr (v := .bool (decide ((splitF (tsL l13_1) at13_1).isSome = (splitF (tsL l13_1) at13_1).isSome))) (v' := .bool (true)) (Ru.beql Try.underlying4 rfl rfl) ((congrArg Value.bool (decide_eq_true rfl)))) rfl ?_
      refine O.val (v := .bool (true)) rfl (Ru.pickT rfl rfl) rfl ?_
      refine O.val (v := .bool (true)) rfl (Ru.assign rfl) rfl ?_
      refine O.nil ?_
      refine C.ret ?_
      refine P1 (v := .bool (true)) rfl ?_
      exact ⟨rfl, (Mem.none hM7_2)⟩
    · obtain ⟨hok, hsp⟩ := split_get (l := tsL l13_1) (at_ := at13_1) (by simp_all)
      have hrg := (splOk_iff.1 hok).2.1
      have hvl := valid_all (splOk_iff.1 hok).1
      have hL5 : tsL L14_2 = splB (tsL l13_1) at13_1.toNat := by rw [hts4_2, hsp, Option.getD_some]
      have hL6 := congrArg List.length hL5
      rw [splB_len] at hL6
      simp only [List.length_map] at hL6 hrg
      have hvo := (split_at hok).1
      refine C.skip ?_
      refine C.seq ?_
      refine C.region ?_
      refine O.val (v := .slice (A13_1) ((l13_1).length) (c13_1)) rfl (Ru.move rfl) rfl ?_
      refine O.val (v := I ((((l13_1).length : Nat) : Int))) rfl (Ru.blenSlice Try.underlying23 rfl) rfl ?_
      refine O.val (v := I ((((l13_1).length : Nat) : Int))) rfl (Ru.assign rfl) rfl ?_
      refine O.nil ?_
      refine C.seq ?_
      refine C.any (f := 47) (ls := [false, false, false, false, false, false, false, false, false, false, false, false, false, false, false, false, false, false, false, false, false, false, false, false, false, false, false, false, false, false, false, false, false, false, false, false, false, false, false, false, false, false, false, false, false, false, false]) (fun w2 => Mem w w2 [] [[⟨.slice (A15_2) ((L15_2).length) (c15_2), 28, 3, ((L15_2).length), (L15_2).flatMap encL⟩], (L15_2).map (keyF 3), [⟨.slice (A14_2) ((L14_2).length) (c14_2), 28, 3, ((L14_2).length), (L14_2).flatMap encL⟩], (L14_2).map (keyF 3), [⟨.slice (A13_1) ((l13_1).length) (c13_1), 28, 3, ((l13_1).length), (l13_1).flatMap encL⟩], G3_1]) mixed rfl rfl (fun w2 hw2 => Mem0.ext (hM6_2.pick [0, 1, 2, 3, 4, 5] (by decide) rfl) hw2) (fun w9a hE9a => ?_)
      have hM9a : Mem w w9a [] [[⟨.slice (A15_2) ((L15_2).length) (c15_2), 28, 3, ((L15_2).length), (L15_2).flatMap encL⟩], (L15_2).map (keyF 3), [⟨.slice (A14_2) ((L14_2).length) (c14_2), 28, 3, ((L14_2).length), (L14_2).flatMap encL⟩], (L14_2).map (keyF 3), [⟨.slice (A13_1) ((l13_1).length) (c13_1), 28, 3, ((l13_1).length), (l13_1).flatMap encL⟩], G3_1] := Mem0.ext hM6_2 hE9a
      refine AO.val (v := .slice (A14_2) ((L14_2).length) (c14_2)) 0 (ls' := [true, false, false, false, false, false, false, false, false, false, false, false, false, false, false, false, false, false, false, false, false, false, false, false, false, false, false, false, false, false, false, false, false, false, false, false, false, false, false, false, false, false, false, false, false, false, false]) rfl (by kernel_rfl) rfl rfl (fun w2 hw2 => Ru.move rfl) rfl ?_
      refine AO.val (v := I ((((L14_2).length : Nat) : Int))) 1 (ls' := [true, true, false, false, false, false, false, false, false, false, false, false, false, false, false, false, false, false, false, false, false, false, false, false, false, false, false, false, false, false, false, false, false, false, false, false, false, false, false, false, false, false, false, false, false, false, false]) rfl (by kernel_rfl) rfl rfl (fun w2 hw2 => Ru.blenSlice Try.underlying23 rfl) rfl ?_
      refine AO.val (v := I ((((l13_1).length : Nat) : Int))) 2 (ls' := [true, true, true, false, false, false, false, false, false, false, false, false, false, false, false, false, false, false, false, false, false, false, false, false, false, false, false, false, false, false, false, false, false, false, false, false, false, false, false, false, false, false, false, false, false, false, false]) rfl (by kernel_rfl) rfl rfl (fun w2 hw2 => Ru.move rfl) rfl ?_
      refine AO.val (v := I (((((l13_1).length + 1) : Nat) : Int))) 3 (ls' := [true, true, true, true, false, false, false, false, false, false, false, false, false, false, false, false, false, false, false, false, false, false, false, false, false, false, false, false, false, false, false, false, false, false, false, false, false, false, false, false, false, false, false, false, false, false, false]) rfl (by kernel_rfl) rfl rfl (fun w2 hw2 => Ru.congr (v := I (((((l13_1).length : Nat) : Int) + 1))) (v' := I (((((l13_1).length + 1) : Nat) : Int))) (Ru.add rfl rfl (by omega)) (I_congr (by first | omega | simp))) rfl ?_
      refine AO.val (v := .bool (true)) 4 (ls' := [true, true, true, true, true, false, false, false, false, false, false, false, false, false, false, false, false, false, false, false, false, false, false, false, false, false, false, false, false, false, false, false, false, false, false, false, false, false, false, false, false, false, false, false, false, false, false]) rfl (by kernel_rfl) rfl rfl (fun w2 hw2 => Ru.congr (v := .bool (decide ((((L14_2).length : Nat) : Int) = ((((l13_1).length + 1) : Nat) : Int)))) (v' := .bool (true)) (Ru.eql rfl rfl) ((congrArg Value.bool (decide_eq_true (by omega))))) rfl ?_
      refine AO.val (v := .bool (true)) 5 (ls' := [true, true, true, true, true, true, false, false, false, false, false, false, false, false, false, false, false, false, false, false, false, false, false, false, false, false, false, false, false, false, false, false, false, false, false, false, false, false, false, false, false, false, false, false, false, false, false]) rfl (by kernel_rfl) rfl rfl (fun w2 hw2 => Ru.move rfl) rfl ?_
      refine AO.val (v := .slice (A14_2) ((L14_2).length) (c14_2)) 6 (ls' := [true, true, true, true, true, true, true, false, false, false, false, false, false, false, false, false, false, false, false, false, false, false, false, false, false, false, false, false, false, false, false, false, false, false, false, false, false, false, false, false, false, false, false, false, false, false, false]) rfl (by kernel_rfl) rfl rfl (fun w2 hw2 => Ru.move rfl) rfl ?_
      refine AO.val (v := I (at13_1)) 7 (ls' := [true, true, true, true, true, true, true, true, false, false, false, false, false, false, false, false, false, false, false, false, false, false, false, false, false, false, false, false, false, false, false, false, false, false, false, false, false, false, false, false, false, false, false, false, false, false, false]) rfl (by kernel_rfl) rfl rfl (fun w2 hw2 => Ru.move rfl) rfl ?_
      have hx9_8 : at13_1.toNat < (L14_2).length := (by omega)
      refine AO.val (v := .pointer (ofs (A14_2) ((at13_1.toNat) * 3))) 8 (ls' := [true, true, true, true, true, true, true, true, true, false, false, false, false, false, false, false, false, false, false, false, false, false, false, false, false, false, false, false, false, false, false, false, false, false, false, false, false, false, false, false, false, false, false, false, false, false, false]) rfl (by kernel_rfl) rfl rfl (fun w2 hw2 => Ru.indexA (j := at13_1.toNat) Try.underlying23 el28 rfl rfl (smf encL_len (hM9a.rd 2 rfl) hx9_8 rfl) (by omega) (by omega)) rfl ?_
      refine AO.val (v := .pointer (ofs (A14_2) ((at13_1.toNat) * 3 + 2))) 9 (ls' := [true, true, true, true, true, true, true, true, true, true, false, false, false, false, false, false, false, false, false, false, false, false, false, false, false, false, false, false, false, false, false, false, false, false, false, false, false, false, false, false, false, false, false, false, false, false, false]) rfl (by kernel_rfl) rfl rfl (fun w2 hw2 => Ru.fieldA fl28_2 rfl (smf encL_len (hM9a.rd 2 rfl) hx9_8 rfl)) rfl ?_
      refine AO.val (v := I (((L14_2)[at13_1.toNat]'hx9_8).t.right)) 10 (ls' := [true, true, true, true, true, true, true, true, true, true, true, false, false, false, false, false, false, false, false, false, false, false, false, false, false, false, false, false, false, false, false, false, false, false, false, false, false, false, false, false, false, false, false, false, false, false, false]) rfl (by kernel_rfl) rfl rfl (fun w2 hw2 => Ru.load1 el3 rfl (ldf encL_len (hw2.rd 2 rfl) hx9_8 rfl)) rfl ?_
      refine AO.val (v := I ((((l13_1).length : Nat) : Int))) 11 (ls' := [true, true, true, true, true, true, true, true, true, true, true, true, false, false, false, false, false, false, false, false, false, false, false, false, false, false, false, false, false, false, false, false, false, false, false, false, false, false, false, false, false, false, false, false, false, false, false]) rfl (by kernel_rfl) rfl rfl (fun w2 hw2 => Ru.move rfl) rfl ?_
      refine AO.val (v := .bool (true)) 12 (ls' := [true, true, true, true, true, true, true, true, true, true, true, true, true, false, false, false, false, false, false, false, false, false, false, false, false, false, false, false, false, false, false, false, false, false, false, false, false, false, false, false, false, false, false, false, false, false, false]) rfl (by kernel_rfl) rfl rfl (fun w2 hw2 => Ru.congr (v := .bool (decide (((L14_2)[at13_1.toNat]'hx9_8).t.right = (((l13_1).length : Nat) : Int)))) (v' := .bool (true)) (Ru.eql rfl rfl) ((congrArg Value.bool (decide_eq_true (by rw [split_out_a hL5 hok (by omega)]; simp [splY]))))) rfl ?_
      refine AO.val (v := .bool (true)) 13 (ls' := [true, true, true, true, true, true, true, true, true, true, true, true, true, true, false, false, false, false, false, false, false, false, false, false, false, false, false, false, false, false, false, false, false, false, false, false, false, false, false, false, false, false, false, false, false, false, false]) rfl (by kernel_rfl) rfl rfl (fun w2 hw2 => Ru.pickT rfl rfl) rfl ?_
      refine AO.val (v := .bool (true)) 14 (ls' := [true, true, true, true, true, true, true, true, true, true, true, true, true, true, true, false, false, false, false, false, false, false, false, false, false, false, false, false, false, false, false, false, false, false, false, false, false, false, false, false, false, false, false, false, false, false, false]) rfl (by kernel_rfl) rfl rfl (fun w2 hw2 => Ru.move rfl) rfl ?_
      refine AO.val (v := .slice (A14_2) ((L14_2).length) (c14_2)) 16 (ls' := [true, true, true, true, true, true, true, true, true, true, true, true, true, true, true, false, true, false, false, false, false, false, false, false, false, false, false, false, false, false, false, false, false, false, false, false, false, false, false, false, false, false, false, false, false, false, false]) rfl (by kernel_rfl) rfl rfl (fun w2 hw2 => Ru.move rfl) rfl ?_
      refine AO.val (v := I (at13_1)) 17 (ls' := [true, true, true, true, true, true, true, true, true, true, true, true, true, true, true, false, true, true, false, false, false, false, false, false, false, false, false, false, false, false, false, false, false, false, false, false, false, false, false, false, false, false, false, false, false, false, false]) rfl (by kernel_rfl) rfl rfl (fun w2 hw2 => Ru.move rfl) rfl ?_
      have hx9_18 : at13_1.toNat < (L14_2).length := (by omega)
      refine AO.val (v := .pointer (ofs (A14_2) ((at13_1.toNat) * 3))) 18 (ls' := [true, true, true, true, true, true, true, true, true, true, true, true, true, true, true, false, true, true, true, false, false, false, false, false, false, false, false, false, false, false, false, false, false, false, false, false, false, false, false, false, false, false, false, false, false, false, false]) rfl (by kernel_rfl) rfl rfl (fun w2 hw2 => Ru.indexA (j := at13_1.toNat) Try.underlying23 el28 rfl rfl (smf encL_len (hM9a.rd 2 rfl) hx9_18 rfl) (by omega) (by omega)) rfl ?_
      have hk18 := hK4 _ (List.getElem_mem hx9_18)
      refine AO.val (v := .pointer (ofs (A14_2) ((at13_1.toNat) * 3 + 0))) 19 (ls' := [true, true, true, true, true, true, true, true, true, true, true, true, true, true, true, false, true, true, true, true, false, false, false, false, false, false, false, false, false, false, false, false, false, false, false, false, false, false, false, false, false, false, false, false, false, false, false]) rfl (by kernel_rfl) rfl rfl (fun w2 hw2 => Ru.fieldA fl28_0 rfl (smf encL_len (hM9a.rd 2 rfl) hx9_18 rfl)) rfl ?_
      refine AO.val (v := .slice (((L14_2)[at13_1.toNat]'hx9_18).A) (((L14_2)[at13_1.toNat]'hx9_18).t.keys.length) (((L14_2)[at13_1.toNat]'hx9_18).cp)) 20 (ls' := [true, true, true, true, true, true, true, true, true, true, true, true, true, true, true, false, true, true, true, true, true, false, false, false, false, false, false, false, false, false, false, false, false, false, false, false, false, false, false, false, false, false, false, false, false, false, false]) rfl (by kernel_rfl) rfl rfl (fun w2 hw2 => Ru.load1 el26 rfl (ldf encL_len (hw2.rd 2 rfl) hx9_18 rfl)) rfl ?_
      refine AO.val (v := .slice (A14_2) ((L14_2).length) (c14_2)) 22 (ls' := [true, true, true, true, true, true, true, true, true, true, true, true, true, true, true, false, true, true, true, true, true, false, true, false, false, false, false, false, false, false, false, false, false, false, false, false, false, false, false, false, false, false, false, false, false, false, false]) rfl (by kernel_rfl) rfl rfl (fun w2 hw2 => Ru.move rfl) rfl ?_
      refine AO.val (v := I ((((l13_1).length : Nat) : Int))) 23 (ls' := [true, true, true, true, true, true, true, true, true, true, true, true, true, true, true, false, true, true, true, true, true, false, true, true, false, false, false, false, false, false, false, false, false, false, false, false, false, false, false, false, false, false, false, false, false, false, false]) rfl (by kernel_rfl) rfl rfl (fun w2 hw2 => Ru.move rfl) rfl ?_
      have hx9_24 : l13_1.length < (L14_2).length := (by omega)
      refine AO.val (v := .pointer (ofs (A14_2) ((l13_1.length) * 3))) 24 (ls' := [true, true, true, true, true, true, true, true, true, true, true, true, true, true, true, false, true, true, true, true, true, false, true, true, true, false, false, false, false, false, false, false, false, false, false, false, false, false, false, false, false, false, false, false, false, false, false]) rfl (by kernel_rfl) rfl rfl (fun w2 hw2 => Ru.indexA (j := l13_1.length) Try.underlying23 el28 rfl rfl (smf encL_len (hM9a.rd 2 rfl) hx9_24 rfl) (by omega) (by omega)) rfl ?_
      have hk24 := hK4 _ (List.getElem_mem hx9_24)
      refine AO.val (v := .pointer (ofs (A14_2) ((l13_1.length) * 3 + 0))) 25 (ls' := [true, true, true, true, true, true, true, true, true, true, true, true, true, true, true, false, true, true, true, true, true, false, true, true, true, true, false, false, false, false, false, false, false, false, false, false, false, false, false, false, false, false, false, false, false, false, false]) rfl (by kernel_rfl) rfl rfl (fun w2 hw2 => Ru.fieldA fl28_0 rfl (smf encL_len (hM9a.rd 2 rfl) hx9_24 rfl)) rfl ?_
      refine AO.val (v := .slice (((L14_2)[l13_1.length]'hx9_24).A) (((L14_2)[l13_1.length]'hx9_24).t.keys.length) (((L14_2)[l13_1.length]'hx9_24).cp)) 26 (ls' := [true, true, true, true, true, true, true, true, true, true, true, true, true, true, true, false, true, true, true, true, true, false, true, true, true, true, true, false, false, false, false, false, false, false, false, false, false, false, false, false, false, false, false, false, false, false, false]) rfl (by kernel_rfl) rfl rfl (fun w2 hw2 => Ru.load1 el26 rfl (ldf encL_len (hw2.rd 2 rfl) hx9_24 rfl)) rfl ?_
      refine AO.val (v := .slice (A13_1) ((l13_1).length) (c13_1)) 28 (ls' := [true, true, true, true, true, true, true, true, true, true, true, true, true, true, true, false, true, true, true, true, true, false, true, true, true, true, true, false, true, false, false, false, false, false, false, false, false, false, false, false, false, false, false, false, false, false, false]) rfl (by kernel_rfl) rfl rfl (fun w2 hw2 => Ru.move rfl) rfl ?_
      refine AO.val (v := I (at13_1)) 29 (ls' := [true, true, true, true, true, true, true, true, true, true, true, true, true, true, true, false, true, true, true, true, true, false, true, true, true, true, true, false, true, true, false, false, false, false, false, false, false, false, false, false, false, false, false, false, false, false, false]) rfl (by kernel_rfl) rfl rfl (fun w2 hw2 => Ru.move rfl) rfl ?_
      have hx9_30 : at13_1.toNat < (l13_1).length := (by omega)
      refine AO.val (v := .pointer (ofs (A13_1) ((at13_1.toNat) * 3))) 30 (ls' := [true, true, true, true, true, true, true, true, true, true, true, true, true, true, true, false, true, true, true, true, true, false, true, true, true, true, true, false, true, true, true, false, false, false, false, false, false, false, false, false, false, false, false, false, false, false, false]) rfl (by kernel_rfl) rfl rfl (fun w2 hw2 => Ru.indexA (j := at13_1.toNat) Try.underlying23 el28 rfl rfl (smf encL_len (hM9a.rd 4 rfl) hx9_30 rfl) (by omega) (by omega)) rfl ?_
      refine AO.val (v := .pointer (ofs (A13_1) ((at13_1.toNat) * 3 + 0))) 31 (ls' := [true, true, true, true, true, true, true, true, true, true, true, true, true, true, true, false, true, true, true, true, true, false, true, true, true, true, true, false, true, true, true, true, false, false, false, false, false, false, false, false, false, false, false, false, false, false, false]) rfl (by kernel_rfl) rfl rfl (fun w2 hw2 => Ru.fieldA fl28_0 rfl (smf encL_len (hM9a.rd 4 rfl) hx9_30 rfl)) rfl ?_
      refine AO.val (v := .slice (((l13_1)[at13_1.toNat]'hx9_30).A) (((l13_1)[at13_1.toNat]'hx9_30).t.keys.length) (((l13_1)[at13_1.toNat]'hx9_30).cp)) 32 (ls' := [true, true, true, true, true, true, true, true, true, true, true, true, true, true, true, false, true, true, true, true, true, false, true, true, true, true, true, false, true, true, true, true, true, false, false, false, false, false, false, false, false, false, false, false, false, false, false]) rfl (by kernel_rfl) rfl rfl (fun w2 hw2 => Ru.load1 el26 rfl (ldf encL_len (hw2.rd 4 rfl) hx9_30 rfl)) rfl ?_
      refine AO.one 15 (by kernel_rfl) ?_
      refine step1 (ls' := [true, true, true, true, true, true, true, true, true, true, true, true, true, true, true, true, true, true, true, true, true, false, true, true, true, true, true, false, true, true, true, true, true, false, false, false, false, false, false, false, false, false, false, false, false, false, false]) rfl rfl ?_
      refine O.mlit (sz := 1) (cs := []) hM9a rfl Try.underlying26 el3 rfl rfl rfl (by kernel_rfl) (by kernel_rfl) rfl rfl (fun w9_15 b9_15 hb9_15 (hM9_15 : Mem w w9_15 [] [[⟨.slice (bl b9_15) (0) (0), 3, 1, 0, ([]).map I⟩], [⟨.slice (A15_2) ((L15_2).length) (c15_2), 28, 3, ((L15_2).length), (L15_2).flatMap encL⟩], (L15_2).map (keyF 3), [⟨.slice (A14_2) ((L14_2).length) (c14_2), 28, 3, ((L14_2).length), (L14_2).flatMap encL⟩], (L14_2).map (keyF 3), [⟨.slice (A13_1) ((l13_1).length) (c13_1), 28, 3, ((l13_1).length), (l13_1).flatMap encL⟩], G3_1]) => ?_)
      refine O.stop (hM9_15.pick [1, 2, 3, 4, 5, 6] (by decide) rfl) ?_
      refine AO.one 21 (by kernel_rfl) ?_
      refine step1 (ls' := [true, true, true, true, true, true, true, true, true, true, true, true, true, true, true, true, true, true, true, true, true, true, true, true, true, true, true, false, true, true, true, true, true, false, false, false, false, false, false, false, false, false, false, false, false, false, false]) rfl rfl ?_
      refine O.mappend (sz := 1) (news := (((L14_2)[at13_1.toNat]'hx9_18).t.keys).map I) (m1 := (((L14_2)[at13_1.toNat]'hx9_18).t.keys).length) (xs1 := (((L14_2)[at13_1.toNat]'hx9_18).t.keys).map I) (M' := fun A9_21 c9_21 => [[⟨.slice (A9_21) ((((L14_2)[at13_1.toNat]'hx9_18).t.keys).length) (c9_21), 3, 1, ((((L14_2)[at13_1.toNat]'hx9_18).t.keys).length), (((L14_2)[at13_1.toNat]'hx9_18).t.keys).map I⟩], [⟨.slice (A15_2) ((L15_2).length) (c15_2), 28, 3, ((L15_2).length), (L15_2).flatMap encL⟩], (L15_2).map (keyF 3), [⟨.slice (A14_2) ((L14_2).length) (c14_2), 28, 3, ((L14_2).length), (L14_2).flatMap encL⟩], (L14_2).map (keyF 3), [⟨.slice (A13_1) ((l13_1).length) (c13_1), 28, 3, ((l13_1).length), (l13_1).flatMap encL⟩], G3_1]) 0 0 hM9_15 rfl rfl rfl Try.underlying26 el3 ⟨rfl, by decide⟩ rfl rfl rfl ((Nst.mem hM9_15 4 rfl).get hx9_18) (by first | (simp; done) | (simp; omega)) (all_map_one (fun _ => rfl) _) (by first | omega | (simp; omega)) (by first | omega | (simp; omega)) (by first | (simp; done) | (simp; omega)) (by simp) (fun _ _ => rfl) (fun w9_21 A9_21 c9_21 hc9_21 hM9_21 => ?_)
      try dsimp only at hM9_21
      refine O.stop (hM9_21.pick [1, 2, 3, 4, 5, 6] (by decide) rfl) ?_
      refine AO.one 27 (by kernel_rfl) ?_
      refine step1 (ls' := [true, true, true, true, true, true, true, true, true, true, true, true, true, true, true, true, true, true, true, true, true, true, true, true, true, true, true, true, true, true, true, true, true, false, false, false, false, false, false, false, false, false, false, false, false, false, false]) rfl rfl ?_
      refine O.mappend (sz := 1) (news := (((L14_2)[l13_1.length]'hx9_24).t.keys).map I) (m1 := (((L14_2)[at13_1.toNat]'hx9_18).t.keys ++ ((L14_2)[l13_1.length]'hx9_24).t.keys).length) (xs1 := (((L14_2)[at13_1.toNat]'hx9_18).t.keys ++ ((L14_2)[l13_1.length]'hx9_24).t.keys).map I) (M' := fun A9_27 c9_27 => [[⟨.slice (A9_27) ((((L14_2)[at13_1.toNat]'hx9_18).t.keys ++ ((L14_2)[l13_1.length]'hx9_24).t.keys).length) (c9_27), 3, 1, ((((L14_2)[at13_1.toNat]'hx9_18).t.keys ++ ((L14_2)[l13_1.length]'hx9_24).t.keys).length), (((L14_2)[at13_1.toNat]'hx9_18).t.keys ++ ((L14_2)[l13_1.length]'hx9_24).t.keys).map I⟩], [⟨.slice (A15_2) ((L15_2).length) (c15_2), 28, 3, ((L15_2).length), (L15_2).flatMap encL⟩], (L15_2).map (keyF 3), [⟨.slice (A14_2) ((L14_2).length) (c14_2), 28, 3, ((L14_2).length), (L14_2).flatMap encL⟩], (L14_2).map (keyF 3), [⟨.slice (A13_1) ((l13_1).length) (c13_1), 28, 3, ((l13_1).length), (l13_1).flatMap encL⟩], G3_1]) 0 0 hM9_21 rfl rfl rfl Try.underlying26 el3 ⟨rfl, by decide⟩ rfl rfl rfl ((Nst.mem hM9_21 4 rfl).get hx9_24) (by first | (simp; done) | (simp; omega)) (all_map_one (fun _ => rfl) _) (by first | omega | (simp; omega)) (by first | omega | (simp; omega)) (by first | (simp; done) | (simp; omega)) (by simp) (fun _ _ => rfl) (fun w9_27 A9_27 c9_27 hc9_27 hM9_27 => ?_)
      try dsimp only at hM9_27
      refine O.stop (hM9_27.pick [1, 2, 3, 4, 5, 6] (by decide) rfl) ?_
      refine AO.one 33 (by kernel_rfl) ?_
      refine step1 (ls' := [true, true, true, true, true, true, true, true, true, true, true, true, true, true, true, true, true, true, true, true, true, true, true, true, true, true, true, true, true, true, true, true, true, true, false, false, false, false, false, false, false, false, false, false, false, false, false]) rfl rfl ?_
      refine O.callg [.slice (A9_27) ((((L14_2)[at13_1.toNat]'hx9_18).t.keys ++ ((L14_2)[l13_1.length]'hx9_24).t.keys).length) (c9_27), .slice (((l13_1)[at13_1.toNat]'hx9_30).A) ((((l13_1)[at13_1.toNat]'hx9_30).t.keys).length) (((l13_1)[at13_1.toNat]'hx9_30).cp)] rfl en25 (by first | rfl | (rw [show (((l13_1)[at13_1.toNat]'hx9_30).t.keys).length = ((l13_1)[at13_1.toNat]'hx9_30).t.keys.length from (by first | rfl | (simp; done) | omega | (simp; omega))]; rfl)) rfl (equalInts_fn A9_27 c9_27 (((L14_2)[at13_1.toNat]'hx9_18).t.keys ++ ((L14_2)[l13_1.length]'hx9_24).t.keys) (((l13_1)[at13_1.toNat]'hx9_30).A) (((l13_1)[at13_1.toNat]'hx9_30).cp) (((l13_1)[at13_1.toNat]'hx9_30).t.keys) w9_27 (hM9_27.rd 0 rfl) ((hG3_1 _ (Mem.gown hM9_27 6 rfl)).get hx9_30) (by simp; omega)) ?_
      rintro _ w9_33 ⟨hv9_33, hR9_33⟩
      obtain rfl : _ = .bool (true) := hv9_33.trans (congrArg Value.bool (decide_eq_true (by rw [split_out_a hL5 hok (by omega), split_out_n hL5 hok (by simp) (by omega), ← gL_ts (by omega)]; simpa using split_ks)))
      have hM9_33 : Mem w w9_33 [] [[⟨.slice (A9_27) ((((L14_2)[at13_1.toNat]'hx9_18).t.keys ++ ((L14_2)[l13_1.length]'hx9_24).t.keys).length) (c9_27), 3, 1, ((((L14_2)[at13_1.toNat]'hx9_18).t.keys ++ ((L14_2)[l13_1.length]'hx9_24).t.keys).length), (((L14_2)[at13_1.toNat]'hx9_18).t.keys ++ ((L14_2)[l13_1.length]'hx9_24).t.keys).map I⟩], [⟨.slice (A15_2) ((L15_2).length) (c15_2), 28, 3, ((L15_2).length), (L15_2).flatMap encL⟩], (L15_2).map (keyF 3), [⟨.slice (A14_2) ((L14_2).length) (c14_2), 28, 3, ((L14_2).length), (L14_2).flatMap encL⟩], (L14_2).map (keyF 3), [⟨.slice (A13_1) ((l13_1).length) (c13_1), 28, 3, ((l13_1).length), (l13_1).flatMap encL⟩], G3_1] := Mem.call (Ma := []) hM9_27 hR9_33 rfl
      refine O.stop (hM9_33.pick [1, 2, 3, 4, 5, 6] (by decide) rfl) ?_
      refine AO.val (v := .bool (true)) 34 (ls' := [true, true, true, true, true, true, true, true, true, true, true, true, true, true, true, true, true, true, true, true, true, true, true, true, true, true, true, true, true, true, true, true, true, true, true, false, false, false, false, false, false, false, false, false, false, false, false]) rfl (by kernel_rfl) rfl rfl (fun w2 hw2 => Ru.pickT rfl rfl) rfl ?_
      refine AO.val (v := .bool (true)) 35 (ls' := [true, true, true, true, true, true, true, true, true, true, true, true, true, true, true, true, true, true, true, true, true, true, true, true, true, true, true, true, true, true, true, true, true, true, true, true, false, false, false, false, false, false, false, false, false, false, false]) rfl (by kernel_rfl) rfl rfl (fun w2 hw2 => Ru.move rfl) rfl ?_
      refine AO.val (v := .slice (A14_2) ((L14_2).length) (c14_2)) 36 (ls' := [true, true, true, true, true, true, true, true, true, true, true, true, true, true, true, true, true, true, true, true, true, true, true, true, true, true, true, true, true, true, true, true, true, true, true, true, true, false, false, false, false, false, false, false, false, false, false]) rfl (by kernel_rfl) rfl rfl (fun w2 hw2 => Ru.move rfl) rfl ?_
      refine AO.val (v := .slice (A13_1) ((l13_1).length) (c13_1)) 38 (ls' := [true, true, true, true, true, true, true, true, true, true, true, true, true, true, true, true, true, true, true, true, true, true, true, true, true, true, true, true, true, true, true, true, true, true, true, true, true, false, true, false, false, false, false, false, false, false, false]) rfl (by kernel_rfl) rfl rfl (fun w2 hw2 => Ru.move rfl) rfl ?_
      refine AO.one 37 (by kernel_rfl) ?_
      refine step1 (ls' := [true, true, true, true, true, true, true, true, true, true, true, true, true, true, true, true, true, true, true, true, true, true, true, true, true, true, true, true, true, true, true, true, true, true, true, true, true, true, true, false, false, false, false, false, false, false, false]) rfl rfl ?_
      refine O.callg [.slice (A14_2) ((L14_2).length) (c14_2)] rfl en24 rfl rfl (ChainKeys_fn A14_2 c14_2 L14_2 w9_33 (hM9_33.rd 3 rfl) (Nst.mem hM9_33 4 rfl) (by omega)) ?_
      rintro _ w9_37 ⟨A19_37, c19_37, rfl, hR9_37⟩
      have hM9_37 : Mem w w9_37 [] [[⟨.slice (A19_37) ((keysC (tsL L14_2)).length) (c19_37), 3, 1, ((keysC (tsL L14_2)).length), (keysC (tsL L14_2)).map I⟩], [⟨.slice (A9_27) ((((L14_2)[at13_1.toNat]'hx9_18).t.keys ++ ((L14_2)[l13_1.length]'hx9_24).t.keys).length) (c9_27), 3, 1, ((((L14_2)[at13_1.toNat]'hx9_18).t.keys ++ ((L14_2)[l13_1.length]'hx9_24).t.keys).length), (((L14_2)[at13_1.toNat]'hx9_18).t.keys ++ ((L14_2)[l13_1.length]'hx9_24).t.keys).map I⟩], [⟨.slice (A15_2) ((L15_2).length) (c15_2), 28, 3, ((L15_2).length), (L15_2).flatMap encL⟩], (L15_2).map (keyF 3), [⟨.slice (A14_2) ((L14_2).length) (c14_2), 28, 3, ((L14_2).length), (L14_2).flatMap encL⟩], (L14_2).map (keyF 3), [⟨.slice (A13_1) ((l13_1).length) (c13_1), 28, 3, ((l13_1).length), (l13_1).flatMap encL⟩], G3_1] := Mem.call (Ma := []) hM9_33 hR9_37 rfl
      have hcr9_37_0 := (hM9_37.cap 0 rfl).1
      refine O.stop (hM9_37.pick [2, 3, 4, 5, 6, 7] (by decide) rfl) ?_
      refine AO.one 39 (by kernel_rfl) ?_
      refine step1 (ls' := [true, true, true, true, true, true, true, true, true, true, true, true, true, true, true, true, true, true, true, true, true, true, true, true, true, true, true, true, true, true, true, true, true, true, true, true, true, true, true, true, false, false, false, false, false, false, false]) rfl rfl ?_
      refine O.callg [.slice (A13_1) ((l13_1).length) (c13_1)] rfl en24 rfl rfl (ChainKeys_fn A13_1 c13_1 l13_1 w9_37 (hM9_37.rd 6 rfl) (hG3_1 _ (Mem.gown hM9_37 7 rfl)) (by omega)) ?_
      rintro _ w9_39 ⟨A19_39, c19_39, rfl, hR9_39⟩
      have hM9_39 : Mem w w9_39 [] [[⟨.slice (A19_39) ((keysC (tsL l13_1)).length) (c19_39), 3, 1, ((keysC (tsL l13_1)).length), (keysC (tsL l13_1)).map I⟩], [⟨.slice (A19_37) ((keysC (tsL L14_2)).length) (c19_37), 3, 1, ((keysC (tsL L14_2)).length), (keysC (tsL L14_2)).map I⟩], [⟨.slice (A9_27) ((((L14_2)[at13_1.toNat]'hx9_18).t.keys ++ ((L14_2)[l13_1.length]'hx9_24).t.keys).length) (c9_27), 3, 1, ((((L14_2)[at13_1.toNat]'hx9_18).t.keys ++ ((L14_2)[l13_1.length]'hx9_24).t.keys).length), (((L14_2)[at13_1.toNat]'hx9_18).t.keys ++ ((L14_2)[l13_1.length]'hx9_24).t.keys).map I⟩], [⟨.slice (A15_2) ((L15_2).length) (c15_2), 28, 3, ((L15_2).length), (L15_2).flatMap encL⟩], (L15_2).map (keyF 3), [⟨.slice (A14_2) ((L14_2).length) (c14_2), 28, 3, ((L14_2).length), (L14_2).flatMap encL⟩], (L14_2).map (keyF 3), [⟨.slice (A13_1) ((l13_1).length) (c13_1), 28, 3, ((l13_1).length), (l13_1).flatMap encL⟩], G3_1] := Mem.call (Ma := []) hM9_37 hR9_39 rfl
      have hcr9_39_0 := (hM9_39.cap 0 rfl).1
      refine O.stop (hM9_39.pick [3, 4, 5, 6, 7, 8] (by decide) rfl) ?_
      refine AO.one 40 (by kernel_rfl) ?_
      refine step1 (ls' := [true, true, true, true, true, true, true, true, true, true, true, true, true, true, true, true, true, true, true, true, true, true, true, true, true, true, true, true, true, true, true, true, true, true, true, true, true, true, true, true, true, false, false, false, false, false, false]) rfl rfl ?_
      refine O.callg [.slice (A19_37) ((keysC (tsL L14_2)).length) (c19_37), .slice (A19_39) ((keysC (tsL l13_1)).length) (c19_39)] rfl en25 rfl rfl (equalInts_fn A19_37 c19_37 (keysC (tsL L14_2)) A19_39 c19_39 (keysC (tsL l13_1)) w9_39 (hM9_39.rd 1 rfl) (hM9_39.rd 0 rfl) (by exact Nat.le_trans (validK_len keys_valid) (by omega))) ?_
      rintro _ w9_40 ⟨hv9_40, hR9_40⟩
      obtain rfl : _ = .bool (true) := hv9_40.trans (congrArg Value.bool (decide_eq_true (by rw [hL5]; exact split_keys hok)))
      have hM9_40 : Mem w w9_40 [] [[⟨.slice (A19_39) ((keysC (tsL l13_1)).length) (c19_39), 3, 1, ((keysC (tsL l13_1)).length), (keysC (tsL l13_1)).map I⟩], [⟨.slice (A19_37) ((keysC (tsL L14_2)).length) (c19_37), 3, 1, ((keysC (tsL L14_2)).length), (keysC (tsL L14_2)).map I⟩], [⟨.slice (A9_27) ((((L14_2)[at13_1.toNat]'hx9_18).t.keys ++ ((L14_2)[l13_1.length]'hx9_24).t.keys).length) (c9_27), 3, 1, ((((L14_2)[at13_1.toNat]'hx9_18).t.keys ++ ((L14_2)[l13_1.length]'hx9_24).t.keys).length), (((L14_2)[at13_1.toNat]'hx9_18).t.keys ++ ((L14_2)[l13_1.length]'hx9_24).t.keys).map I⟩], [⟨.slice (A15_2) ((L15_2).length) (c15_2), 28, 3, ((L15_2).length), (L15_2).flatMap encL⟩], (L15_2).map (keyF 3), [⟨.slice (A14_2) ((L14_2).length) (c14_2), 28, 3, ((L14_2).length), (L14_2).flatMap encL⟩], (L14_2).map (keyF 3), [⟨.slice (A13_1) ((l13_1).length) (c13_1), 28, 3, ((l13_1).length), (l13_1).flatMap encL⟩], G3_1] := Mem.call (Ma := []) hM9_39 hR9_40 rfl
      refine O.stop (hM9_40.pick [3, 4, 5, 6, 7, 8] (by decide) rfl) ?_
      refine AO.val (v := .bool (true)) 41 (ls' := [true, true, true, true, true, true, true, true, true, true, true, true, true, true, true, true, true, true, true, true, true, true, true, true, true, true, true, true, true, true, true, true, true, true, true, true, true, true, true, true, true, true, false, false, false, false, false]) rfl (by kernel_rfl) rfl rfl (fun w2 hw2 => Ru.pickT rfl rfl) rfl ?_
      refine AO.val (v := .bool (true)) 42 (ls' := [true, true, true, true, true, true, true, true, true, true, true, true, true, true, true, true, true, true, true, true, true, true, true, true, true, true, true, true, true, true, true, true, true, true, true, true, true, true, true, true, true, true, true, false, false, false, false]) rfl (by kernel_rfl) rfl rfl (fun w2 hw2 => Ru.move rfl) rfl ?_
      refine AO.val (v := .slice (A14_2) ((L14_2).length) (c14_2)) 43 (ls' := [true, true, true, true, true, true, true, true, true, true, true, true, true, true, true, true, true, true, true, true, true, true, true, true, true, true, true, true, true, true, true, true, true, true, true, true, true, true, true, true, true, true, true, true, false, false, false]) rfl (by kernel_rfl) rfl rfl (fun w2 hw2 => Ru.move rfl) rfl ?_
      refine AO.one 44 (by kernel_rfl) ?_
      refine step1 (ls' := [true, true, true, true, true, true, true, true, true, true, true, true, true, true, true, true, true, true, true, true, true, true, true, true, true, true, true, true, true, true, true, true, true, true, true, true, true, true, true, true, true, true, true, true, true, false, false]) rfl rfl ?_
      refine O.callg [.slice (A14_2) ((L14_2).length) (c14_2)] rfl en18 rfl rfl (ValidChain_fn A14_2 c14_2 L14_2 w9_40 (hM9_40.rd 5 rfl) (Nst.mem hM9_40 6 rfl) (by omega)) ?_
      rintro _ w9_44 ⟨hv9_44, hR9_44⟩
      obtain rfl : _ = .bool (true) := hv9_44.trans (congrArg Value.bool (by rw [hL5]; exact hvo))
      have hM9_44 : Mem w w9_44 [] [[⟨.slice (A19_39) ((keysC (tsL l13_1)).length) (c19_39), 3, 1, ((keysC (tsL l13_1)).length), (keysC (tsL l13_1)).map I⟩], [⟨.slice (A19_37) ((keysC (tsL L14_2)).length) (c19_37), 3, 1, ((keysC (tsL L14_2)).length), (keysC (tsL L14_2)).map I⟩], [⟨.slice (A9_27) ((((L14_2)[at13_1.toNat]'hx9_18).t.keys ++ ((L14_2)[l13_1.length]'hx9_24).t.keys).length) (c9_27), 3, 1, ((((L14_2)[at13_1.toNat]'hx9_18).t.keys ++ ((L14_2)[l13_1.length]'hx9_24).t.keys).length), (((L14_2)[at13_1.toNat]'hx9_18).t.keys ++ ((L14_2)[l13_1.length]'hx9_24).t.keys).map I⟩], [⟨.slice (A15_2) ((L15_2).length) (c15_2), 28, 3, ((L15_2).length), (L15_2).flatMap encL⟩], (L15_2).map (keyF 3), [⟨.slice (A14_2) ((L14_2).length) (c14_2), 28, 3, ((L14_2).length), (L14_2).flatMap encL⟩], (L14_2).map (keyF 3), [⟨.slice (A13_1) ((l13_1).length) (c13_1), 28, 3, ((l13_1).length), (l13_1).flatMap encL⟩], G3_1] := Mem.call (Ma := []) hM9_40 hR9_44 rfl
      refine O.stop (hM9_44.pick [3, 4, 5, 6, 7, 8] (by decide) rfl) ?_
      refine AO.val (v := .bool (true)) 45 (ls' := [true, true, true, true, true, true, true, true, true, true, true, true, true, true, true, true, true, true, true, true, true, true, true, true, true, true, true, true, true, true, true, true, true, true, true, true, true, true, true, true, true, true, true, true, true, true, false]) rfl (by kernel_rfl) rfl rfl (fun w2 hw2 => Ru.pickT rfl rfl) rfl ?_
      refine AO.val (v := .bool (true)) 46 (ls' := [true, true, true, true, true, true, true, true, true, true, true, true, true, true, true, true, true, true, true, true, true, true, true, true, true, true, true, true, true, true, true, true, true, true, true, true, true, true, true, true, true, true, true, true, true, true, true]) rfl (by kernel_rfl) rfl rfl (fun w2 hw2 => Ru.assign rfl) rfl ?_
      refine AO.nil (by kernel_rfl) ?_
      refine C.ret ?_
      refine P1 (v := .bool (true)) rfl ?_
      exact ⟨rfl, (Mem.none hM9_44)⟩
end Go.Proofs.Yteljpjapacajoaa
namespace Go.Proofs.Yteljpjapacajoaa.fnSplitLink
open Go.ChangeShapes Go.WideShapes Go.ChangeAt Go.RowKit Go.Px
open Go.ChangeMaps (open_string shut_string)
set_option linter.unusedVariables false

theorem own : ownKnob Try.prog.godebug = none := by kernel_rfl
theorem laidOut : laidOutB Try.prog = true := by kernel_rfl

set_option maxRecDepth 100000 in
theorem lifted (os : Os) (started : os.Started) (H : Type) (enc : TypeId × Value → H) :
    ReturnsInHanded {} Try.checked os 12 .any (Rows.fnSplitLinkSpec.pre6 enc Try.prog Try.f12 Rows.fnSplitLinkRow.domain false) (Rows.fnSplitLinkSpec.post enc Try.prog Try.f12 false true false false) := by
  refine returnsInHanded_of_change (C := Try.checked) own started (by kernel_rfl) Try.func12
    (ChangeSpec.witness6 (enc := enc) (C := Try.checked) false ⟨#[], #[.slice none 0 0], []⟩ 8 (by kernel_rfl) (by kernel_rfl) (by kernel_rfl) (by kernel_rfl)) ?_
  intro W base args ds gs before hval0 hW hcnd _
  have hval : ∀ (j : Nat) t v, Try.f12.params[j]? = some t → args[j]? = some v → Value.okWide Try.prog W .any base t v := hval0
  have hW' := hW
  obtain ⟨p, q, hA0, hV, rfl, hfz, hnd⟩ := hW
  have hA : DataW.TrodAll enc Try.prog W 0 (fun _ => true) true Try.f12.params.toList args.toList ds p := hA0
  rw [Try.params12] at hA hval
  obtain ⟨v0, vs0, d0, ds0, p0, q0, hargs, rfl, rfl, h0, r0⟩ := trodAll_cons hA
  obtain ⟨rfl, rfl, rfl⟩ := trodAll_nil r0
  obtain rfl : args = #[v0] := by cases args; simp_all
  obtain ⟨rfl, rfl⟩ := trodVars_none hV
  have k0 := h0
  have lt0 : ∀ x ∈ p0, x.block < W.heap.size := by obtain ⟨m, hm⟩ := k0; exact DataW.trod_lt m _ _ _ hm
  obtain ⟨a0, len0, cap0, rfl⟩ := okWide_slice Try.underlying22 (hval 0 22 v0 rfl rfl)
  have kk0 := k0
  obtain ⟨fuel0, hf0⟩ := kk0
  obtain ⟨z0, rfl, hz0, hc0, hw0, hRd0⟩ := slice_in (α := UInt8) (f := fun a : UInt8 => [byteV a]) (c := 1) Try.underlying22 (by kernel_rfl) (fun _ => rfl) (byte_el Try.underlying5) hf0
  rw [flat_one] at hRd0
  clear hA0 hval0
  refine (FnSplitLink_fn a0 cap0 z0 W hRd0 hz0 hc0).out.mono fun e W' ⟨v, he, hv, hg⟩ => ?_
  subst he hv
  have bel : Below W.heap.size W W' := ⟨hg.os, hg.tape, hg.output, hg.size, fun k hk => hg.block k hk (by simp)⟩
  exact ⟨_, rfl, _, _, _, [], _, [], hW', trodAll_mk1 (shut_bool Try.underlying4 _), (trodAll_cons_mk (Below.trod laidOut (by kernel_rfl) (of_decide_eq_true (by kernel_rfl)) k0 bel lt0) trodAll_mk0), rfl, bel.frame _, fun h => by cases h⟩

theorem named_ : Try.prog.funcNamed Rows.fnSplitLinkRow.func = some 12 := by kernel_rfl
theorem closed : joinedFacts Try.prog 12 Try.f12 Rows.fnSplitLinkSpec Rows.fnSplitLinkRow = true := by
  unfold joinedFacts
  rw [enter_, lifts_, made_]
  kernel_rfl
theorem inst_ : Try.f12.isInstance Try.prog Rows.fnSplitLinkRow.origin Rows.fnSplitLinkRow.targs := of_decide_eq_true (by kernel_rfl)
theorem wrap_ : Try.f12.isWrapper Try.prog Rows.fnSplitLinkRow.wrapper Rows.fnSplitLinkRow.mainSum := by
  unfold Func.isWrapper
  rw [if_neg (by decide +kernel)]
  exact ⟨rfl, rfl⟩
theorem over : Rows.fnSplitLinkRow.holds Try.pinned (OpenSpec.ofChange Rows.fnSplitLinkSpec) :=
  OpenClaim.holds_of_wide 12 Try.f12 rfl rfl rfl rfl rfl rfl rfl ⟨rfl, rfl, rfl, rfl, rfl⟩ rfl rfl rfl rfl rfl named_ Try.func12 closed inst_ wrap_
    (fun os started H enc _ => lifted os started H enc)
theorem proved : Rows.FnSplitLinkSaid := over
end Go.Proofs.Yteljpjapacajoaa.fnSplitLink
