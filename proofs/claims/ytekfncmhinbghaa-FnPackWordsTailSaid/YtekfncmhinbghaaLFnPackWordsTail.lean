/- The statement Rows.FnPackWordsTailSaid: the Go function laws.FnPackWordsTail returns true for every input, and each argument reads afterwards as it read before. No conditions. -/
import Derived.Test.YtekfncmhinbghaaRows
import Derived.Test.YtekfncmhinbghaaPxO
import Derived.Test.YtekfncmhinbghaaWI
import Derived.Test.YtekfncmhinbghaaH0
import Derived.WalkKit
import Derived.ProofKit
import Derived.OpenShut
import Derived.ShutString
import Derived.ChangeOld
import Derived.SliceStrings
import Derived.Deep.Slices
import Derived.Deep.Fields
import Derived.ChangeSame
import Derived.Below
set_option linter.unusedVariables false
set_option linter.unusedSimpArgs false
namespace Go.Proofs.Ytekfncmhinbghaa.V
open Go.Px
set_option linter.unusedVariables false
theorem FnPackWordsTail_fn (A : Option Addr) (c : Nat) (l : List UInt8) (w : World) (hA : Rd w A ((l).map byteV)) (hl : l.length ≤ 9223372036854775807) (hc : l.length ≤ c) :
    Does Try.prog 11 [.slice (A) ((l).length) (c)] w (fun v w1 => v = .bool (true) ∧ Mem w w1 [] []) := by
  have hM : Mem w w [] [] := Mem.refl
  refine Does.enter1 Try.func11 rfl Try.results11 Try.ntmps11 rfl ?_
  refine C.seq ?_
  refine C.region ?_
  refine O.val (v := .bool (false)) rfl (Ru.assign rfl) rfl ?_
  refine O.nil ?_
  refine C.seq ?_
  refine C.seq ?_
  refine C.region ?_
  refine O.val (v := .slice (A) ((l).length) (c)) rfl (Ru.move rfl) rfl ?_
  refine O.val (v := I ((((l).length : Nat) : Int))) rfl (Ru.blenSlice Try.underlying29 rfl) rfl ?_
  refine O.val (v := .bool (decide ((((l).length : Nat) : Int) > 1048576))) rfl (Ru.gtr rfl rfl) rfl ?_
  refine O.nil ?_
  refine C.cond (p := (((l).length : Nat) : Int) > 1048576) rfl (fun c8 => ?_) (fun c8 => ?_)
  · refine C.seq ?_
    refine C.region ?_
    refine O.val (v := .bool (true)) rfl (Ru.assign rfl) rfl ?_
    refine O.nil ?_
    refine C.ret ?_
    refine P1 (v := .bool (true)) rfl ?_
    exact ⟨rfl, (Mem.none hM)⟩
  · refine C.skip ?_
    refine C.seq ?_
    refine C.region ?_
    refine O.val (v := .slice (A) ((l).length) (c)) rfl (Ru.move rfl) rfl ?_
    refine O.callg [.slice (A) ((l).length) (c)] rfl en31 rfl rfl (vDrawPackWords_fn A c l w (hA.at hM) (by first | omega | assumption | (simp; omega) | simp | (intros; omega)) (by first | omega | assumption | (simp; omega) | simp | (intros; omega))) ?_
    rintro _ w3_1 ⟨l13_1, A13_1, c13_1, rfl, hl3_1, hs3_1, hR3_1⟩
    have hM3_1 : Mem w w3_1 [] [[⟨.slice (A13_1) ((l13_1).length) (c13_1), 9, 1, ((l13_1).length), (l13_1).map S⟩]] := Mem.call (Ma := []) hM hR3_1 rfl
    refine O.val (v := .slice (A13_1) ((l13_1).length) (c13_1)) rfl (Ru.assign rfl) rfl ?_
    refine O.nil ?_
    refine C.seq ?_
    refine C.region ?_
    refine O.val (v := .slice (A13_1) ((l13_1).length) (c13_1)) rfl (Ru.move rfl) rfl ?_
    refine O.callg [.slice (A13_1) ((l13_1).length) (c13_1)] rfl en32 rfl rfl (vPackWords_fn A13_1 c13_1 l13_1 w3_1 (hM3_1.rd 0 rfl) (by omega) (by intro s hs; have := hs3_1 s hs; omega)) ?_
    rintro _ w4_1 ⟨A14_1, c14_1, rfl, hR4_1⟩
    have hM4_1 : Mem w w4_1 [] [[⟨.slice (A14_1) ((packF l13_1).length) (c14_1), 39, 2, ((packF l13_1).length), (packF l13_1).flatMap encR⟩], [⟨.slice (A13_1) ((l13_1).length) (c13_1), 9, 1, ((l13_1).length), (l13_1).map S⟩]] := Mem.call (Ma := []) hM3_1 hR4_1 rfl
    have hpl := packF_len l13_1
    refine O.val (v := .slice (A14_1) ((packF l13_1).length) (c14_1)) rfl (Ru.assign rfl) rfl ?_
    refine O.nil ?_
    refine C.seq ?_
    refine C.seq ?_
    refine C.region ?_
    refine O.val (v := .slice (A14_1) ((packF l13_1).length) (c14_1)) rfl (Ru.move rfl) rfl ?_
    refine O.val (v := .slice (A13_1) ((l13_1).length) (c13_1)) rfl (Ru.move rfl) rfl ?_
    refine O.callg [.slice (A13_1) ((l13_1).length) (c13_1)] rfl en34 rfl rfl (vSPackWords_fn A13_1 c13_1 l13_1 w4_1 (hM4_1.rd 1 rfl) (by omega) (by intro s hs; have := hs3_1 s hs; omega)) ?_
    rintro _ w5_2 ⟨A15_2, c15_2, rfl, hR5_2⟩
    have hM5_2 : Mem w w5_2 [] [[⟨.slice (A15_2) ((packF l13_1).length) (c15_2), 39, 2, ((packF l13_1).length), (packF l13_1).flatMap encR⟩], [⟨.slice (A14_1) ((packF l13_1).length) (c14_1), 39, 2, ((packF l13_1).length), (packF l13_1).flatMap encR⟩], [⟨.slice (A13_1) ((l13_1).length) (c13_1), 9, 1, ((l13_1).length), (l13_1).map S⟩]] := Mem.call (Ma := []) hM4_1 hR5_2 rfl
    refine O.callg [.slice (A14_1) ((packF l13_1).length) (c14_1), .slice (A15_2) ((packF l13_1).length) (c15_2)] rfl en33 rfl rfl (vequalRests_fn A14_1 c14_1 (packF l13_1) A15_2 c15_2 (packF l13_1) w5_2 (hM5_2.rd 1 rfl) (hM5_2.rd 0 rfl) (by first | omega | assumption | (simp; omega) | simp | (intros; omega))) ?_
    rintro _ w5_3 ⟨hv5_3, hR5_3⟩
    obtain rfl : _ = Value.bool true := hv5_3.trans (by simp)
    have hM5_3 : Mem w w5_3 [] [[⟨.slice (A15_2) ((packF l13_1).length) (c15_2), 39, 2, ((packF l13_1).length), (packF l13_1).flatMap encR⟩], [⟨.slice (A14_1) ((packF l13_1).length) (c14_1), 39, 2, ((packF l13_1).length), (packF l13_1).flatMap encR⟩], [⟨.slice (A13_1) ((l13_1).length) (c13_1), 9, 1, ((l13_1).length), (l13_1).map S⟩]] := Mem.call (Ma := []) hM5_2 hR5_3 rfl
    refine O.val (v := .bool (false)) rfl (Ru.not (b := true) rfl) rfl ?_
    refine O.val (v := .bool (false)) rfl (Ru.move rfl) rfl ?_
    refine O.val (v := .slice (A14_1) ((packF l13_1).length) (c14_1)) rfl (Ru.move rfl) rfl ?_
    refine O.val (v := I ((((packF l13_1).length : Nat) : Int))) rfl (Ru.blenSlice Try.underlying35 rfl) rfl ?_
    refine O.val (v := .slice (A13_1) ((l13_1).length) (c13_1)) rfl (Ru.move rfl) rfl ?_
    refine O.val (v := I ((((l13_1).length : Nat) : Int))) rfl (Ru.blenSlice Try.underlying24 rfl) rfl ?_
    refine O.val (v := .bool (decide ((((packF l13_1).length : Nat) : Int) ≠ (((l13_1).length : Nat) : Int)))) rfl (Ru.neq rfl rfl) rfl ?_
    refine O.val (v := .bool (decide ((((packF l13_1).length : Nat) : Int) ≠ (((l13_1).length : Nat) : Int)))) rfl (Ru.pickF rfl rfl) rfl ?_
    refine O.nil ?_
    refine C.cond (p := (((packF l13_1).length : Nat) : Int) ≠ (((l13_1).length : Nat) : Int)) rfl (fun c24 => ?_) (fun c24 => ?_)
    · refine C.seq ?_
      refine C.region ?_
      refine O.val (v := .slice (A14_1) ((packF l13_1).length) (c14_1)) rfl (Ru.move rfl) rfl ?_
      refine O.val (v := .slice (A13_1) ((l13_1).length) (c13_1)) rfl (Ru.move rfl) rfl ?_
      refine O.callg [.slice (A13_1) ((l13_1).length) (c13_1)] rfl en34 rfl rfl (vSPackWords_fn A13_1 c13_1 l13_1 w5_3 (hM5_3.rd 2 rfl) (by omega) (by intro s hs; have := hs3_1 s hs; omega)) ?_
      rintro _ w6_2 ⟨A16_2, c16_2, rfl, hR6_2⟩
      have hM6_2 : Mem w w6_2 [] [[⟨.slice (A16_2) ((packF l13_1).length) (c16_2), 39, 2, ((packF l13_1).length), (packF l13_1).flatMap encR⟩], [⟨.slice (A15_2) ((packF l13_1).length) (c15_2), 39, 2, ((packF l13_1).length), (packF l13_1).flatMap encR⟩], [⟨.slice (A14_1) ((packF l13_1).length) (c14_1), 39, 2, ((packF l13_1).length), (packF l13_1).flatMap encR⟩], [⟨.slice (A13_1) ((l13_1).length) (c13_1), 9, 1, ((l13_1).length), (l13_1).map S⟩]] := Mem.call (Ma := []) hM5_3 hR6_2 rfl
      refine O.callg [.slice (A14_1) ((packF l13_1).length) (c14_1), .slice (A16_2) ((packF l13_1).length) (c16_2)] rfl en33 rfl rfl (vequalRests_fn A14_1 c14_1 (packF l13_1) A16_2 c16_2 (packF l13_1) w6_2 (hM6_2.rd 2 rfl) (hM6_2.rd 0 rfl) (by first | omega | assumption | (simp; omega) | simp | (intros; omega))) ?_
      rintro _ w6_3 ⟨hv6_3, hR6_3⟩
      obtain rfl : _ = Value.bool true := hv6_3.trans (by simp)
      have hM6_3 : Mem w w6_3 [] [[⟨.slice (A16_2) ((packF l13_1).length) (c16_2), 39, 2, ((packF l13_1).length), (packF l13_1).flatMap encR⟩], [⟨.slice (A15_2) ((packF l13_1).length) (c15_2), 39, 2, ((packF l13_1).length), (packF l13_1).flatMap encR⟩], [⟨.slice (A14_1) ((packF l13_1).length) (c14_1), 39, 2, ((packF l13_1).length), (packF l13_1).flatMap encR⟩], [⟨.slice (A13_1) ((l13_1).length) (c13_1), 9, 1, ((l13_1).length), (l13_1).map S⟩]] := Mem.call (Ma := []) hM6_2 hR6_3 rfl
      refine O.val (v := .bool (true)) rfl (Ru.assign rfl) rfl ?_
      refine O.nil ?_
      refine C.ret ?_
      refine P1 (v := .bool (true)) rfl ?_
      exact ⟨rfl, (Mem.none hM6_3)⟩
    · have hlen : (packF l13_1).length = l13_1.length := by omega
      refine C.skip ?_
      refine C.seq ?_
      refine C.seq ?_
      refine C.region ?_
      refine O.val (v := I (0)) rfl (Ru.assign rfl) rfl ?_
      refine O.nil ?_
      refine C.block ?_
      refine C.loop (ι := Nat) (fun i => ([(3, .slice (A13_1) ((l13_1).length) (c13_1)), (4, .slice (A14_1) ((packF l13_1).length) (c14_1)), (5, I (((i : Nat) : Int)))] : List (Nat × Value))) (fun i w_ => (i ≤ (packF l13_1).length) ∧ (Mem w w_ [] [[⟨.slice (A15_2) ((packF l13_1).length) (c15_2), 39, 2, ((packF l13_1).length), (packF l13_1).flatMap encR⟩], [⟨.slice (A14_1) ((packF l13_1).length) (c14_1), 39, 2, ((packF l13_1).length), (packF l13_1).flatMap encR⟩], [⟨.slice (A13_1) ((l13_1).length) (c13_1), 9, 1, ((l13_1).length), (l13_1).map S⟩]])) (fun i => (packF l13_1).length - i) (0) (Has.cons rfl (Has.cons rfl (Has.cons (I_congr (by first | rfl | omega | (simp; omega) | simp)) Has.nil))) ⟨(Nat.zero_le _), (hM5_3.pick [0, 1, 2] (by decide) rfl)⟩ (fun i σ w_l8 hI => ?_)
      try dsimp only at hI
      obtain ⟨hi0_l8, hM_l8⟩ := hI
      refine C.seq ?_
      refine C.seq ?_
      refine C.region ?_
      refine O.val (v := I (((i : Nat) : Int))) rfl (Ru.move rfl) rfl ?_
      refine O.val (v := .slice (A14_1) ((packF l13_1).length) (c14_1)) rfl (Ru.move rfl) rfl ?_
      refine O.val (v := I ((((packF l13_1).length : Nat) : Int))) rfl (Ru.blenSlice Try.underlying35 rfl) rfl ?_
      refine O.val (v := .bool (decide (((i : Nat) : Int) < (((packF l13_1).length : Nat) : Int)))) rfl (Ru.lss rfl rfl) rfl ?_
      refine O.nil ?_
      refine C.cond (p := ((i : Nat) : Int) < (((packF l13_1).length : Nat) : Int)) rfl (fun c32 => ?_) (fun c32 => ?_)
      · have hv := packF_pos (l := l13_1) (by omega)
        have hge := packF_get hv (by omega : i < l13_1.length) (by omega)
        have hrt := rest_tail (prevW l13_1 i) (l13_1[i])
        have htp := tail_pos hv (by omega : i < l13_1.length)
        have hw8 := valid_word hv (List.getElem_mem (by omega : i < l13_1.length))
        rw [← hge] at hrt htp
        have hsm : (packF l13_1)[i].same = (comm (prevW l13_1 i) (l13_1[i]) : Int) := by rw [hge]; rfl
        have hz : i = 0 → comm (prevW l13_1 i) (l13_1[i]) = 0 := by rintro rfl; rw [prevW_zero, comm_nil]
        refine C.skip ?_
        refine C.seq ?_
        refine C.block ?_
        refine C.seq ?_
        refine C.draws (fun w2 => Mem w w2 [] [[⟨.slice (A15_2) ((packF l13_1).length) (c15_2), 39, 2, ((packF l13_1).length), (packF l13_1).flatMap encR⟩], [⟨.slice (A14_1) ((packF l13_1).length) (c14_1), 39, 2, ((packF l13_1).length), (packF l13_1).flatMap encR⟩], [⟨.slice (A13_1) ((l13_1).length) (c13_1), 9, 1, ((l13_1).length), (l13_1).map S⟩]]) mixed (by kernel_rfl) (hM_l8.ext (kdrawn _)) ?_
        refine QO.val (v := .slice (A14_1) ((packF l13_1).length) (c14_1)) rfl (fun w2 hw2 => Ru.move rfl) rfl ?_
        refine QO.val (v := I (((i : Nat) : Int))) rfl (fun w2 hw2 => Ru.move rfl) rfl ?_
        have hx10_2 : i < (packF l13_1).length := (by first | omega | (simp; omega))
        refine QO.val (v := .pointer (ofs (A14_1) (i * 2))) rfl (fun w2 hw2 => Ru.indexA (j := i) Try.underlying35 el39 rfl rfl (smf encR_len (hw2.rd 1 rfl) hx10_2 rfl) (by omega) (by first | omega | (simp; omega))) rfl ?_
        refine QO.val (v := .pointer (ofs (A14_1) (i * 2 + 0))) rfl (fun w2 hw2 => Ru.fieldA fl39_0 rfl (smf encR_len (hw2.rd 1 rfl) hx10_2 rfl)) rfl ?_
        refine QO.val rfl (fun w2 hw2 => Ru.load1 el3 rfl (ldf encR_len (hw2.rd 1 rfl) hx10_2 rfl)) rfl ?_
        refine QO.val (v := .slice (A14_1) ((packF l13_1).length) (c14_1)) rfl (fun w2 hw2 => Ru.move rfl) rfl ?_
        refine QO.val (v := I (((i : Nat) : Int))) rfl (fun w2 hw2 => Ru.move rfl) rfl ?_
        have hx10_7 : i < (packF l13_1).length := (by first | omega | (simp; omega))
        refine QO.val (v := .pointer (ofs (A14_1) (i * 2))) rfl (fun w2 hw2 => Ru.indexA (j := i) Try.underlying35 el39 rfl rfl (smf encR_len (hw2.rd 1 rfl) hx10_7 rfl) (by omega) (by first | omega | (simp; omega))) rfl ?_
        refine QO.val (v := .pointer (ofs (A14_1) (i * 2 + 1))) rfl (fun w2 hw2 => Ru.fieldA fl39_1 rfl (smf encR_len (hw2.rd 1 rfl) hx10_7 rfl)) rfl ?_
        refine QO.val rfl (fun w2 hw2 => Ru.load1 el9 rfl (ldf encR_len (hw2.rd 1 rfl) hx10_7 rfl)) rfl ?_
        refine QO.val (v := I (((((packF l13_1)[i]'hx10_7).tail).length : Int))) rfl (fun w2 hw2 => Ru.slen Try.underlying9 rfl) rfl ?_
        refine QO.val (v := I ((((packF l13_1)[i]'hx10_2).same + ((((packF l13_1)[i]'hx10_7).tail).length : Int)))) rfl (fun w2 hw2 => Ru.add rfl rfl (by omega)) rfl ?_
        refine QO.val (v := .slice (A13_1) ((l13_1).length) (c13_1)) rfl (fun w2 hw2 => Ru.move rfl) rfl ?_
        refine QO.val (v := I (((i : Nat) : Int))) rfl (fun w2 hw2 => Ru.move rfl) rfl ?_
        have hx10_14 : i < (l13_1).length := (by first | omega | (simp; omega))
        refine QO.val (v := .pointer (ofs (A13_1) (i * 1))) rfl (fun w2 hw2 => Ru.indexA (j := i) Try.underlying24 el9 rfl rfl (smm (hw2.rd 2 rfl) hx10_14) (by omega) (by first | omega | (simp; omega))) rfl ?_
        refine QO.val rfl (fun w2 hw2 => Ru.load1 el9 rfl (ldm (hw2.rd 2 rfl) hx10_14)) rfl ?_
        refine QO.val (v := I ((((l13_1)[i]'hx10_14).length : Int))) rfl (fun w2 hw2 => Ru.slen Try.underlying9 rfl) rfl ?_
        refine QO.val (v := .bool (decide ((((packF l13_1)[i]'hx10_2).same + ((((packF l13_1)[i]'hx10_7).tail).length : Int)) ≠ (((l13_1)[i]'hx10_14).length : Int)))) rfl (fun w2 hw2 => Ru.neq rfl rfl) rfl ?_
        refine QO.val (v := .bool (decide ((((packF l13_1)[i]'hx10_2).same + ((((packF l13_1)[i]'hx10_7).tail).length : Int)) ≠ (((l13_1)[i]'hx10_14).length : Int)))) rfl (fun w2 hw2 => Ru.move rfl) rfl ?_
        refine QO.partp 53 ((((packF l13_1)[i]'hx10_2).same + ((((packF l13_1)[i]'hx10_7).tail).length : Int)) ≠ (((l13_1)[i]'hx10_14).length : Int)) rfl (fun g53 => ?_) (fun g53 => ?_)
        · refine QO.pass rfl rfl rfl rfl rfl ?_
          refine QO.pass rfl rfl rfl rfl rfl ?_
          refine QO.pass rfl rfl rfl rfl rfl ?_
          refine QO.pass rfl rfl rfl rfl rfl ?_
          refine QO.pass rfl rfl rfl rfl rfl ?_
          refine QO.pass rfl rfl rfl rfl rfl ?_
          refine QO.pass rfl rfl rfl rfl rfl ?_
          refine QO.val (v := .bool (true)) rfl (fun w2 hw2 => Ru.pickT rfl rfl) rfl ?_
          refine QO.val (v := .bool (true)) rfl (fun w2 hw2 => Ru.move rfl) rfl ?_
          refine QO.pass rfl rfl rfl rfl rfl ?_
          refine QO.pass rfl rfl rfl rfl rfl ?_
          refine QO.pass rfl rfl rfl rfl rfl ?_
          refine QO.passU rfl rfl rfl rfl ?_
          refine QO.passU rfl rfl rfl rfl ?_
          refine QO.passU rfl rfl rfl rfl ?_
          refine QO.passU rfl rfl rfl rfl ?_
          refine QO.passU rfl rfl rfl rfl ?_
          refine QO.passU rfl rfl rfl rfl ?_
          refine QO.pass rfl rfl rfl rfl rfl ?_
          refine QO.val (v := .bool (true)) rfl (fun w2 hw2 => Ru.pickT rfl rfl) rfl ?_
          refine QO.nil ?_
          intro w10d hM10d
          refine C.condT rfl ?_
          refine C.seq ?_
          refine C.region ?_
          refine O.val (v := .bool (false)) rfl (Ru.assign rfl) rfl ?_
          refine O.nil ?_
          refine C.ret ?_
          refine P1 (v := .bool (false)) rfl ?_
          exact ⟨(by exfalso; first | omega | (have := hz (by omega); omega)), (Mem.none hM10d)⟩
        · refine QO.val (v := .slice (A14_1) ((packF l13_1).length) (c14_1)) rfl (fun w2 hw2 => Ru.move rfl) rfl ?_
          refine QO.val (v := I (((i : Nat) : Int))) rfl (fun w2 hw2 => Ru.move rfl) rfl ?_
          have hx10_21 : i < (packF l13_1).length := (by first | omega | (simp; omega))
          refine QO.val (v := .pointer (ofs (A14_1) (i * 2))) rfl (fun w2 hw2 => Ru.indexA (j := i) Try.underlying35 el39 rfl rfl (smf encR_len (hw2.rd 1 rfl) hx10_21 rfl) (by omega) (by first | omega | (simp; omega))) rfl ?_
          refine QO.val (v := .pointer (ofs (A14_1) (i * 2 + 1))) rfl (fun w2 hw2 => Ru.fieldA fl39_1 rfl (smf encR_len (hw2.rd 1 rfl) hx10_21 rfl)) rfl ?_
          refine QO.val rfl (fun w2 hw2 => Ru.load1 el9 rfl (ldf encR_len (hw2.rd 1 rfl) hx10_21 rfl)) rfl ?_
          refine QO.val (v := I (((((packF l13_1)[i]'hx10_21).tail).length : Int))) rfl (fun w2 hw2 => Ru.slen Try.underlying9 rfl) rfl ?_
          refine QO.val (v := .bool (decide (((((packF l13_1)[i]'hx10_21).tail).length : Int) = 0))) rfl (fun w2 hw2 => Ru.eql rfl rfl) rfl ?_
          refine QO.val (v := .bool (decide (((((packF l13_1)[i]'hx10_21).tail).length : Int) = 0))) rfl (fun w2 hw2 => Ru.pickF rfl rfl) rfl ?_
          refine QO.val (v := .bool (decide (((((packF l13_1)[i]'hx10_21).tail).length : Int) = 0))) rfl (fun w2 hw2 => Ru.move rfl) rfl ?_
          refine QO.partp 62 (((((packF l13_1)[i]'hx10_21).tail).length : Int) = 0) rfl (fun g62 => ?_) (fun g62 => ?_)
          · refine QO.pass rfl rfl rfl rfl rfl ?_
            refine QO.pass rfl rfl rfl rfl rfl ?_
            refine QO.pass rfl rfl rfl rfl rfl ?_
            refine QO.passU rfl rfl rfl rfl ?_
            refine QO.passU rfl rfl rfl rfl ?_
            refine QO.passU rfl rfl rfl rfl ?_
            refine QO.passU rfl rfl rfl rfl ?_
            refine QO.passU rfl rfl rfl rfl ?_
            refine QO.passU rfl rfl rfl rfl ?_
            refine QO.pass rfl rfl rfl rfl rfl ?_
            refine QO.val (v := .bool (true)) rfl (fun w2 hw2 => Ru.pickT rfl rfl) rfl ?_
            refine QO.nil ?_
            intro w10d hM10d
            refine C.condT rfl ?_
            refine C.seq ?_
            refine C.region ?_
            refine O.val (v := .bool (false)) rfl (Ru.assign rfl) rfl ?_
            refine O.nil ?_
            refine C.ret ?_
            refine P1 (v := .bool (false)) rfl ?_
            exact ⟨(by exfalso; first | omega | (have := hz (by omega); omega)), (Mem.none hM10d)⟩
          · refine QO.val (v := I (((i : Nat) : Int))) rfl (fun w2 hw2 => Ru.move rfl) rfl ?_
            refine QO.val (v := .bool (decide (((i : Nat) : Int) = 0))) rfl (fun w2 hw2 => Ru.eql rfl rfl) rfl ?_
            refine QO.val (v := .bool (decide (((i : Nat) : Int) = 0))) rfl (fun w2 hw2 => Ru.move rfl) rfl ?_
            refine QO.partp 65 (((i : Nat) : Int) = 0) rfl (fun g65 => ?_) (fun g65 => ?_)
            · refine QO.val (v := .slice (A14_1) ((packF l13_1).length) (c14_1)) rfl (fun w2 hw2 => Ru.move rfl) rfl ?_
              refine QO.val (v := I (((i : Nat) : Int))) rfl (fun w2 hw2 => Ru.move rfl) rfl ?_
              have hx10_33 : i < (packF l13_1).length := (by first | omega | (simp; omega))
              refine QO.val (v := .pointer (ofs (A14_1) (i * 2))) rfl (fun w2 hw2 => Ru.indexA (j := i) Try.underlying35 el39 rfl rfl (smf encR_len (hw2.rd 1 rfl) hx10_33 rfl) (by omega) (by first | omega | (simp; omega))) rfl ?_
              refine QO.val (v := .pointer (ofs (A14_1) (i * 2 + 0))) rfl (fun w2 hw2 => Ru.fieldA fl39_0 rfl (smf encR_len (hw2.rd 1 rfl) hx10_33 rfl)) rfl ?_
              refine QO.val rfl (fun w2 hw2 => Ru.load1 el3 rfl (ldf encR_len (hw2.rd 1 rfl) hx10_33 rfl)) rfl ?_
              refine QO.val (v := .bool (decide (((packF l13_1)[i]'hx10_33).same ≠ 0))) rfl (fun w2 hw2 => Ru.neq rfl rfl) rfl ?_
              refine QO.val (v := .bool (decide (((packF l13_1)[i]'hx10_33).same ≠ 0))) rfl (fun w2 hw2 => Ru.pickT rfl rfl) rfl ?_
              refine QO.val (v := .bool (decide (((packF l13_1)[i]'hx10_33).same ≠ 0))) rfl (fun w2 hw2 => Ru.pickF rfl rfl) rfl ?_
              refine QO.nil ?_
              intro w10d hM10d
              refine C.cond (p := ((packF l13_1)[i]'hx10_33).same ≠ 0) rfl (fun c73 => ?_) (fun c73 => ?_)
              · refine C.seq ?_
                refine C.region ?_
                refine O.val (v := .bool (false)) rfl (Ru.assign rfl) rfl ?_
                refine O.nil ?_
                refine C.ret ?_
                refine P1 (v := .bool (false)) rfl ?_
                exact ⟨(by exfalso; first | omega | (have := hz (by omega); omega)), (Mem.none hM10d)⟩
              · refine C.skip ?_
                refine C.region ?_
                refine O.val (v := I (((i : Nat) : Int))) rfl (Ru.move rfl) rfl ?_
                refine O.val (v := I ((((i + 1) : Nat) : Int))) rfl (Ru.congr (v := I ((((i : Nat) : Int) + 1))) (v' := I ((((i + 1) : Nat) : Int))) (Ru.add rfl rfl (by omega)) (I_congr (by first | omega | simp))) rfl ?_
                refine O.val (v := I ((((i + 1) : Nat) : Int))) rfl (Ru.assign rfl) rfl ?_
                refine O.nil ?_
                exact loopEnd (i + 1) (by (try dsimp only); omega) (Has.cons rfl (Has.cons rfl (Has.cons (I_congr (by first | rfl | omega | (simp; omega) | simp)) Has.nil))) ⟨(by (try dsimp only); omega), (hM10d.pick [0, 1, 2] (by decide) rfl)⟩
            · refine QO.pass rfl rfl rfl rfl rfl ?_
              refine QO.pass rfl rfl rfl rfl rfl ?_
              refine QO.pass rfl rfl rfl rfl rfl ?_
              refine QO.pass rfl rfl rfl rfl rfl ?_
              refine QO.pass rfl rfl rfl rfl rfl ?_
              refine QO.pass rfl rfl rfl rfl rfl ?_
              refine QO.val (v := .bool (false)) rfl (fun w2 hw2 => Ru.pickF rfl rfl) rfl ?_
              refine QO.val (v := .bool (false)) rfl (fun w2 hw2 => Ru.pickF rfl rfl) rfl ?_
              refine QO.nil ?_
              intro w10d hM10d
              refine C.condF rfl ?_
              refine C.skip ?_
              refine C.region ?_
              refine O.val (v := I (((i : Nat) : Int))) rfl (Ru.move rfl) rfl ?_
              refine O.val (v := I ((((i + 1) : Nat) : Int))) rfl (Ru.congr (v := I ((((i : Nat) : Int) + 1))) (v' := I ((((i + 1) : Nat) : Int))) (Ru.add rfl rfl (by omega)) (I_congr (by first | omega | simp))) rfl ?_
              refine O.val (v := I ((((i + 1) : Nat) : Int))) rfl (Ru.assign rfl) rfl ?_
              refine O.nil ?_
              exact loopEnd (i + 1) (by (try dsimp only); omega) (Has.cons rfl (Has.cons rfl (Has.cons (I_congr (by first | rfl | omega | (simp; omega) | simp)) Has.nil))) ⟨(by (try dsimp only); omega), (hM10d.pick [0, 1, 2] (by decide) rfl)⟩
      · refine C.exit ?_
        refine C.seq ?_
        refine C.region ?_
        refine O.val (v := .bool (true)) rfl (Ru.assign rfl) rfl ?_
        refine O.nil ?_
        refine C.ret ?_
        refine P1 (v := .bool (true)) rfl ?_
        exact ⟨rfl, (Mem.none hM_l8)⟩
end Go.Proofs.Ytekfncmhinbghaa.V
namespace Go.Proofs.Ytekfncmhinbghaa.fnPackWordsTail
open Go.ChangeShapes Go.WideShapes Go.ChangeAt Go.RowKit Go.Px
open Go.ChangeMaps (open_string shut_string)
set_option linter.unusedVariables false

theorem own : ownKnob Try.prog.godebug = none := by kernel_rfl
theorem laidOut : laidOutB Try.prog = true := by kernel_rfl

set_option maxRecDepth 100000 in
theorem lifted (os : Os) (started : os.Started) (H : Type) (enc : TypeId × Value → H) :
    ReturnsInHanded {} Try.checked os 11 .any (Rows.fnPackWordsTailSpec.pre6 enc Try.prog Try.f11 Rows.fnPackWordsTailRow.domain false) (Rows.fnPackWordsTailSpec.post enc Try.prog Try.f11 false true false false) := by
  refine returnsInHanded_of_change (C := Try.checked) own started (by kernel_rfl) Try.func11
    (ChangeSpec.witness6 (enc := enc) (C := Try.checked) false ⟨#[], #[.slice none 0 0], []⟩ 8 (by kernel_rfl) (by kernel_rfl) (by kernel_rfl) (by kernel_rfl)) ?_
  intro W base args ds gs before hval0 hW hcnd _
  have hval : ∀ (j : Nat) t v, Try.f11.params[j]? = some t → args[j]? = some v → Value.okWide Try.prog W .any base t v := hval0
  have hW' := hW
  obtain ⟨p, q, hA0, hV, rfl, hfz, hnd⟩ := hW
  have hA : DataW.TrodAll enc Try.prog W 0 (fun _ => true) true Try.f11.params.toList args.toList ds p := hA0
  rw [Try.params11] at hA hval
  obtain ⟨v0, vs0, d0, ds0, p0, q0, hargs, rfl, rfl, h0, r0⟩ := trodAll_cons hA
  obtain ⟨rfl, rfl, rfl⟩ := trodAll_nil r0
  obtain rfl : args = #[v0] := by cases args; simp_all
  obtain ⟨rfl, rfl⟩ := trodVars_none hV
  have k0 := h0
  have lt0 : ∀ x ∈ p0, x.block < W.heap.size := by obtain ⟨m, hm⟩ := k0; exact DataW.trod_lt m _ _ _ hm
  obtain ⟨a0, len0, cap0, rfl⟩ := okWide_slice Try.underlying29 (hval 0 29 v0 rfl rfl)
  have kk0 := k0
  obtain ⟨fuel0, hf0⟩ := kk0
  obtain ⟨z0, rfl, hz0, hc0, hw0, hRd0⟩ := slice_in (α := UInt8) (f := fun a : UInt8 => [byteV a]) (c := 1) Try.underlying29 (by kernel_rfl) (fun _ => rfl) (byte_el Try.underlying5) hf0
  rw [flat_one] at hRd0
  clear hA0 hval0
  refine (V.FnPackWordsTail_fn a0 cap0 z0 W hRd0 hz0 hc0).out.mono fun e W' ⟨v, he, hv, hg⟩ => ?_
  subst he hv
  have bel : Below W.heap.size W W' := ⟨hg.os, hg.tape, hg.output, hg.size, fun k hk => hg.block k hk (by simp)⟩
  exact ⟨_, rfl, _, _, _, [], _, [], hW', trodAll_mk1 (shut_bool Try.underlying4 _), (trodAll_cons_mk (Below.trod laidOut (by kernel_rfl) (of_decide_eq_true (by kernel_rfl)) k0 bel lt0) trodAll_mk0), rfl, bel.frame _, fun h => by cases h⟩

theorem named_ : Try.prog.funcNamed Rows.fnPackWordsTailRow.func = some 11 := by kernel_rfl
theorem closed : joinedFacts Try.prog 11 Try.f11 Rows.fnPackWordsTailSpec Rows.fnPackWordsTailRow = true := by
  unfold joinedFacts
  rw [enter_, lifts_, made_]
  kernel_rfl
theorem inst_ : Try.f11.isInstance Try.prog Rows.fnPackWordsTailRow.origin Rows.fnPackWordsTailRow.targs := of_decide_eq_true (by kernel_rfl)
theorem wrap_ : Try.f11.isWrapper Try.prog Rows.fnPackWordsTailRow.wrapper Rows.fnPackWordsTailRow.mainSum := by
  unfold Func.isWrapper
  rw [if_neg (by decide +kernel)]
  exact ⟨rfl, rfl⟩
theorem over : Rows.fnPackWordsTailRow.holds Try.pinned (OpenSpec.ofChange Rows.fnPackWordsTailSpec) :=
  OpenClaim.holds_of_wide 11 Try.f11 rfl rfl rfl rfl rfl rfl rfl ⟨rfl, rfl, rfl, rfl, rfl⟩ rfl rfl rfl rfl rfl named_ Try.func11 closed inst_ wrap_
    (fun os started H enc _ => lifted os started H enc)
theorem proved : Rows.FnPackWordsTailSaid := over
end Go.Proofs.Ytekfncmhinbghaa.fnPackWordsTail
