/- The statement Rows.FnUnpackWordsSameSaid: the Go function laws.FnUnpackWordsSame returns true for every input, and each argument reads afterwards as it read before. No conditions. -/
import Derived.Test.YtekfncmhinbghaaRows
import Derived.Test.YtekfncmhinbghaaPxO
import Derived.Test.YtekfncmhinbghaaWI
import Derived.Test.YtekfncmhinbghaaH0
import Derived.WalkKit
import Derived.ProofKit
import Derived.OpenShut
import Derived.ShutString
import Derived.ChangeOld
import Derived.SliceStrings
import Derived.Deep.Slices
import Derived.Deep.Fields
import Derived.ChangeSame
import Derived.Below
set_option linter.unusedVariables false
set_option linter.unusedSimpArgs false
namespace Go.Proofs.Ytekfncmhinbghaa.V
open Go.Px
set_option linter.unusedVariables false
theorem FnUnpackWordsSame_fn (A : Option Addr) (c : Nat) (l : List UInt8) (w : World) (hA : Rd w A ((l).map byteV)) (hl : l.length ≤ 9223372036854775807) (hc : l.length ≤ c) :
    Does Try.prog 17 [.slice (A) ((l).length) (c)] w (fun v w1 => v = .bool (true) ∧ Mem w w1 [] []) := by
  have hM : Mem w w [] [] := Mem.refl
  refine Does.enter1 Try.func17 rfl Try.results17 Try.ntmps17 rfl ?_
  refine C.seq ?_
  refine C.region ?_
  refine O.val (v := .bool (false)) rfl (Ru.assign rfl) rfl ?_
  refine O.nil ?_
  refine C.seq ?_
  refine C.seq ?_
  refine C.region ?_
  refine O.val (v := .slice (A) ((l).length) (c)) rfl (Ru.move rfl) rfl ?_
  refine O.val (v := I ((((l).length : Nat) : Int))) rfl (Ru.blenSlice Try.underlying29 rfl) rfl ?_
  refine O.val (v := .bool (decide ((((l).length : Nat) : Int) > 1048576))) rfl (Ru.gtr rfl rfl) rfl ?_
  refine O.nil ?_
  refine C.cond (p := (((l).length : Nat) : Int) > 1048576) rfl (fun c11 => ?_) (fun c11 => ?_)
  · refine C.seq ?_
    refine C.region ?_
    refine O.val (v := .bool (true)) rfl (Ru.assign rfl) rfl ?_
    refine O.nil ?_
    refine C.ret ?_
    refine P1 (v := .bool (true)) rfl ?_
    exact ⟨rfl, (Mem.none hM)⟩
  · refine C.skip ?_
    refine C.seq ?_
    refine C.region ?_
    refine O.val (v := .slice (A) ((l).length) (c)) rfl (Ru.move rfl) rfl ?_
    refine O.callg [.slice (A) ((l).length) (c)] rfl en31 rfl rfl (vDrawPackWords_fn A c l w (hA.at hM) (by first | omega | assumption | (simp; omega) | simp | (intros; omega)) (by first | omega | assumption | (simp; omega) | simp | (intros; omega))) ?_
    rintro _ w3_1 ⟨l13_1, A13_1, c13_1, rfl, hl3_1, hs3_1, hR3_1⟩
    have hM3_1 : Mem w w3_1 [] [[⟨.slice (A13_1) ((l13_1).length) (c13_1), 9, 1, ((l13_1).length), (l13_1).map S⟩]] := Mem.call (Ma := []) hM hR3_1 rfl
    refine O.val (v := .slice (A13_1) ((l13_1).length) (c13_1)) rfl (Ru.assign rfl) rfl ?_
    refine O.nil ?_
    refine C.seq ?_
    refine C.region ?_
    refine O.val (v := .slice (A13_1) ((l13_1).length) (c13_1)) rfl (Ru.move rfl) rfl ?_
    refine O.callg [.slice (A13_1) ((l13_1).length) (c13_1)] rfl en32 rfl rfl (vPackWords_fn A13_1 c13_1 l13_1 w3_1 (hM3_1.rd 0 rfl) (by omega) (by intro s hs; have := hs3_1 s hs; omega)) ?_
    rintro _ w4_1 ⟨A14_1, c14_1, rfl, hR4_1⟩
    have hM4_1 : Mem w w4_1 [] [[⟨.slice (A14_1) ((packF l13_1).length) (c14_1), 39, 2, ((packF l13_1).length), (packF l13_1).flatMap encR⟩], [⟨.slice (A13_1) ((l13_1).length) (c13_1), 9, 1, ((l13_1).length), (l13_1).map S⟩]] := Mem.call (Ma := []) hM3_1 hR4_1 rfl
    have hpl := packF_len l13_1
    refine O.val (v := .slice (A14_1) ((packF l13_1).length) (c14_1)) rfl (Ru.assign rfl) rfl ?_
    refine O.nil ?_
    refine C.seq ?_
    refine C.seq ?_
    refine C.region ?_
    refine O.val (v := .slice (A14_1) ((packF l13_1).length) (c14_1)) rfl (Ru.move rfl) rfl ?_
    refine O.val (v := .slice (A13_1) ((l13_1).length) (c13_1)) rfl (Ru.move rfl) rfl ?_
    refine O.callg [.slice (A13_1) ((l13_1).length) (c13_1)] rfl en34 rfl rfl (vSPackWords_fn A13_1 c13_1 l13_1 w4_1 (hM4_1.rd 1 rfl) (by omega) (by intro s hs; have := hs3_1 s hs; omega)) ?_
    rintro _ w5_2 ⟨A15_2, c15_2, rfl, hR5_2⟩
    have hM5_2 : Mem w w5_2 [] [[⟨.slice (A15_2) ((packF l13_1).length) (c15_2), 39, 2, ((packF l13_1).length), (packF l13_1).flatMap encR⟩], [⟨.slice (A14_1) ((packF l13_1).length) (c14_1), 39, 2, ((packF l13_1).length), (packF l13_1).flatMap encR⟩], [⟨.slice (A13_1) ((l13_1).length) (c13_1), 9, 1, ((l13_1).length), (l13_1).map S⟩]] := Mem.call (Ma := []) hM4_1 hR5_2 rfl
    refine O.callg [.slice (A14_1) ((packF l13_1).length) (c14_1), .slice (A15_2) ((packF l13_1).length) (c15_2)] rfl en33 rfl rfl (vequalRests_fn A14_1 c14_1 (packF l13_1) A15_2 c15_2 (packF l13_1) w5_2 (hM5_2.rd 1 rfl) (hM5_2.rd 0 rfl) (by first | omega | assumption | (simp; omega) | simp | (intros; omega))) ?_
    rintro _ w5_3 ⟨hv5_3, hR5_3⟩
    obtain rfl : _ = Value.bool true := hv5_3.trans (by simp)
    have hM5_3 : Mem w w5_3 [] [[⟨.slice (A15_2) ((packF l13_1).length) (c15_2), 39, 2, ((packF l13_1).length), (packF l13_1).flatMap encR⟩], [⟨.slice (A14_1) ((packF l13_1).length) (c14_1), 39, 2, ((packF l13_1).length), (packF l13_1).flatMap encR⟩], [⟨.slice (A13_1) ((l13_1).length) (c13_1), 9, 1, ((l13_1).length), (l13_1).map S⟩]] := Mem.call (Ma := []) hM5_2 hR5_3 rfl
    refine O.val (v := .bool (false)) rfl (Ru.not (b := true) rfl) rfl ?_
    refine O.val (v := .bool (false)) rfl (Ru.move rfl) rfl ?_
    refine O.val (v := .slice (A14_1) ((packF l13_1).length) (c14_1)) rfl (Ru.move rfl) rfl ?_
    refine O.val (v := I ((((packF l13_1).length : Nat) : Int))) rfl (Ru.blenSlice Try.underlying35 rfl) rfl ?_
    refine O.val (v := .bool (decide ((((packF l13_1).length : Nat) : Int) = 0))) rfl (Ru.eql rfl rfl) rfl ?_
    refine O.val (v := .bool (decide ((((packF l13_1).length : Nat) : Int) = 0))) rfl (Ru.pickF rfl rfl) rfl ?_
    refine O.nil ?_
    refine C.cond (p := (((packF l13_1).length : Nat) : Int) = 0) rfl (fun c25 => ?_) (fun c25 => ?_)
    · refine C.seq ?_
      refine C.region ?_
      refine O.val (v := .slice (A14_1) ((packF l13_1).length) (c14_1)) rfl (Ru.move rfl) rfl ?_
      refine O.val (v := .slice (A13_1) ((l13_1).length) (c13_1)) rfl (Ru.move rfl) rfl ?_
      refine O.callg [.slice (A13_1) ((l13_1).length) (c13_1)] rfl en34 rfl rfl (vSPackWords_fn A13_1 c13_1 l13_1 w5_3 (hM5_3.rd 2 rfl) (by omega) (by intro s hs; have := hs3_1 s hs; omega)) ?_
      rintro _ w6_2 ⟨A16_2, c16_2, rfl, hR6_2⟩
      have hM6_2 : Mem w w6_2 [] [[⟨.slice (A16_2) ((packF l13_1).length) (c16_2), 39, 2, ((packF l13_1).length), (packF l13_1).flatMap encR⟩], [⟨.slice (A15_2) ((packF l13_1).length) (c15_2), 39, 2, ((packF l13_1).length), (packF l13_1).flatMap encR⟩], [⟨.slice (A14_1) ((packF l13_1).length) (c14_1), 39, 2, ((packF l13_1).length), (packF l13_1).flatMap encR⟩], [⟨.slice (A13_1) ((l13_1).length) (c13_1), 9, 1, ((l13_1).length), (l13_1).map S⟩]] := Mem.call (Ma := []) hM5_3 hR6_2 rfl
      refine O.callg [.slice (A14_1) ((packF l13_1).length) (c14_1), .slice (A16_2) ((packF l13_1).length) (c16_2)] rfl en33 rfl rfl (vequalRests_fn A14_1 c14_1 (packF l13_1) A16_2 c16_2 (packF l13_1) w6_2 (hM6_2.rd 2 rfl) (hM6_2.rd 0 rfl) (by first | omega | assumption | (simp; omega) | simp | (intros; omega))) ?_
      rintro _ w6_3 ⟨hv6_3, hR6_3⟩
      obtain rfl : _ = Value.bool true := hv6_3.trans (by simp)
      have hM6_3 : Mem w w6_3 [] [[⟨.slice (A16_2) ((packF l13_1).length) (c16_2), 39, 2, ((packF l13_1).length), (packF l13_1).flatMap encR⟩], [⟨.slice (A15_2) ((packF l13_1).length) (c15_2), 39, 2, ((packF l13_1).length), (packF l13_1).flatMap encR⟩], [⟨.slice (A14_1) ((packF l13_1).length) (c14_1), 39, 2, ((packF l13_1).length), (packF l13_1).flatMap encR⟩], [⟨.slice (A13_1) ((l13_1).length) (c13_1), 9, 1, ((l13_1).length), (l13_1).map S⟩]] := Mem.call (Ma := []) hM6_2 hR6_3 rfl
      refine O.val (v := .bool (true)) rfl (Ru.assign rfl) rfl ?_
      refine O.nil ?_
      refine C.ret ?_
      refine P1 (v := .bool (true)) rfl ?_
      exact ⟨rfl, (Mem.none hM6_3)⟩
    · have hpt := packF_tail hs3_1
      have hkk := Nat.mod_lt l.length (show 0 < (packF l13_1).length by omega)
      refine C.skip ?_
      refine C.seq ?_
      refine C.region ?_
      refine O.val (v := .slice (A) ((l).length) (c)) rfl (Ru.move rfl) rfl ?_
      refine O.val (v := I ((((l).length : Nat) : Int))) rfl (Ru.blenSlice Try.underlying29 rfl) rfl ?_
      refine O.val (v := .slice (A14_1) ((packF l13_1).length) (c14_1)) rfl (Ru.move rfl) rfl ?_
      refine O.val (v := I ((((packF l13_1).length : Nat) : Int))) rfl (Ru.blenSlice Try.underlying35 rfl) rfl ?_
      refine O.val (v := I (((((l).length % (packF l13_1).length) : Nat) : Int))) rfl (Ru.congr (v := I (((((l).length : Nat) : Int) % (((packF l13_1).length : Nat) : Int)))) (v' := I (((((l).length % (packF l13_1).length) : Nat) : Int))) (Ru.rem rfl rfl (by omega)) (I_congr (by first | omega | simp))) rfl ?_
      refine O.val (v := I (((((l).length % (packF l13_1).length) : Nat) : Int))) rfl (Ru.assign rfl) rfl ?_
      refine O.nil ?_
      refine C.seq ?_
      refine C.region ?_
      refine O.mlit (sz := 2) (cs := []) hM5_3 rfl Try.underlying35 el39 rfl rfl rfl (by kernel_rfl) (by kernel_rfl) rfl rfl (fun w8_0 b8_0 hb8_0 (hM8_0 : Mem w w8_0 [] [[⟨.slice (bl b8_0) (0) (0), 39, 2, 0, ([]).flatMap encR⟩], [⟨.slice (A15_2) ((packF l13_1).length) (c15_2), 39, 2, ((packF l13_1).length), (packF l13_1).flatMap encR⟩], [⟨.slice (A14_1) ((packF l13_1).length) (c14_1), 39, 2, ((packF l13_1).length), (packF l13_1).flatMap encR⟩], [⟨.slice (A13_1) ((l13_1).length) (c13_1), 9, 1, ((l13_1).length), (l13_1).map S⟩]]) => ?_)
      refine O.val (v := .slice (A14_1) ((packF l13_1).length) (c14_1)) rfl (Ru.move rfl) rfl ?_
      refine O.mappend (sz := 2) (news := (packF l13_1).flatMap encR) (m1 := (packF l13_1).length) (xs1 := (packF l13_1).flatMap encR) (M' := fun A8_2 c8_2 => [[⟨.slice (A8_2) ((packF l13_1).length) (c8_2), 39, 2, ((packF l13_1).length), (packF l13_1).flatMap encR⟩], [⟨.slice (A15_2) ((packF l13_1).length) (c15_2), 39, 2, ((packF l13_1).length), (packF l13_1).flatMap encR⟩], [⟨.slice (A14_1) ((packF l13_1).length) (c14_1), 39, 2, ((packF l13_1).length), (packF l13_1).flatMap encR⟩], [⟨.slice (A13_1) ((l13_1).length) (c13_1), 9, 1, ((l13_1).length), (l13_1).map S⟩]]) 0 0 hM8_0 rfl rfl rfl Try.underlying35 el39 ⟨rfl, by decide⟩ rfl rfl rfl (hM8_0.rd 2 rfl) (by rw [flat_len encR_len]; first | done | (simp; done) | (simp; omega)) (all_flat_one (fun _ => rfl) _) (by first | omega | (simp; omega)) (by first | omega | (simp; omega)) (by first | (simp; done) | (simp; omega)) (by simp) (fun _ _ => rfl) (fun w8_2 A8_2 c8_2 hc8_2 hM8_2 => ?_)
      try dsimp only at hM8_2
      refine O.val (v := .slice (A8_2) ((packF l13_1).length) (c8_2)) rfl (Ru.assign rfl) rfl ?_
      refine O.nil ?_
      refine C.seq ?_
      refine C.region ?_
      refine O.val (v := .slice (A8_2) ((packF l13_1).length) (c8_2)) rfl (Ru.move rfl) rfl ?_
      refine O.val (v := I (((((l).length % (packF l13_1).length) : Nat) : Int))) rfl (Ru.move rfl) rfl ?_
      refine O.val (v := .slice (A8_2) ((packF l13_1).length) (c8_2)) rfl (Ru.move rfl) rfl ?_
      refine O.val (v := I (((((l).length % (packF l13_1).length) : Nat) : Int))) rfl (Ru.move rfl) rfl ?_
      have hx9_4 : ((l).length % (packF l13_1).length) < (packF l13_1).length := (by first | omega | (simp; omega))
      refine O.val (v := .pointer (ofs (A8_2) (((l).length % (packF l13_1).length) * 2))) rfl (Ru.indexA (j := ((l).length % (packF l13_1).length)) Try.underlying35 el39 rfl rfl (smf encR_len (hM8_2.rd 0 rfl) hx9_4 rfl) (by omega) (by first | omega | (simp; omega))) rfl ?_
      refine O.val (v := .pointer (ofs (A8_2) (((l).length % (packF l13_1).length) * 2 + 0))) rfl (Ru.fieldA fl39_0 rfl (smf encR_len (hM8_2.rd 0 rfl) hx9_4 rfl)) rfl ?_
      refine O.val rfl (Ru.load1 el3 rfl (ldf encR_len (hM8_2.rd 0 rfl) hx9_4 rfl)) rfl ?_
      have hsm := packF_same hkk
      have htk := hpt _ (List.getElem_mem hkk)
      refine O.val (v := I ((((packF l13_1)[((l).length % (packF l13_1).length)]'hx9_4).same + 1))) rfl (Ru.add rfl rfl (by omega)) rfl ?_
      have hx9_8 : ((l).length % (packF l13_1).length) < (packF l13_1).length := (by first | omega | (simp; omega))
      refine O.val (v := .pointer (ofs (A8_2) (((l).length % (packF l13_1).length) * 2))) rfl (Ru.indexA (j := ((l).length % (packF l13_1).length)) Try.underlying35 el39 rfl rfl (smf encR_len (hM8_2.rd 0 rfl) hx9_8 rfl) (by omega) (by first | omega | (simp; omega))) rfl ?_
      refine O.val (v := .pointer (ofs (A8_2) (((l).length % (packF l13_1).length) * 2 + 0))) rfl (Ru.fieldA fl39_0 rfl (smf encR_len (hM8_2.rd 0 rfl) hx9_8 rfl)) rfl ?_
      refine O.mstore (vs := [I ((((packF l13_1)[((l).length % (packF l13_1).length)]'hx9_4).same + 1))]) (xs' := ((packF l13_1).set (((l).length % (packF l13_1).length)) (⟨(((packF l13_1)[((l).length % (packF l13_1).length)]'hx9_4).same + 1), ((packF l13_1)[((l).length % (packF l13_1).length)]'hx9_8).tail⟩)).flatMap encR) 0 0 hM8_2 rfl rfl rfl el3 rfl rfl rfl rfl rfl (by rw [flat_len encR_len]; simp; omega) (by simp) (spl_part encR_len (l := packF l13_1) (a := ⟨(((packF l13_1)[((l).length % (packF l13_1).length)]'hx9_4).same + 1), ((packF l13_1)[((l).length % (packF l13_1).length)]'hx9_8).tail⟩) hx9_8 (by simp) rfl) rfl (fun w9_10 (hM9_10 : Mem w w9_10 [] [[⟨.slice (A8_2) ((packF l13_1).length) (c8_2), 39, 2, ((packF l13_1).length), ((packF l13_1).set (((l).length % (packF l13_1).length)) (⟨(((packF l13_1)[((l).length % (packF l13_1).length)]'hx9_4).same + 1), ((packF l13_1)[((l).length % (packF l13_1).length)]'hx9_8).tail⟩)).flatMap encR⟩], [⟨.slice (A15_2) ((packF l13_1).length) (c15_2), 39, 2, ((packF l13_1).length), (packF l13_1).flatMap encR⟩], [⟨.slice (A14_1) ((packF l13_1).length) (c14_1), 39, 2, ((packF l13_1).length), (packF l13_1).flatMap encR⟩], [⟨.slice (A13_1) ((l13_1).length) (c13_1), 9, 1, ((l13_1).length), (l13_1).map S⟩]]) => ?_)
      refine O.nil ?_
      refine C.seq ?_
      refine C.region ?_
      refine O.val (v := .slice (A8_2) ((packF l13_1).length) (c8_2)) rfl (Ru.move rfl) rfl ?_
      refine O.callg [.slice (A8_2) (((packF l13_1).set (((l).length % (packF l13_1).length)) (⟨(((packF l13_1)[((l).length % (packF l13_1).length)]'hx9_4).same + 1), ((packF l13_1)[((l).length % (packF l13_1).length)]'hx9_8).tail⟩)).length) (c8_2)] rfl en40 (by first | rfl | (rw [show ((packF l13_1).set (((l).length % (packF l13_1).length)) (⟨(((packF l13_1)[((l).length % (packF l13_1).length)]'hx9_4).same + 1), ((packF l13_1)[((l).length % (packF l13_1).length)]'hx9_8).tail⟩)).length = (packF l13_1).length from (by first | rfl | (simp; done) | omega | (simp; omega))]; rfl)) rfl (vUnpackWords_fn A8_2 c8_2 ((packF l13_1).set (((l).length % (packF l13_1).length)) (⟨(((packF l13_1)[((l).length % (packF l13_1).length)]'hx9_4).same + 1), ((packF l13_1)[((l).length % (packF l13_1).length)]'hx9_8).tail⟩)) w9_10 (hM9_10.rd 0 rfl) (by simp; omega) (by intro r hr; have := tails_set hpt (k := l.length % (packF l13_1).length) (x := ⟨(packF l13_1)[l.length % (packF l13_1).length].same + 1, (packF l13_1)[l.length % (packF l13_1).length].tail⟩) htk r hr; omega)) ?_
      rintro _ w10_1 ⟨A110_1, c110_1, rfl, hR10_1⟩
      have hM10_1 : Mem w w10_1 [] [[⟨.slice (A110_1) (((unpF ((packF l13_1).set (((l).length % (packF l13_1).length)) (⟨(((packF l13_1)[((l).length % (packF l13_1).length)]'hx9_4).same + 1), ((packF l13_1)[((l).length % (packF l13_1).length)]'hx9_8).tail⟩))).getD []).length) (c110_1), 9, 1, (((unpF ((packF l13_1).set (((l).length % (packF l13_1).length)) (⟨(((packF l13_1)[((l).length % (packF l13_1).length)]'hx9_4).same + 1), ((packF l13_1)[((l).length % (packF l13_1).length)]'hx9_8).tail⟩))).getD []).length), ((unpF ((packF l13_1).set (((l).length % (packF l13_1).length)) (⟨(((packF l13_1)[((l).length % (packF l13_1).length)]'hx9_4).same + 1), ((packF l13_1)[((l).length % (packF l13_1).length)]'hx9_8).tail⟩))).getD []).map S⟩], [⟨.slice (A8_2) ((packF l13_1).length) (c8_2), 39, 2, ((packF l13_1).length), ((packF l13_1).set (((l).length % (packF l13_1).length)) (⟨(((packF l13_1)[((l).length % (packF l13_1).length)]'hx9_4).same + 1), ((packF l13_1)[((l).length % (packF l13_1).length)]'hx9_8).tail⟩)).flatMap encR⟩], [⟨.slice (A15_2) ((packF l13_1).length) (c15_2), 39, 2, ((packF l13_1).length), (packF l13_1).flatMap encR⟩], [⟨.slice (A14_1) ((packF l13_1).length) (c14_1), 39, 2, ((packF l13_1).length), (packF l13_1).flatMap encR⟩], [⟨.slice (A13_1) ((l13_1).length) (c13_1), 9, 1, ((l13_1).length), (l13_1).map S⟩]] := Mem.call (Ma := []) hM9_10 hR10_1 rfl
      refine O.val (v := .tuple #[.slice (A110_1) (((unpF ((packF l13_1).set (((l).length % (packF l13_1).length)) (⟨(((packF l13_1)[((l).length % (packF l13_1).length)]'hx9_4).same + 1), ((packF l13_1)[((l).length % (packF l13_1).length)]'hx9_8).tail⟩))).getD []).length) (c110_1), .bool ((unpF ((packF l13_1).set (((l).length % (packF l13_1).length)) (⟨(((packF l13_1)[((l).length % (packF l13_1).length)]'hx9_4).same + 1), ((packF l13_1)[((l).length % (packF l13_1).length)]'hx9_8).tail⟩))).isSome)]) rfl (Ru.move rfl) rfl ?_
      refine O.val (v := .slice (A110_1) (((unpF ((packF l13_1).set (((l).length % (packF l13_1).length)) (⟨(((packF l13_1)[((l).length % (packF l13_1).length)]'hx9_4).same + 1), ((packF l13_1)[((l).length % (packF l13_1).length)]'hx9_8).tail⟩))).getD []).length) (c110_1)) rfl (Ru.extract rfl rfl) rfl ?_
      refine O.val (v := .bool ((unpF ((packF l13_1).set (((l).length % (packF l13_1).length)) (⟨(((packF l13_1)[((l).length % (packF l13_1).length)]'hx9_4).same + 1), ((packF l13_1)[((l).length % (packF l13_1).length)]'hx9_8).tail⟩))).isSome)) rfl (Ru.extract rfl rfl) rfl ?_
      refine O.val (v := .slice (A110_1) (((unpF ((packF l13_1).set (((l).length % (packF l13_1).length)) (⟨(((packF l13_1)[((l).length % (packF l13_1).length)]'hx9_4).same + 1), ((packF l13_1)[((l).length % (packF l13_1).length)]'hx9_8).tail⟩))).getD []).length) (c110_1)) rfl (Ru.assign rfl) rfl ?_
      refine O.val (v := .bool ((unpF ((packF l13_1).set (((l).length % (packF l13_1).length)) (⟨(((packF l13_1)[((l).length % (packF l13_1).length)]'hx9_4).same + 1), ((packF l13_1)[((l).length % (packF l13_1).length)]'hx9_8).tail⟩))).isSome)) rfl (Ru.assign rfl) rfl ?_
      refine O.nil ?_
      refine C.seq ?_
      refine C.region ?_
      refine O.val (v := .bool ((unpF ((packF l13_1).set (((l).length % (packF l13_1).length)) (⟨(((packF l13_1)[((l).length % (packF l13_1).length)]'hx9_4).same + 1), ((packF l13_1)[((l).length % (packF l13_1).length)]'hx9_8).tail⟩))).isSome)) rfl (Ru.move rfl) rfl ?_
      refine O.val (v := .bool (!((unpF ((packF l13_1).set (((l).length % (packF l13_1).length)) (⟨(((packF l13_1)[((l).length % (packF l13_1).length)]'hx9_4).same + 1), ((packF l13_1)[((l).length % (packF l13_1).length)]'hx9_8).tail⟩))).isSome))) rfl (Ru.not rfl) rfl ?_
      refine O.val (v := .bool (!((unpF ((packF l13_1).set (((l).length % (packF l13_1).length)) (⟨(((packF l13_1)[((l).length % (packF l13_1).length)]'hx9_4).same + 1), ((packF l13_1)[((l).length % (packF l13_1).length)]'hx9_8).tail⟩))).isSome))) rfl (Ru.move rfl) rfl ?_
      refine O.part 55 (!((unpF ((packF l13_1).set (((l).length % (packF l13_1).length)) (⟨(((packF l13_1)[((l).length % (packF l13_1).length)]'hx9_4).same + 1), ((packF l13_1)[((l).length % (packF l13_1).length)]'hx9_8).tail⟩))).isSome)) rfl (fun g55 => ?_) (fun g55 => ?_)
      · refine O.pass rfl rfl rfl rfl rfl ?_
        refine O.pass rfl rfl rfl rfl rfl ?_
        refine O.pass rfl rfl rfl rfl rfl ?_
        refine O.pass rfl rfl rfl rfl rfl ?_
        refine O.val (v := .bool (true)) rfl (Ru.pickT rfl rfl) rfl ?_
        refine O.val (v := .bool (true)) rfl (Ru.assign rfl) rfl ?_
        refine O.nil ?_
        refine C.ret ?_
        refine P1 (v := .bool (true)) rfl ?_
        exact ⟨(by first | rfl | (rw [unp_same hkk (by simp; omega) (by simpa using g55)]; rfl)), (Mem.none hM10_1)⟩
      · refine O.val (v := .slice (A110_1) (((unpF ((packF l13_1).set (((l).length % (packF l13_1).length)) (⟨(((packF l13_1)[((l).length % (packF l13_1).length)]'hx9_4).same + 1), ((packF l13_1)[((l).length % (packF l13_1).length)]'hx9_8).tail⟩))).getD []).length) (c110_1)) rfl (Ru.move rfl) rfl ?_
        refine O.val (v := .slice (A13_1) ((l13_1).length) (c13_1)) rfl (Ru.move rfl) rfl ?_
        refine O.callg [.slice (A110_1) (((unpF ((packF l13_1).set (((l).length % (packF l13_1).length)) (⟨(((packF l13_1)[((l).length % (packF l13_1).length)]'hx9_4).same + 1), ((packF l13_1)[((l).length % (packF l13_1).length)]'hx9_8).tail⟩))).getD []).length) (c110_1), .slice (A13_1) ((l13_1).length) (c13_1)] rfl en41 rfl rfl (vequalWords_fn A110_1 c110_1 ((unpF ((packF l13_1).set (((l).length % (packF l13_1).length)) (⟨(((packF l13_1)[((l).length % (packF l13_1).length)]'hx9_4).same + 1), ((packF l13_1)[((l).length % (packF l13_1).length)]'hx9_8).tail⟩))).getD []) A13_1 c13_1 l13_1 w10_1 (hM10_1.rd 0 rfl) (hM10_1.rd 4 rfl) (by have := unp_len (l := (packF l13_1).set (l.length % (packF l13_1).length) ⟨(packF l13_1)[l.length % (packF l13_1).length].same + 1, (packF l13_1)[l.length % (packF l13_1).length].tail⟩); omega)) ?_
        rintro _ w11_5 ⟨rfl, hR11_5⟩
        have hM11_5 : Mem w w11_5 [] [[⟨.slice (A110_1) (((unpF ((packF l13_1).set (((l).length % (packF l13_1).length)) (⟨(((packF l13_1)[((l).length % (packF l13_1).length)]'hx9_4).same + 1), ((packF l13_1)[((l).length % (packF l13_1).length)]'hx9_8).tail⟩))).getD []).length) (c110_1), 9, 1, (((unpF ((packF l13_1).set (((l).length % (packF l13_1).length)) (⟨(((packF l13_1)[((l).length % (packF l13_1).length)]'hx9_4).same + 1), ((packF l13_1)[((l).length % (packF l13_1).length)]'hx9_8).tail⟩))).getD []).length), ((unpF ((packF l13_1).set (((l).length % (packF l13_1).length)) (⟨(((packF l13_1)[((l).length % (packF l13_1).length)]'hx9_4).same + 1), ((packF l13_1)[((l).length % (packF l13_1).length)]'hx9_8).tail⟩))).getD []).map S⟩], [⟨.slice (A8_2) ((packF l13_1).length) (c8_2), 39, 2, ((packF l13_1).length), ((packF l13_1).set (((l).length % (packF l13_1).length)) (⟨(((packF l13_1)[((l).length % (packF l13_1).length)]'hx9_4).same + 1), ((packF l13_1)[((l).length % (packF l13_1).length)]'hx9_8).tail⟩)).flatMap encR⟩], [⟨.slice (A15_2) ((packF l13_1).length) (c15_2), 39, 2, ((packF l13_1).length), (packF l13_1).flatMap encR⟩], [⟨.slice (A14_1) ((packF l13_1).length) (c14_1), 39, 2, ((packF l13_1).length), (packF l13_1).flatMap encR⟩], [⟨.slice (A13_1) ((l13_1).length) (c13_1), 9, 1, ((l13_1).length), (l13_1).map S⟩]] := Mem.call (Ma := []) hM10_1 hR11_5 rfl
        refine O.val (v := .bool (!(decide (((unpF ((packF l13_1).set (((l).length % (packF l13_1).length)) (⟨(((packF l13_1)[((l).length % (packF l13_1).length)]'hx9_4).same + 1), ((packF l13_1)[((l).length % (packF l13_1).length)]'hx9_8).tail⟩))).getD []) = l13_1)))) rfl (Ru.not rfl) rfl ?_
        refine O.val (v := .bool (!(decide (((unpF ((packF l13_1).set (((l).length % (packF l13_1).length)) (⟨(((packF l13_1)[((l).length % (packF l13_1).length)]'hx9_4).same + 1), ((packF l13_1)[((l).length % (packF l13_1).length)]'hx9_8).tail⟩))).getD []) = l13_1)))) rfl (Ru.pickF rfl rfl) rfl ?_
        refine O.val (v := .bool (!(decide (((unpF ((packF l13_1).set (((l).length % (packF l13_1).length)) (⟨(((packF l13_1)[((l).length % (packF l13_1).length)]'hx9_4).same + 1), ((packF l13_1)[((l).length % (packF l13_1).length)]'hx9_8).tail⟩))).getD []) = l13_1)))) rfl (Ru.assign rfl) rfl ?_
        refine O.nil ?_
        refine C.ret ?_
        refine P1 (v := .bool (!(decide (((unpF ((packF l13_1).set (((l).length % (packF l13_1).length)) (⟨(((packF l13_1)[((l).length % (packF l13_1).length)]'hx9_4).same + 1), ((packF l13_1)[((l).length % (packF l13_1).length)]'hx9_8).tail⟩))).getD []) = l13_1)))) rfl ?_
        exact ⟨(by first | rfl | (rw [unp_same hkk (by simp; omega) (by simpa using g55)]; rfl)), (Mem.none hM11_5)⟩
end Go.Proofs.Ytekfncmhinbghaa.V
namespace Go.Proofs.Ytekfncmhinbghaa.fnUnpackWordsSame
open Go.ChangeShapes Go.WideShapes Go.ChangeAt Go.RowKit Go.Px
open Go.ChangeMaps (open_string shut_string)
set_option linter.unusedVariables false

theorem own : ownKnob Try.prog.godebug = none := by kernel_rfl
theorem laidOut : laidOutB Try.prog = true := by kernel_rfl

set_option maxRecDepth 100000 in
theorem lifted (os : Os) (started : os.Started) (H : Type) (enc : TypeId × Value → H) :
    ReturnsInHanded {} Try.checked os 17 .any (Rows.fnUnpackWordsSameSpec.pre6 enc Try.prog Try.f17 Rows.fnUnpackWordsSameRow.domain false) (Rows.fnUnpackWordsSameSpec.post enc Try.prog Try.f17 false true false false) := by
  refine returnsInHanded_of_change (C := Try.checked) own started (by kernel_rfl) Try.func17
    (ChangeSpec.witness6 (enc := enc) (C := Try.checked) false ⟨#[], #[.slice none 0 0], []⟩ 8 (by kernel_rfl) (by kernel_rfl) (by kernel_rfl) (by kernel_rfl)) ?_
  intro W base args ds gs before hval0 hW hcnd _
  have hval : ∀ (j : Nat) t v, Try.f17.params[j]? = some t → args[j]? = some v → Value.okWide Try.prog W .any base t v := hval0
  have hW' := hW
  obtain ⟨p, q, hA0, hV, rfl, hfz, hnd⟩ := hW
  have hA : DataW.TrodAll enc Try.prog W 0 (fun _ => true) true Try.f17.params.toList args.toList ds p := hA0
  rw [Try.params17] at hA hval
  obtain ⟨v0, vs0, d0, ds0, p0, q0, hargs, rfl, rfl, h0, r0⟩ := trodAll_cons hA
  obtain ⟨rfl, rfl, rfl⟩ := trodAll_nil r0
  obtain rfl : args = #[v0] := by cases args; simp_all
  obtain ⟨rfl, rfl⟩ := trodVars_none hV
  have k0 := h0
  have lt0 : ∀ x ∈ p0, x.block < W.heap.size := by obtain ⟨m, hm⟩ := k0; exact DataW.trod_lt m _ _ _ hm
  obtain ⟨a0, len0, cap0, rfl⟩ := okWide_slice Try.underlying29 (hval 0 29 v0 rfl rfl)
  have kk0 := k0
  obtain ⟨fuel0, hf0⟩ := kk0
  obtain ⟨z0, rfl, hz0, hc0, hw0, hRd0⟩ := slice_in (α := UInt8) (f := fun a : UInt8 => [byteV a]) (c := 1) Try.underlying29 (by kernel_rfl) (fun _ => rfl) (byte_el Try.underlying5) hf0
  rw [flat_one] at hRd0
  clear hA0 hval0
  refine (V.FnUnpackWordsSame_fn a0 cap0 z0 W hRd0 hz0 hc0).out.mono fun e W' ⟨v, he, hv, hg⟩ => ?_
  subst he hv
  have bel : Below W.heap.size W W' := ⟨hg.os, hg.tape, hg.output, hg.size, fun k hk => hg.block k hk (by simp)⟩
  exact ⟨_, rfl, _, _, _, [], _, [], hW', trodAll_mk1 (shut_bool Try.underlying4 _), (trodAll_cons_mk (Below.trod laidOut (by kernel_rfl) (of_decide_eq_true (by kernel_rfl)) k0 bel lt0) trodAll_mk0), rfl, bel.frame _, fun h => by cases h⟩

theorem named_ : Try.prog.funcNamed Rows.fnUnpackWordsSameRow.func = some 17 := by kernel_rfl
theorem closed : joinedFacts Try.prog 17 Try.f17 Rows.fnUnpackWordsSameSpec Rows.fnUnpackWordsSameRow = true := by
  unfold joinedFacts
  rw [enter_, lifts_, made_]
  kernel_rfl
theorem inst_ : Try.f17.isInstance Try.prog Rows.fnUnpackWordsSameRow.origin Rows.fnUnpackWordsSameRow.targs := of_decide_eq_true (by kernel_rfl)
theorem wrap_ : Try.f17.isWrapper Try.prog Rows.fnUnpackWordsSameRow.wrapper Rows.fnUnpackWordsSameRow.mainSum := by
  unfold Func.isWrapper
  rw [if_neg (by decide +kernel)]
  exact ⟨rfl, rfl⟩
theorem over : Rows.fnUnpackWordsSameRow.holds Try.pinned (OpenSpec.ofChange Rows.fnUnpackWordsSameSpec) :=
  OpenClaim.holds_of_wide 17 Try.f17 rfl rfl rfl rfl rfl rfl rfl ⟨rfl, rfl, rfl, rfl, rfl⟩ rfl rfl rfl rfl rfl named_ Try.func17 closed inst_ wrap_
    (fun os started H enc _ => lifted os started H enc)
theorem proved : Rows.FnUnpackWordsSameSaid := over
end Go.Proofs.Ytekfncmhinbghaa.fnUnpackWordsSame
