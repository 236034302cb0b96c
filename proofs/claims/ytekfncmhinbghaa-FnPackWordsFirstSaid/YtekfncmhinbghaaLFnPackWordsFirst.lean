/- The statement Rows.FnPackWordsFirstSaid: the Go function laws.FnPackWordsFirst returns true for every input, and each argument reads afterwards as it read before. No conditions. -/
import Derived.Test.YtekfncmhinbghaaRows
import Derived.Test.YtekfncmhinbghaaPxO
import Derived.Test.YtekfncmhinbghaaWI
import Derived.Test.YtekfncmhinbghaaH0
import Derived.WalkKit
import Derived.ProofKit
import Derived.OpenShut
import Derived.ShutString
import Derived.ChangeOld
import Derived.SliceStrings
import Derived.Deep.Slices
import Derived.Deep.Fields
import Derived.ChangeSame
import Derived.Below
set_option linter.unusedVariables false
set_option linter.unusedSimpArgs false
namespace Go.Proofs.Ytekfncmhinbghaa.V
open Go.Px
set_option linter.unusedVariables false
theorem FnPackWordsFirst_fn (A : Option Addr) (c : Nat) (l : List UInt8) (w : World) (hA : Rd w A ((l).map byteV)) (hl : l.length ≤ 9223372036854775807) (hc : l.length ≤ c) :
    Does Try.prog 10 [.slice (A) ((l).length) (c)] w (fun v w1 => v = .bool (true) ∧ Mem w w1 [] []) := by
  have hM : Mem w w [] [] := Mem.refl
  refine Does.enter1 Try.func10 rfl Try.results10 Try.ntmps10 rfl ?_
  refine C.seq ?_
  refine C.region ?_
  refine O.val (v := .bool (false)) rfl (Ru.assign rfl) rfl ?_
  refine O.nil ?_
  refine C.seq ?_
  refine C.seq ?_
  refine C.region ?_
  refine O.val (v := .slice (A) ((l).length) (c)) rfl (Ru.move rfl) rfl ?_
  refine O.val (v := I ((((l).length : Nat) : Int))) rfl (Ru.blenSlice Try.underlying29 rfl) rfl ?_
  refine O.val (v := .bool (decide ((((l).length : Nat) : Int) > 1048576))) rfl (Ru.gtr rfl rfl) rfl ?_
  refine O.nil ?_
  refine C.cond (p := (((l).length : Nat) : Int) > 1048576) rfl (fun c7 => ?_) (fun c7 => ?_)
  · refine C.seq ?_
    refine C.region ?_
    refine O.val (v := .bool (true)) rfl (Ru.assign rfl) rfl ?_
    refine O.nil ?_
    refine C.ret ?_
    refine P1 (v := .bool (true)) rfl ?_
    exact ⟨rfl, (Mem.none hM)⟩
  · refine C.skip ?_
    refine C.seq ?_
    refine C.region ?_
    refine O.val (v := .slice (A) ((l).length) (c)) rfl (Ru.move rfl) rfl ?_
    refine O.callg [.slice (A) ((l).length) (c)] rfl en31 rfl rfl (vDrawPackWords_fn A c l w (hA.at hM) (by first | omega | assumption | (simp; omega) | simp | (intros; omega)) (by first | omega | assumption | (simp; omega) | simp | (intros; omega))) ?_
    rintro _ w3_1 ⟨l13_1, A13_1, c13_1, rfl, hl3_1, hs3_1, hR3_1⟩
    have hM3_1 : Mem w w3_1 [] [[⟨.slice (A13_1) ((l13_1).length) (c13_1), 9, 1, ((l13_1).length), (l13_1).map S⟩]] := Mem.call (Ma := []) hM hR3_1 rfl
    refine O.val (v := .slice (A13_1) ((l13_1).length) (c13_1)) rfl (Ru.assign rfl) rfl ?_
    refine O.nil ?_
    refine C.seq ?_
    refine C.region ?_
    refine O.val (v := .slice (A13_1) ((l13_1).length) (c13_1)) rfl (Ru.move rfl) rfl ?_
    refine O.callg [.slice (A13_1) ((l13_1).length) (c13_1)] rfl en32 rfl rfl (vPackWords_fn A13_1 c13_1 l13_1 w3_1 (hM3_1.rd 0 rfl) (by omega) (by intro s hs; have := hs3_1 s hs; omega)) ?_
    rintro _ w4_1 ⟨A14_1, c14_1, rfl, hR4_1⟩
    have hM4_1 : Mem w w4_1 [] [[⟨.slice (A14_1) ((packF l13_1).length) (c14_1), 39, 2, ((packF l13_1).length), (packF l13_1).flatMap encR⟩], [⟨.slice (A13_1) ((l13_1).length) (c13_1), 9, 1, ((l13_1).length), (l13_1).map S⟩]] := Mem.call (Ma := []) hM3_1 hR4_1 rfl
    have hpl := packF_len l13_1
    refine O.val (v := .slice (A14_1) ((packF l13_1).length) (c14_1)) rfl (Ru.assign rfl) rfl ?_
    refine O.nil ?_
    refine C.seq ?_
    refine C.seq ?_
    refine C.region ?_
    refine O.val (v := .slice (A14_1) ((packF l13_1).length) (c14_1)) rfl (Ru.move rfl) rfl ?_
    refine O.val (v := .slice (A13_1) ((l13_1).length) (c13_1)) rfl (Ru.move rfl) rfl ?_
    refine O.callg [.slice (A13_1) ((l13_1).length) (c13_1)] rfl en34 rfl rfl (vSPackWords_fn A13_1 c13_1 l13_1 w4_1 (hM4_1.rd 1 rfl) (by omega) (by intro s hs; have := hs3_1 s hs; omega)) ?_
    rintro _ w5_2 ⟨A15_2, c15_2, rfl, hR5_2⟩
    have hM5_2 : Mem w w5_2 [] [[⟨.slice (A15_2) ((packF l13_1).length) (c15_2), 39, 2, ((packF l13_1).length), (packF l13_1).flatMap encR⟩], [⟨.slice (A14_1) ((packF l13_1).length) (c14_1), 39, 2, ((packF l13_1).length), (packF l13_1).flatMap encR⟩], [⟨.slice (A13_1) ((l13_1).length) (c13_1), 9, 1, ((l13_1).length), (l13_1).map S⟩]] := Mem.call (Ma := []) hM4_1 hR5_2 rfl
    refine O.callg [.slice (A14_1) ((packF l13_1).length) (c14_1), .slice (A15_2) ((packF l13_1).length) (c15_2)] rfl en33 rfl rfl (vequalRests_fn A14_1 c14_1 (packF l13_1) A15_2 c15_2 (packF l13_1) w5_2 (hM5_2.rd 1 rfl) (hM5_2.rd 0 rfl) (by first | omega | assumption | (simp; omega) | simp | (intros; omega))) ?_
    rintro _ w5_3 ⟨hv5_3, hR5_3⟩
    obtain rfl : _ = Value.bool true := hv5_3.trans (by simp)
    have hM5_3 : Mem w w5_3 [] [[⟨.slice (A15_2) ((packF l13_1).length) (c15_2), 39, 2, ((packF l13_1).length), (packF l13_1).flatMap encR⟩], [⟨.slice (A14_1) ((packF l13_1).length) (c14_1), 39, 2, ((packF l13_1).length), (packF l13_1).flatMap encR⟩], [⟨.slice (A13_1) ((l13_1).length) (c13_1), 9, 1, ((l13_1).length), (l13_1).map S⟩]] := Mem.call (Ma := []) hM5_2 hR5_3 rfl
    refine O.val (v := .bool (false)) rfl (Ru.not (b := true) rfl) rfl ?_
    refine O.val (v := .bool (false)) rfl (Ru.move rfl) rfl ?_
    refine O.val (v := .slice (A14_1) ((packF l13_1).length) (c14_1)) rfl (Ru.move rfl) rfl ?_
    refine O.val (v := I ((((packF l13_1).length : Nat) : Int))) rfl (Ru.blenSlice Try.underlying35 rfl) rfl ?_
    refine O.val (v := .bool (decide ((((packF l13_1).length : Nat) : Int) = 0))) rfl (Ru.eql rfl rfl) rfl ?_
    refine O.val (v := .bool (decide ((((packF l13_1).length : Nat) : Int) = 0))) rfl (Ru.pickF rfl rfl) rfl ?_
    refine O.val (v := .bool (decide ((((packF l13_1).length : Nat) : Int) = 0))) rfl (Ru.move rfl) rfl ?_
    refine O.partp 22 ((((packF l13_1).length : Nat) : Int) = 0) rfl (fun g22 => ?_) (fun g22 => ?_)
    · refine O.pass rfl rfl rfl rfl rfl ?_
      refine O.pass rfl rfl rfl rfl rfl ?_
      refine O.pass rfl rfl rfl rfl rfl ?_
      refine O.val (v := .bool (true)) rfl (Ru.pickT rfl rfl) rfl ?_
      refine O.nil ?_
      refine C.condT rfl ?_
      refine C.seq ?_
      refine C.region ?_
      refine O.val (v := .slice (A14_1) ((packF l13_1).length) (c14_1)) rfl (Ru.move rfl) rfl ?_
      refine O.val (v := .slice (A13_1) ((l13_1).length) (c13_1)) rfl (Ru.move rfl) rfl ?_
      refine O.callg [.slice (A13_1) ((l13_1).length) (c13_1)] rfl en34 rfl rfl (vSPackWords_fn A13_1 c13_1 l13_1 w5_3 (hM5_3.rd 2 rfl) (by omega) (by intro s hs; have := hs3_1 s hs; omega)) ?_
      rintro _ w6_2 ⟨A16_2, c16_2, rfl, hR6_2⟩
      have hM6_2 : Mem w w6_2 [] [[⟨.slice (A16_2) ((packF l13_1).length) (c16_2), 39, 2, ((packF l13_1).length), (packF l13_1).flatMap encR⟩], [⟨.slice (A15_2) ((packF l13_1).length) (c15_2), 39, 2, ((packF l13_1).length), (packF l13_1).flatMap encR⟩], [⟨.slice (A14_1) ((packF l13_1).length) (c14_1), 39, 2, ((packF l13_1).length), (packF l13_1).flatMap encR⟩], [⟨.slice (A13_1) ((l13_1).length) (c13_1), 9, 1, ((l13_1).length), (l13_1).map S⟩]] := Mem.call (Ma := []) hM5_3 hR6_2 rfl
      refine O.callg [.slice (A14_1) ((packF l13_1).length) (c14_1), .slice (A16_2) ((packF l13_1).length) (c16_2)] rfl en33 rfl rfl (vequalRests_fn A14_1 c14_1 (packF l13_1) A16_2 c16_2 (packF l13_1) w6_2 (hM6_2.rd 2 rfl) (hM6_2.rd 0 rfl) (by first | omega | assumption | (simp; omega) | simp | (intros; omega))) ?_
      rintro _ w6_3 ⟨hv6_3, hR6_3⟩
      obtain rfl : _ = Value.bool true := hv6_3.trans (by simp)
      have hM6_3 : Mem w w6_3 [] [[⟨.slice (A16_2) ((packF l13_1).length) (c16_2), 39, 2, ((packF l13_1).length), (packF l13_1).flatMap encR⟩], [⟨.slice (A15_2) ((packF l13_1).length) (c15_2), 39, 2, ((packF l13_1).length), (packF l13_1).flatMap encR⟩], [⟨.slice (A14_1) ((packF l13_1).length) (c14_1), 39, 2, ((packF l13_1).length), (packF l13_1).flatMap encR⟩], [⟨.slice (A13_1) ((l13_1).length) (c13_1), 9, 1, ((l13_1).length), (l13_1).map S⟩]] := Mem.call (Ma := []) hM6_2 hR6_3 rfl
      refine O.val (v := .bool (true)) rfl (Ru.assign rfl) rfl ?_
      refine O.nil ?_
      refine C.ret ?_
      refine P1 (v := .bool (true)) rfl ?_
      exact ⟨rfl, (Mem.none hM6_3)⟩
    · refine O.val (v := .slice (A13_1) ((l13_1).length) (c13_1)) rfl (Ru.move rfl) rfl ?_
      refine O.val (v := I ((((l13_1).length : Nat) : Int))) rfl (Ru.blenSlice Try.underlying24 rfl) rfl ?_
      refine O.val (v := .bool (decide ((((l13_1).length : Nat) : Int) = 0))) rfl (Ru.eql rfl rfl) rfl ?_
      refine O.val (v := .bool (decide ((((l13_1).length : Nat) : Int) = 0))) rfl (Ru.pickF rfl rfl) rfl ?_
      refine O.nil ?_
      refine C.cond (p := (((l13_1).length : Nat) : Int) = 0) rfl (fun c26 => ?_) (fun c26 => ?_)
      · refine C.seq ?_
        refine C.region ?_
        refine O.val (v := .slice (A14_1) ((packF l13_1).length) (c14_1)) rfl (Ru.move rfl) rfl ?_
        refine O.val (v := .slice (A13_1) ((l13_1).length) (c13_1)) rfl (Ru.move rfl) rfl ?_
        refine O.callg [.slice (A13_1) ((l13_1).length) (c13_1)] rfl en34 rfl rfl (vSPackWords_fn A13_1 c13_1 l13_1 w5_3 (hM5_3.rd 2 rfl) (by omega) (by intro s hs; have := hs3_1 s hs; omega)) ?_
        rintro _ w6_2 ⟨A16_2, c16_2, rfl, hR6_2⟩
        have hM6_2 : Mem w w6_2 [] [[⟨.slice (A16_2) ((packF l13_1).length) (c16_2), 39, 2, ((packF l13_1).length), (packF l13_1).flatMap encR⟩], [⟨.slice (A15_2) ((packF l13_1).length) (c15_2), 39, 2, ((packF l13_1).length), (packF l13_1).flatMap encR⟩], [⟨.slice (A14_1) ((packF l13_1).length) (c14_1), 39, 2, ((packF l13_1).length), (packF l13_1).flatMap encR⟩], [⟨.slice (A13_1) ((l13_1).length) (c13_1), 9, 1, ((l13_1).length), (l13_1).map S⟩]] := Mem.call (Ma := []) hM5_3 hR6_2 rfl
        refine O.callg [.slice (A14_1) ((packF l13_1).length) (c14_1), .slice (A16_2) ((packF l13_1).length) (c16_2)] rfl en33 rfl rfl (vequalRests_fn A14_1 c14_1 (packF l13_1) A16_2 c16_2 (packF l13_1) w6_2 (hM6_2.rd 2 rfl) (hM6_2.rd 0 rfl) (by first | omega | assumption | (simp; omega) | simp | (intros; omega))) ?_
        rintro _ w6_3 ⟨hv6_3, hR6_3⟩
        obtain rfl : _ = Value.bool true := hv6_3.trans (by simp)
        have hM6_3 : Mem w w6_3 [] [[⟨.slice (A16_2) ((packF l13_1).length) (c16_2), 39, 2, ((packF l13_1).length), (packF l13_1).flatMap encR⟩], [⟨.slice (A15_2) ((packF l13_1).length) (c15_2), 39, 2, ((packF l13_1).length), (packF l13_1).flatMap encR⟩], [⟨.slice (A14_1) ((packF l13_1).length) (c14_1), 39, 2, ((packF l13_1).length), (packF l13_1).flatMap encR⟩], [⟨.slice (A13_1) ((l13_1).length) (c13_1), 9, 1, ((l13_1).length), (l13_1).map S⟩]] := Mem.call (Ma := []) hM6_2 hR6_3 rfl
        refine O.val (v := .bool (true)) rfl (Ru.assign rfl) rfl ?_
        refine O.nil ?_
        refine C.ret ?_
        refine P1 (v := .bool (true)) rfl ?_
        exact ⟨rfl, (Mem.none hM6_3)⟩
      · have hv := packF_pos (l := l13_1) (by omega)
        have hlen := packF_length hv
        refine C.skip ?_
        refine C.seq ?_
        refine C.any (f := 23) (ls := [false, false, false, false, false, false, false, false, false, false, false, false, false, false, false, false, false, false, false, false, false, false, false]) (fun w2 => Mem w w2 [] []) mixed rfl rfl (fun w2 hw2 => Mem0.ext_any hM5_3 hw2) (fun w7a hE7a => ?_)
        have hM7a : Mem w w7a [] [[⟨.slice (A15_2) ((packF l13_1).length) (c15_2), 39, 2, ((packF l13_1).length), (packF l13_1).flatMap encR⟩], [⟨.slice (A14_1) ((packF l13_1).length) (c14_1), 39, 2, ((packF l13_1).length), (packF l13_1).flatMap encR⟩], [⟨.slice (A13_1) ((l13_1).length) (c13_1), 9, 1, ((l13_1).length), (l13_1).map S⟩]] := Mem0.ext hM5_3 hE7a
        refine AO.val (v := .slice (A14_1) ((packF l13_1).length) (c14_1)) 0 (ls' := [true, false, false, false, false, false, false, false, false, false, false, false, false, false, false, false, false, false, false, false, false, false, false]) rfl (by kernel_rfl) rfl rfl (fun w2 hw2 => Ru.move rfl) rfl ?_
        have hx7_1 : 0 < (packF l13_1).length := (by first | omega | (simp; omega))
        refine AO.val (v := .pointer (ofs (A14_1) (0 * 2))) 1 (ls' := [true, true, false, false, false, false, false, false, false, false, false, false, false, false, false, false, false, false, false, false, false, false, false]) rfl (by kernel_rfl) rfl rfl (fun w2 hw2 => Ru.indexA (j := 0) Try.underlying35 el39 rfl rfl (smf encR_len (hM7a.rd 1 rfl) hx7_1 rfl) (by omega) (by first | omega | (simp; omega))) rfl ?_
        refine AO.val (v := .slice (A13_1) ((l13_1).length) (c13_1)) 3 (ls' := [true, true, false, true, false, false, false, false, false, false, false, false, false, false, false, false, false, false, false, false, false, false, false]) rfl (by kernel_rfl) rfl rfl (fun w2 hw2 => Ru.move rfl) rfl ?_
        have hx7_4 : 0 < (l13_1).length := (by first | omega | (simp; omega))
        refine AO.val (v := .pointer (ofs (A13_1) (0 * 1))) 4 (ls' := [true, true, false, true, true, false, false, false, false, false, false, false, false, false, false, false, false, false, false, false, false, false, false]) rfl (by kernel_rfl) rfl rfl (fun w2 hw2 => Ru.indexA (j := 0) Try.underlying24 el9 rfl rfl (smm (hM7a.rd 2 rfl) hx7_4) (by omega) (by first | omega | (simp; omega))) rfl ?_
        refine AO.two 2 5 (by kernel_rfl) ?_ ?_
        · refine step1 (ls' := [true, true, true, true, true, false, false, false, false, false, false, false, false, false, false, false, false, false, false, false, false, false, false]) rfl rfl ?_
          refine O.val rfl (Ru.loadN (vs := [I (((packF l13_1)[0]'hx7_1).same), S (((packF l13_1)[0]'hx7_1).tail)]) el39 rfl rfl (smf encR_len (hM7a.rd 1 rfl) hx7_1 rfl) (ldn encR_len (hM7a.rd 1 rfl) hx7_1)) rfl ?_
          refine O.stop (Mem.none hM7a) ?_
          refine AO.one 5 (by kernel_rfl) ?_
          refine step1 (ls' := [true, true, true, true, true, true, false, false, false, false, false, false, false, false, false, false, false, false, false, false, false, false, false]) rfl rfl ?_
          refine O.val rfl (Ru.load1 el9 rfl (ldm (hM7a.rd 2 rfl) hx7_4)) rfl ?_
          refine O.stop (Mem.none hM7a) ?_
          refine AO.val (v := .agg #[I (0), S ((l13_1)[0]'hx7_4)]) 6 (ls' := [true, true, true, true, true, true, true, false, false, false, false, false, false, false, false, false, false, false, false, false, false, false, false]) rfl (by kernel_rfl) rfl rfl (fun w2 hw2 => Ru.build of39 rfl rfl rfl) rfl ?_
          refine AO.val (v := .bool (decide (((packF l13_1)[0]'hx7_1) = (⟨0, (l13_1)[0]'hx7_4⟩)))) 7 (ls' := [true, true, true, true, true, true, true, true, false, false, false, false, false, false, false, false, false, false, false, false, false, false, false]) rfl (by kernel_rfl) rfl rfl (fun w2 hw2 => Ru.congr (v := .bool (([decide (((packF l13_1)[0]'hx7_1).same = 0), decide (((packF l13_1)[0]'hx7_1).tail = (l13_1)[0]'hx7_4)].all id))) (v' := .bool (decide (((packF l13_1)[0]'hx7_1) = (⟨0, (l13_1)[0]'hx7_4⟩)))) (Ru.eqlT (xs0 := [I (((packF l13_1)[0]'hx7_1).same), S (((packF l13_1)[0]'hx7_1).tail)]) (bs := [I (0), S ((l13_1)[0]'hx7_4)]) (rs := [decide (((packF l13_1)[0]'hx7_1).same = 0), decide (((packF l13_1)[0]'hx7_1).tail = (l13_1)[0]'hx7_4)]) eq39 rfl rfl ⟨ceq_int Try.underlying3, ⟨ceq_str Try.underlying9, trivial⟩⟩) (congrArg Value.bool (Rest_eq ((packF l13_1)[0]'hx7_1) (⟨0, (l13_1)[0]'hx7_4⟩)))) rfl ?_
          refine AO.val (v := .bool (decide (((packF l13_1)[0]'hx7_1) = (⟨0, (l13_1)[0]'hx7_4⟩)))) 8 (ls' := [true, true, true, true, true, true, true, true, true, false, false, false, false, false, false, false, false, false, false, false, false, false, false]) rfl (by kernel_rfl) rfl rfl (fun w2 hw2 => Ru.move rfl) rfl ?_
          refine AO.partp 39 (((packF l13_1)[0]'hx7_1) = (⟨0, (l13_1)[0]'hx7_4⟩)) rfl (fun g39 => ?_) (fun g39 => ?_)
          · refine AO.val (v := .slice (A13_1) ((l13_1).length) (c13_1)) 9 (ls' := [true, true, true, true, true, true, true, true, true, true, false, false, false, false, false, false, false, false, false, false, false, false, false]) rfl (by kernel_rfl) rfl rfl (fun w2 hw2 => Ru.move rfl) rfl ?_
            refine AO.val (v := .slice (A13_1) ((l13_1).length) (c13_1)) 10 (ls' := [true, true, true, true, true, true, true, true, true, true, true, false, false, false, false, false, false, false, false, false, false, false, false]) rfl (by kernel_rfl) rfl rfl (fun w2 hw2 => Ru.move rfl) rfl ?_
            refine AO.val (v := I ((((l13_1).length : Nat) : Int))) 11 (ls' := [true, true, true, true, true, true, true, true, true, true, true, true, false, false, false, false, false, false, false, false, false, false, false]) rfl (by kernel_rfl) rfl rfl (fun w2 hw2 => Ru.blenSlice Try.underlying24 rfl) rfl ?_
            refine AO.val (v := I (((((l13_1).length : Nat) : Int) - 1))) 12 (ls' := [true, true, true, true, true, true, true, true, true, true, true, true, true, false, false, false, false, false, false, false, false, false, false]) rfl (by kernel_rfl) rfl rfl (fun w2 hw2 => Ru.sub rfl rfl (by omega)) rfl ?_
            have hcp7_13 := hM7a.cap 2 rfl
            refine AO.val (v := .slice (A13_1) (((l13_1).take (((l13_1).length - 1))).length) (c13_1)) 13 (ls' := [true, true, true, true, true, true, true, true, true, true, true, true, true, true, false, false, false, false, false, false, false, false, false]) rfl (by kernel_rfl) rfl rfl (fun w2 hw2 => Ru.congr (v := .slice (A13_1) (((l13_1).length - 1)) (c13_1)) (v' := .slice (A13_1) (((l13_1).take (((l13_1).length - 1))).length) (c13_1)) (Ru.lsliceTo (h := ((l13_1).length - 1)) Try.underlying24 el9 rfl rfl (by omega) (by omega)) (sl_congr (by first | rfl | (simp; done) | omega | (simp; omega)))) rfl ?_
            refine AO.val (v := .slice (A14_1) ((packF l13_1).length) (c14_1)) 15 (ls' := [true, true, true, true, true, true, true, true, true, true, true, true, true, true, false, true, false, false, false, false, false, false, false]) rfl (by kernel_rfl) rfl rfl (fun w2 hw2 => Ru.move rfl) rfl ?_
            refine AO.val (v := .slice (A14_1) ((packF l13_1).length) (c14_1)) 16 (ls' := [true, true, true, true, true, true, true, true, true, true, true, true, true, true, false, true, true, false, false, false, false, false, false]) rfl (by kernel_rfl) rfl rfl (fun w2 hw2 => Ru.move rfl) rfl ?_
            refine AO.val (v := I ((((packF l13_1).length : Nat) : Int))) 17 (ls' := [true, true, true, true, true, true, true, true, true, true, true, true, true, true, false, true, true, true, false, false, false, false, false]) rfl (by kernel_rfl) rfl rfl (fun w2 hw2 => Ru.blenSlice Try.underlying35 rfl) rfl ?_
            refine AO.val (v := I (((((packF l13_1).length : Nat) : Int) - 1))) 18 (ls' := [true, true, true, true, true, true, true, true, true, true, true, true, true, true, false, true, true, true, true, false, false, false, false]) rfl (by kernel_rfl) rfl rfl (fun w2 hw2 => Ru.sub rfl rfl (by omega)) rfl ?_
            have hcp7_19 := hM7a.cap 1 rfl
            refine AO.val (v := .slice (A14_1) (((packF l13_1).take (((packF l13_1).length - 1))).length) (c14_1)) 19 (ls' := [true, true, true, true, true, true, true, true, true, true, true, true, true, true, false, true, true, true, true, true, false, false, false]) rfl (by kernel_rfl) rfl rfl (fun w2 hw2 => Ru.congr (v := .slice (A14_1) (((packF l13_1).length - 1)) (c14_1)) (v' := .slice (A14_1) (((packF l13_1).take (((packF l13_1).length - 1))).length) (c14_1)) (Ru.lsliceTo (h := ((packF l13_1).length - 1)) Try.underlying35 el39 rfl rfl (by omega) (by omega)) (sl_congr (by first | rfl | (simp; done) | omega | (simp; omega)))) rfl ?_
            refine AO.one 14 (by kernel_rfl) ?_
            refine step1 (ls' := [true, true, true, true, true, true, true, true, true, true, true, true, true, true, true, true, true, true, true, true, false, false, false]) rfl rfl ?_
            refine O.callg [.slice (A13_1) (((l13_1).take (((l13_1).length - 1))).length) (c13_1)] rfl en32 rfl rfl (vPackWords_fn A13_1 c13_1 ((l13_1).take (((l13_1).length - 1))) w7a (rd_take1 (hM7a.rd 2 rfl)) (by simp; omega) (by intro s hs; have := hs3_1 s (List.mem_of_mem_take hs); omega)) ?_
            rintro _ w7_14 ⟨A17_14, c17_14, rfl, hR7_14⟩
            have hM7_14 : Mem w w7_14 [] [[⟨.slice (A17_14) ((packF ((l13_1).take (((l13_1).length - 1)))).length) (c17_14), 39, 2, ((packF ((l13_1).take (((l13_1).length - 1)))).length), (packF ((l13_1).take (((l13_1).length - 1)))).flatMap encR⟩], [⟨.slice (A15_2) ((packF l13_1).length) (c15_2), 39, 2, ((packF l13_1).length), (packF l13_1).flatMap encR⟩], [⟨.slice (A14_1) ((packF l13_1).length) (c14_1), 39, 2, ((packF l13_1).length), (packF l13_1).flatMap encR⟩], [⟨.slice (A13_1) ((l13_1).length) (c13_1), 9, 1, ((l13_1).length), (l13_1).map S⟩]] := Mem.call (Ma := []) hM7a hR7_14 rfl
            refine O.stop (Mem.none hM7_14) ?_
            refine AO.one 20 (by kernel_rfl) ?_
            refine step1 (ls' := [true, true, true, true, true, true, true, true, true, true, true, true, true, true, true, true, true, true, true, true, true, false, false]) rfl rfl ?_
            refine O.callg [.slice (A17_14) ((packF ((l13_1).take (((l13_1).length - 1)))).length) (c17_14), .slice (A14_1) (((packF l13_1).take (((packF l13_1).length - 1))).length) (c14_1)] rfl en33 rfl rfl (vequalRests_fn A17_14 c17_14 (packF ((l13_1).take (((l13_1).length - 1)))) A14_1 c14_1 ((packF l13_1).take (((packF l13_1).length - 1))) w7_14 (hM7_14.rd 0 rfl) (rd_takeN encR_len (hM7_14.rd 2 rfl)) (by have := packF_len (l13_1.take (l13_1.length - 1)); simp at this; omega)) ?_
            rintro _ w7_20 ⟨rfl, hR7_20⟩
            have hM7_20 : Mem w w7_20 [] [[⟨.slice (A17_14) ((packF ((l13_1).take (((l13_1).length - 1)))).length) (c17_14), 39, 2, ((packF ((l13_1).take (((l13_1).length - 1)))).length), (packF ((l13_1).take (((l13_1).length - 1)))).flatMap encR⟩], [⟨.slice (A15_2) ((packF l13_1).length) (c15_2), 39, 2, ((packF l13_1).length), (packF l13_1).flatMap encR⟩], [⟨.slice (A14_1) ((packF l13_1).length) (c14_1), 39, 2, ((packF l13_1).length), (packF l13_1).flatMap encR⟩], [⟨.slice (A13_1) ((l13_1).length) (c13_1), 9, 1, ((l13_1).length), (l13_1).map S⟩]] := Mem.call (Ma := []) hM7_14 hR7_20 rfl
            refine O.stop (Mem.none hM7_20) ?_
            refine AO.val (v := .bool (decide ((packF ((l13_1).take (((l13_1).length - 1)))) = ((packF l13_1).take (((packF l13_1).length - 1)))))) 21 (ls' := [true, true, true, true, true, true, true, true, true, true, true, true, true, true, true, true, true, true, true, true, true, true, false]) rfl (by kernel_rfl) rfl rfl (fun w2 hw2 => Ru.pickT rfl rfl) rfl ?_
            refine AO.val (v := .bool (decide ((packF ((l13_1).take (((l13_1).length - 1)))) = ((packF l13_1).take (((packF l13_1).length - 1)))))) 22 (ls' := [true, true, true, true, true, true, true, true, true, true, true, true, true, true, true, true, true, true, true, true, true, true, true]) rfl (by kernel_rfl) rfl rfl (fun w2 hw2 => Ru.assign rfl) rfl ?_
            refine AO.nil (by kernel_rfl) ?_
            refine C.ret ?_
            refine P1 (v := .bool (decide ((packF ((l13_1).take (((l13_1).length - 1)))) = ((packF l13_1).take (((packF l13_1).length - 1)))))) rfl ?_
            exact ⟨(by first | exact congrArg Value.bool (decide_eq_true (by rw [hlen, packF_take hv])) | exact absurd (by rw [packF_get hv (by omega)]; simp [prevW_zero, restOf, comm_nil]) g39), (Mem.none hM7_20)⟩
          · refine AO.pass 9 (ls' := [true, true, true, true, true, true, true, true, true, true, false, false, false, false, false, false, false, false, false, false, false, false, false]) rfl (by kernel_rfl) rfl rfl rfl rfl rfl rfl ?_
            refine AO.pass 10 (ls' := [true, true, true, true, true, true, true, true, true, true, true, false, false, false, false, false, false, false, false, false, false, false, false]) rfl (by kernel_rfl) rfl rfl rfl rfl rfl rfl ?_
            refine AO.pass 11 (ls' := [true, true, true, true, true, true, true, true, true, true, true, true, false, false, false, false, false, false, false, false, false, false, false]) rfl (by kernel_rfl) rfl rfl rfl rfl rfl rfl ?_
            refine AO.pass 12 (ls' := [true, true, true, true, true, true, true, true, true, true, true, true, true, false, false, false, false, false, false, false, false, false, false]) rfl (by kernel_rfl) rfl rfl rfl rfl rfl rfl ?_
            refine AO.pass 13 (ls' := [true, true, true, true, true, true, true, true, true, true, true, true, true, true, false, false, false, false, false, false, false, false, false]) rfl (by kernel_rfl) rfl rfl rfl rfl rfl rfl ?_
            refine AO.pass 14 (ls' := [true, true, true, true, true, true, true, true, true, true, true, true, true, true, true, false, false, false, false, false, false, false, false]) rfl (by kernel_rfl) rfl rfl rfl rfl rfl rfl ?_
            refine AO.pass 15 (ls' := [true, true, true, true, true, true, true, true, true, true, true, true, true, true, true, true, false, false, false, false, false, false, false]) rfl (by kernel_rfl) rfl rfl rfl rfl rfl rfl ?_
            refine AO.pass 16 (ls' := [true, true, true, true, true, true, true, true, true, true, true, true, true, true, true, true, true, false, false, false, false, false, false]) rfl (by kernel_rfl) rfl rfl rfl rfl rfl rfl ?_
            refine AO.pass 17 (ls' := [true, true, true, true, true, true, true, true, true, true, true, true, true, true, true, true, true, true, false, false, false, false, false]) rfl (by kernel_rfl) rfl rfl rfl rfl rfl rfl ?_
            refine AO.pass 18 (ls' := [true, true, true, true, true, true, true, true, true, true, true, true, true, true, true, true, true, true, true, false, false, false, false]) rfl (by kernel_rfl) rfl rfl rfl rfl rfl rfl ?_
            refine AO.pass 19 (ls' := [true, true, true, true, true, true, true, true, true, true, true, true, true, true, true, true, true, true, true, true, false, false, false]) rfl (by kernel_rfl) rfl rfl rfl rfl rfl rfl ?_
            refine AO.pass 20 (ls' := [true, true, true, true, true, true, true, true, true, true, true, true, true, true, true, true, true, true, true, true, true, false, false]) rfl (by kernel_rfl) rfl rfl rfl rfl rfl rfl ?_
            refine AO.val (v := .bool (false)) 21 (ls' := [true, true, true, true, true, true, true, true, true, true, true, true, true, true, true, true, true, true, true, true, true, true, false]) rfl (by kernel_rfl) rfl rfl (fun w2 hw2 => Ru.pickF rfl rfl) rfl ?_
            refine AO.val (v := .bool (false)) 22 (ls' := [true, true, true, true, true, true, true, true, true, true, true, true, true, true, true, true, true, true, true, true, true, true, true]) rfl (by kernel_rfl) rfl rfl (fun w2 hw2 => Ru.assign rfl) rfl ?_
            refine AO.nil (by kernel_rfl) ?_
            refine C.ret ?_
            refine P1 (v := .bool (false)) rfl ?_
            exact ⟨(by first | exact congrArg Value.bool (decide_eq_true (by rw [hlen, packF_take hv])) | exact absurd (by rw [packF_get hv (by omega)]; simp [prevW_zero, restOf, comm_nil]) g39), (Mem.none hM7a)⟩
        · refine step1 (ls' := [true, true, false, true, true, true, false, false, false, false, false, false, false, false, false, false, false, false, false, false, false, false, false]) rfl rfl ?_
          refine O.val rfl (Ru.load1 el9 rfl (ldm (hM7a.rd 2 rfl) hx7_4)) rfl ?_
          refine O.stop (Mem.none hM7a) ?_
          refine AO.val (v := .agg #[I (0), S ((l13_1)[0]'hx7_4)]) 6 (ls' := [true, true, false, true, true, true, true, false, false, false, false, false, false, false, false, false, false, false, false, false, false, false, false]) rfl (by kernel_rfl) rfl rfl (fun w2 hw2 => Ru.build of39 rfl rfl rfl) rfl ?_
          refine AO.one 2 (by kernel_rfl) ?_
          refine step1 (ls' := [true, true, true, true, true, true, true, false, false, false, false, false, false, false, false, false, false, false, false, false, false, false, false]) rfl rfl ?_
          refine O.val rfl (Ru.loadN (vs := [I (((packF l13_1)[0]'hx7_1).same), S (((packF l13_1)[0]'hx7_1).tail)]) el39 rfl rfl (smf encR_len (hM7a.rd 1 rfl) hx7_1 rfl) (ldn encR_len (hM7a.rd 1 rfl) hx7_1)) rfl ?_
          refine O.stop (Mem.none hM7a) ?_
          refine AO.val (v := .bool (decide (((packF l13_1)[0]'hx7_1) = (⟨0, (l13_1)[0]'hx7_4⟩)))) 7 (ls' := [true, true, true, true, true, true, true, true, false, false, false, false, false, false, false, false, false, false, false, false, false, false, false]) rfl (by kernel_rfl) rfl rfl (fun w2 hw2 => Ru.congr (v := .bool (([decide (((packF l13_1)[0]'hx7_1).same = 0), decide (((packF l13_1)[0]'hx7_1).tail = (l13_1)[0]'hx7_4)].all id))) (v' := .bool (decide (((packF l13_1)[0]'hx7_1) = (⟨0, (l13_1)[0]'hx7_4⟩)))) (Ru.eqlT (xs0 := [I (((packF l13_1)[0]'hx7_1).same), S (((packF l13_1)[0]'hx7_1).tail)]) (bs := [I (0), S ((l13_1)[0]'hx7_4)]) (rs := [decide (((packF l13_1)[0]'hx7_1).same = 0), decide (((packF l13_1)[0]'hx7_1).tail = (l13_1)[0]'hx7_4)]) eq39 rfl rfl ⟨ceq_int Try.underlying3, ⟨ceq_str Try.underlying9, trivial⟩⟩) (congrArg Value.bool (Rest_eq ((packF l13_1)[0]'hx7_1) (⟨0, (l13_1)[0]'hx7_4⟩)))) rfl ?_
          refine AO.val (v := .bool (decide (((packF l13_1)[0]'hx7_1) = (⟨0, (l13_1)[0]'hx7_4⟩)))) 8 (ls' := [true, true, true, true, true, true, true, true, true, false, false, false, false, false, false, false, false, false, false, false, false, false, false]) rfl (by kernel_rfl) rfl rfl (fun w2 hw2 => Ru.move rfl) rfl ?_
          refine AO.partp 39 (((packF l13_1)[0]'hx7_1) = (⟨0, (l13_1)[0]'hx7_4⟩)) rfl (fun g39 => ?_) (fun g39 => ?_)
          · refine AO.val (v := .slice (A13_1) ((l13_1).length) (c13_1)) 9 (ls' := [true, true, true, true, true, true, true, true, true, true, false, false, false, false, false, false, false, false, false, false, false, false, false]) rfl (by kernel_rfl) rfl rfl (fun w2 hw2 => Ru.move rfl) rfl ?_
            refine AO.val (v := .slice (A13_1) ((l13_1).length) (c13_1)) 10 (ls' := [true, true, true, true, true, true, true, true, true, true, true, false, false, false, false, false, false, false, false, false, false, false, false]) rfl (by kernel_rfl) rfl rfl (fun w2 hw2 => Ru.move rfl) rfl ?_
            refine AO.val (v := I ((((l13_1).length : Nat) : Int))) 11 (ls' := [true, true, true, true, true, true, true, true, true, true, true, true, false, false, false, false, false, false, false, false, false, false, false]) rfl (by kernel_rfl) rfl rfl (fun w2 hw2 => Ru.blenSlice Try.underlying24 rfl) rfl ?_
            refine AO.val (v := I (((((l13_1).length : Nat) : Int) - 1))) 12 (ls' := [true, true, true, true, true, true, true, true, true, true, true, true, true, false, false, false, false, false, false, false, false, false, false]) rfl (by kernel_rfl) rfl rfl (fun w2 hw2 => Ru.sub rfl rfl (by omega)) rfl ?_
            have hcp7_13 := hM7a.cap 2 rfl
            refine AO.val (v := .slice (A13_1) (((l13_1).take (((l13_1).length - 1))).length) (c13_1)) 13 (ls' := [true, true, true, true, true, true, true, true, true, true, true, true, true, true, false, false, false, false, false, false, false, false, false]) rfl (by kernel_rfl) rfl rfl (fun w2 hw2 => Ru.congr (v := .slice (A13_1) (((l13_1).length - 1)) (c13_1)) (v' := .slice (A13_1) (((l13_1).take (((l13_1).length - 1))).length) (c13_1)) (Ru.lsliceTo (h := ((l13_1).length - 1)) Try.underlying24 el9 rfl rfl (by omega) (by omega)) (sl_congr (by first | rfl | (simp; done) | omega | (simp; omega)))) rfl ?_
            refine AO.val (v := .slice (A14_1) ((packF l13_1).length) (c14_1)) 15 (ls' := [true, true, true, true, true, true, true, true, true, true, true, true, true, true, false, true, false, false, false, false, false, false, false]) rfl (by kernel_rfl) rfl rfl (fun w2 hw2 => Ru.move rfl) rfl ?_
            refine AO.val (v := .slice (A14_1) ((packF l13_1).length) (c14_1)) 16 (ls' := [true, true, true, true, true, true, true, true, true, true, true, true, true, true, false, true, true, false, false, false, false, false, false]) rfl (by kernel_rfl) rfl rfl (fun w2 hw2 => Ru.move rfl) rfl ?_
            refine AO.val (v := I ((((packF l13_1).length : Nat) : Int))) 17 (ls' := [true, true, true, true, true, true, true, true, true, true, true, true, true, true, false, true, true, true, false, false, false, false, false]) rfl (by kernel_rfl) rfl rfl (fun w2 hw2 => Ru.blenSlice Try.underlying35 rfl) rfl ?_
            refine AO.val (v := I (((((packF l13_1).length : Nat) : Int) - 1))) 18 (ls' := [true, true, true, true, true, true, true, true, true, true, true, true, true, true, false, true, true, true, true, false, false, false, false]) rfl (by kernel_rfl) rfl rfl (fun w2 hw2 => Ru.sub rfl rfl (by omega)) rfl ?_
            have hcp7_19 := hM7a.cap 1 rfl
            refine AO.val (v := .slice (A14_1) (((packF l13_1).take (((packF l13_1).length - 1))).length) (c14_1)) 19 (ls' := [true, true, true, true, true, true, true, true, true, true, true, true, true, true, false, true, true, true, true, true, false, false, false]) rfl (by kernel_rfl) rfl rfl (fun w2 hw2 => Ru.congr (v := .slice (A14_1) (((packF l13_1).length - 1)) (c14_1)) (v' := .slice (A14_1) (((packF l13_1).take (((packF l13_1).length - 1))).length) (c14_1)) (Ru.lsliceTo (h := ((packF l13_1).length - 1)) Try.underlying35 el39 rfl rfl (by omega) (by omega)) (sl_congr (by first | rfl | (simp; done) | omega | (simp; omega)))) rfl ?_
            refine AO.one 14 (by kernel_rfl) ?_
            refine step1 (ls' := [true, true, true, true, true, true, true, true, true, true, true, true, true, true, true, true, true, true, true, true, false, false, false]) rfl rfl ?_
            refine O.callg [.slice (A13_1) (((l13_1).take (((l13_1).length - 1))).length) (c13_1)] rfl en32 rfl rfl (vPackWords_fn A13_1 c13_1 ((l13_1).take (((l13_1).length - 1))) w7a (rd_take1 (hM7a.rd 2 rfl)) (by simp; omega) (by intro s hs; have := hs3_1 s (List.mem_of_mem_take hs); omega)) ?_
            rintro _ w7_14 ⟨A17_14, c17_14, rfl, hR7_14⟩
            have hM7_14 : Mem w w7_14 [] [[⟨.slice (A17_14) ((packF ((l13_1).take (((l13_1).length - 1)))).length) (c17_14), 39, 2, ((packF ((l13_1).take (((l13_1).length - 1)))).length), (packF ((l13_1).take (((l13_1).length - 1)))).flatMap encR⟩], [⟨.slice (A15_2) ((packF l13_1).length) (c15_2), 39, 2, ((packF l13_1).length), (packF l13_1).flatMap encR⟩], [⟨.slice (A14_1) ((packF l13_1).length) (c14_1), 39, 2, ((packF l13_1).length), (packF l13_1).flatMap encR⟩], [⟨.slice (A13_1) ((l13_1).length) (c13_1), 9, 1, ((l13_1).length), (l13_1).map S⟩]] := Mem.call (Ma := []) hM7a hR7_14 rfl
            refine O.stop (Mem.none hM7_14) ?_
            refine AO.one 20 (by kernel_rfl) ?_
            refine step1 (ls' := [true, true, true, true, true, true, true, true, true, true, true, true, true, true, true, true, true, true, true, true, true, false, false]) rfl rfl ?_
            refine O.callg [.slice (A17_14) ((packF ((l13_1).take (((l13_1).length - 1)))).length) (c17_14), .slice (A14_1) (((packF l13_1).take (((packF l13_1).length - 1))).length) (c14_1)] rfl en33 rfl rfl (vequalRests_fn A17_14 c17_14 (packF ((l13_1).take (((l13_1).length - 1)))) A14_1 c14_1 ((packF l13_1).take (((packF l13_1).length - 1))) w7_14 (hM7_14.rd 0 rfl) (rd_takeN encR_len (hM7_14.rd 2 rfl)) (by have := packF_len (l13_1.take (l13_1.length - 1)); simp at this; omega)) ?_
            rintro _ w7_20 ⟨rfl, hR7_20⟩
            have hM7_20 : Mem w w7_20 [] [[⟨.slice (A17_14) ((packF ((l13_1).take (((l13_1).length - 1)))).length) (c17_14), 39, 2, ((packF ((l13_1).take (((l13_1).length - 1)))).length), (packF ((l13_1).take (((l13_1).length - 1)))).flatMap encR⟩], [⟨.slice (A15_2) ((packF l13_1).length) (c15_2), 39, 2, ((packF l13_1).length), (packF l13_1).flatMap encR⟩], [⟨.slice (A14_1) ((packF l13_1).length) (c14_1), 39, 2, ((packF l13_1).length), (packF l13_1).flatMap encR⟩], [⟨.slice (A13_1) ((l13_1).length) (c13_1), 9, 1, ((l13_1).length), (l13_1).map S⟩]] := Mem.call (Ma := []) hM7_14 hR7_20 rfl
            refine O.stop (Mem.none hM7_20) ?_
            refine AO.val (v := .bool (decide ((packF ((l13_1).take (((l13_1).length - 1)))) = ((packF l13_1).take (((packF l13_1).length - 1)))))) 21 (ls' := [true, true, true, true, true, true, true, true, true, true, true, true, true, true, true, true, true, true, true, true, true, true, false]) rfl (by kernel_rfl) rfl rfl (fun w2 hw2 => Ru.pickT rfl rfl) rfl ?_
            refine AO.val (v := .bool (decide ((packF ((l13_1).take (((l13_1).length - 1)))) = ((packF l13_1).take (((packF l13_1).length - 1)))))) 22 (ls' := [true, true, true, true, true, true, true, true, true, true, true, true, true, true, true, true, true, true, true, true, true, true, true]) rfl (by kernel_rfl) rfl rfl (fun w2 hw2 => Ru.assign rfl) rfl ?_
            refine AO.nil (by kernel_rfl) ?_
            refine C.ret ?_
            refine P1 (v := .bool (decide ((packF ((l13_1).take (((l13_1).length - 1)))) = ((packF l13_1).take (((packF l13_1).length - 1)))))) rfl ?_
            exact ⟨(by first | exact congrArg Value.bool (decide_eq_true (by rw [hlen, packF_take hv])) | exact absurd (by rw [packF_get hv (by omega)]; simp [prevW_zero, restOf, comm_nil]) g39), (Mem.none hM7_20)⟩
          · refine AO.pass 9 (ls' := [true, true, true, true, true, true, true, true, true, true, false, false, false, false, false, false, false, false, false, false, false, false, false]) rfl (by kernel_rfl) rfl rfl rfl rfl rfl rfl ?_
            refine AO.pass 10 (ls' := [true, true, true, true, true, true, true, true, true, true, true, false, false, false, false, false, false, false, false, false, false, false, false]) rfl (by kernel_rfl) rfl rfl rfl rfl rfl rfl ?_
            refine AO.pass 11 (ls' := [true, true, true, true, true, true, true, true, true, true, true, true, false, false, false, false, false, false, false, false, false, false, false]) rfl (by kernel_rfl) rfl rfl rfl rfl rfl rfl ?_
            refine AO.pass 12 (ls' := [true, true, true, true, true, true, true, true, true, true, true, true, true, false, false, false, false, false, false, false, false, false, false]) rfl (by kernel_rfl) rfl rfl rfl rfl rfl rfl ?_
            refine AO.pass 13 (ls' := [true, true, true, true, true, true, true, true, true, true, true, true, true, true, false, false, false, false, false, false, false, false, false]) rfl (by kernel_rfl) rfl rfl rfl rfl rfl rfl ?_
            refine AO.pass 14 (ls' := [true, true, true, true, true, true, true, true, true, true, true, true, true, true, true, false, false, false, false, false, false, false, false]) rfl (by kernel_rfl) rfl rfl rfl rfl rfl rfl ?_
            refine AO.pass 15 (ls' := [true, true, true, true, true, true, true, true, true, true, true, true, true, true, true, true, false, false, false, false, false, false, false]) rfl (by kernel_rfl) rfl rfl rfl rfl rfl rfl ?_
            refine AO.pass 16 (ls' := [true, true, true, true, true, true, true, true, true, true, true, true, true, true, true, true, true, false, false, false, false, false, false]) rfl (by kernel_rfl) rfl rfl rfl rfl rfl rfl ?_
            refine AO.pass 17 (ls' := [true, true, true, true, true, true, true, true, true, true, true, true, true, true, true, true, true, true, false, false, false, false, false]) rfl (by kernel_rfl) rfl rfl rfl rfl rfl rfl ?_
            refine AO.pass 18 (ls' := [true, true, true, true, true, true, true, true, true, true, true, true, true, true, true, true, true, true, true, false, false, false, false]) rfl (by kernel_rfl) rfl rfl rfl rfl rfl rfl ?_
            refine AO.pass 19 (ls' := [true, true, true, true, true, true, true, true, true, true, true, true, true, true, true, true, true, true, true, true, false, false, false]) rfl (by kernel_rfl) rfl rfl rfl rfl rfl rfl ?_
            refine AO.pass 20 (ls' := [true, true, true, true, true, true, true, true, true, true, true, true, true, true, true, true, true, true, true, true, true, false, false]) rfl (by kernel_rfl) rfl rfl rfl rfl rfl rfl ?_
            refine AO.val (v := .bool (false)) 21 (ls' := [true, true, true, true, true, true, true, true, true, true, true, true, true, true, true, true, true, true, true, true, true, true, false]) rfl (by kernel_rfl) rfl rfl (fun w2 hw2 => Ru.pickF rfl rfl) rfl ?_
            refine AO.val (v := .bool (false)) 22 (ls' := [true, true, true, true, true, true, true, true, true, true, true, true, true, true, true, true, true, true, true, true, true, true, true]) rfl (by kernel_rfl) rfl rfl (fun w2 hw2 => Ru.assign rfl) rfl ?_
            refine AO.nil (by kernel_rfl) ?_
            refine C.ret ?_
            refine P1 (v := .bool (false)) rfl ?_
            exact ⟨(by first | exact congrArg Value.bool (decide_eq_true (by rw [hlen, packF_take hv])) | exact absurd (by rw [packF_get hv (by omega)]; simp [prevW_zero, restOf, comm_nil]) g39), (Mem.none hM7a)⟩
end Go.Proofs.Ytekfncmhinbghaa.V
namespace Go.Proofs.Ytekfncmhinbghaa.fnPackWordsFirst
open Go.ChangeShapes Go.WideShapes Go.ChangeAt Go.RowKit Go.Px
open Go.ChangeMaps (open_string shut_string)
set_option linter.unusedVariables false

theorem own : ownKnob Try.prog.godebug = none := by kernel_rfl
theorem laidOut : laidOutB Try.prog = true := by kernel_rfl

set_option maxRecDepth 100000 in
theorem lifted (os : Os) (started : os.Started) (H : Type) (enc : TypeId × Value → H) :
    ReturnsInHanded {} Try.checked os 10 .any (Rows.fnPackWordsFirstSpec.pre6 enc Try.prog Try.f10 Rows.fnPackWordsFirstRow.domain false) (Rows.fnPackWordsFirstSpec.post enc Try.prog Try.f10 false true false false) := by
  refine returnsInHanded_of_change (C := Try.checked) own started (by kernel_rfl) Try.func10
    (ChangeSpec.witness6 (enc := enc) (C := Try.checked) false ⟨#[], #[.slice none 0 0], []⟩ 8 (by kernel_rfl) (by kernel_rfl) (by kernel_rfl) (by kernel_rfl)) ?_
  intro W base args ds gs before hval0 hW hcnd _
  have hval : ∀ (j : Nat) t v, Try.f10.params[j]? = some t → args[j]? = some v → Value.okWide Try.prog W .any base t v := hval0
  have hW' := hW
  obtain ⟨p, q, hA0, hV, rfl, hfz, hnd⟩ := hW
  have hA : DataW.TrodAll enc Try.prog W 0 (fun _ => true) true Try.f10.params.toList args.toList ds p := hA0
  rw [Try.params10] at hA hval
  obtain ⟨v0, vs0, d0, ds0, p0, q0, hargs, rfl, rfl, h0, r0⟩ := trodAll_cons hA
  obtain ⟨rfl, rfl, rfl⟩ := trodAll_nil r0
  obtain rfl : args = #[v0] := by cases args; simp_all
  obtain ⟨rfl, rfl⟩ := trodVars_none hV
  have k0 := h0
  have lt0 : ∀ x ∈ p0, x.block < W.heap.size := by obtain ⟨m, hm⟩ := k0; exact DataW.trod_lt m _ _ _ hm
  obtain ⟨a0, len0, cap0, rfl⟩ := okWide_slice Try.underlying29 (hval 0 29 v0 rfl rfl)
  have kk0 := k0
  obtain ⟨fuel0, hf0⟩ := kk0
  obtain ⟨z0, rfl, hz0, hc0, hw0, hRd0⟩ := slice_in (α := UInt8) (f := fun a : UInt8 => [byteV a]) (c := 1) Try.underlying29 (by kernel_rfl) (fun _ => rfl) (byte_el Try.underlying5) hf0
  rw [flat_one] at hRd0
  clear hA0 hval0
  refine (V.FnPackWordsFirst_fn a0 cap0 z0 W hRd0 hz0 hc0).out.mono fun e W' ⟨v, he, hv, hg⟩ => ?_
  subst he hv
  have bel : Below W.heap.size W W' := ⟨hg.os, hg.tape, hg.output, hg.size, fun k hk => hg.block k hk (by simp)⟩
  exact ⟨_, rfl, _, _, _, [], _, [], hW', trodAll_mk1 (shut_bool Try.underlying4 _), (trodAll_cons_mk (Below.trod laidOut (by kernel_rfl) (of_decide_eq_true (by kernel_rfl)) k0 bel lt0) trodAll_mk0), rfl, bel.frame _, fun h => by cases h⟩

theorem named_ : Try.prog.funcNamed Rows.fnPackWordsFirstRow.func = some 10 := by kernel_rfl
theorem closed : joinedFacts Try.prog 10 Try.f10 Rows.fnPackWordsFirstSpec Rows.fnPackWordsFirstRow = true := by
  unfold joinedFacts
  rw [enter_, lifts_, made_]
  kernel_rfl
theorem inst_ : Try.f10.isInstance Try.prog Rows.fnPackWordsFirstRow.origin Rows.fnPackWordsFirstRow.targs := of_decide_eq_true (by kernel_rfl)
theorem wrap_ : Try.f10.isWrapper Try.prog Rows.fnPackWordsFirstRow.wrapper Rows.fnPackWordsFirstRow.mainSum := by
  unfold Func.isWrapper
  rw [if_neg (by decide +kernel)]
  exact ⟨rfl, rfl⟩
theorem over : Rows.fnPackWordsFirstRow.holds Try.pinned (OpenSpec.ofChange Rows.fnPackWordsFirstSpec) :=
  OpenClaim.holds_of_wide 10 Try.f10 rfl rfl rfl rfl rfl rfl rfl ⟨rfl, rfl, rfl, rfl, rfl⟩ rfl rfl rfl rfl rfl named_ Try.func10 closed inst_ wrap_
    (fun os started H enc _ => lifted os started H enc)
theorem proved : Rows.FnPackWordsFirstSaid := over
end Go.Proofs.Ytekfncmhinbghaa.fnPackWordsFirst
