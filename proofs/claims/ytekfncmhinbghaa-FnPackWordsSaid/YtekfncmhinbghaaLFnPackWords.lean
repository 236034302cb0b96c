/- The statement Rows.FnPackWordsSaid: the Go function laws.FnPackWords returns true for every input, and each argument reads afterwards as it read before. No conditions. -/
import Derived.Test.YtekfncmhinbghaaRows
import Derived.Test.YtekfncmhinbghaaPxO
import Derived.Test.YtekfncmhinbghaaWI
import Derived.Test.YtekfncmhinbghaaH0
import Derived.WalkKit
import Derived.ProofKit
import Derived.OpenShut
import Derived.ShutString
import Derived.ChangeOld
import Derived.SliceStrings
import Derived.Deep.Slices
import Derived.Deep.Fields
import Derived.ChangeSame
import Derived.Below
set_option linter.unusedVariables false
set_option linter.unusedSimpArgs false
namespace Go.Proofs.Ytekfncmhinbghaa.V
open Go.Px
set_option linter.unusedVariables false
theorem FnPackWords_fn (A : Option Addr) (c : Nat) (l : List UInt8) (w : World) (hA : Rd w A ((l).map byteV)) (hl : l.length ≤ 9223372036854775807) (hc : l.length ≤ c) :
    Does Try.prog 16 [.slice (A) ((l).length) (c)] w (fun v w1 => v = .bool (true) ∧ Mem w w1 [] []) := by
  have hM : Mem w w [] [] := Mem.refl
  refine Does.enter1 Try.func16 rfl Try.results16 Try.ntmps16 rfl ?_
  refine C.seq ?_
  refine C.region ?_
  refine O.val (v := .bool (false)) rfl (Ru.assign rfl) rfl ?_
  refine O.nil ?_
  refine C.seq ?_
  refine C.seq ?_
  refine C.region ?_
  refine O.val (v := .slice (A) ((l).length) (c)) rfl (Ru.move rfl) rfl ?_
  refine O.val (v := I ((((l).length : Nat) : Int))) rfl (Ru.blenSlice Try.underlying29 rfl) rfl ?_
  refine O.val (v := .bool (decide ((((l).length : Nat) : Int) > 1048576))) rfl (Ru.gtr rfl rfl) rfl ?_
  refine O.nil ?_
  refine C.cond (p := (((l).length : Nat) : Int) > 1048576) rfl (fun c9 => ?_) (fun c9 => ?_)
  · refine C.seq ?_
    refine C.region ?_
    refine O.val (v := .bool (true)) rfl (Ru.assign rfl) rfl ?_
    refine O.nil ?_
    refine C.ret ?_
    refine P1 (v := .bool (true)) rfl ?_
    exact ⟨rfl, (Mem.none hM)⟩
  · refine C.skip ?_
    refine C.seq ?_
    refine C.region ?_
    refine O.val (v := .slice (A) ((l).length) (c)) rfl (Ru.move rfl) rfl ?_
    refine O.callg [.slice (A) ((l).length) (c)] rfl en31 rfl rfl (vDrawPackWords_fn A c l w (hA.at hM) (by first | omega | assumption | (simp; omega) | simp | (intros; omega)) (by first | omega | assumption | (simp; omega) | simp | (intros; omega))) ?_
    rintro _ w3_1 ⟨l13_1, A13_1, c13_1, rfl, hl3_1, hs3_1, hR3_1⟩
    have hM3_1 : Mem w w3_1 [] [[⟨.slice (A13_1) ((l13_1).length) (c13_1), 9, 1, ((l13_1).length), (l13_1).map S⟩]] := Mem.call (Ma := []) hM hR3_1 rfl
    refine O.val (v := .slice (A13_1) ((l13_1).length) (c13_1)) rfl (Ru.assign rfl) rfl ?_
    refine O.nil ?_
    refine C.seq ?_
    refine C.region ?_
    refine O.val (v := .slice (A13_1) ((l13_1).length) (c13_1)) rfl (Ru.move rfl) rfl ?_
    refine O.callg [.slice (A13_1) ((l13_1).length) (c13_1)] rfl en32 rfl rfl (vPackWords_fn A13_1 c13_1 l13_1 w3_1 (hM3_1.rd 0 rfl) (by omega) (by intro s hs; have := hs3_1 s hs; omega)) ?_
    rintro _ w4_1 ⟨A14_1, c14_1, rfl, hR4_1⟩
    have hM4_1 : Mem w w4_1 [] [[⟨.slice (A14_1) ((packF l13_1).length) (c14_1), 39, 2, ((packF l13_1).length), (packF l13_1).flatMap encR⟩], [⟨.slice (A13_1) ((l13_1).length) (c13_1), 9, 1, ((l13_1).length), (l13_1).map S⟩]] := Mem.call (Ma := []) hM3_1 hR4_1 rfl
    have hpl := packF_len l13_1
    refine O.val (v := .slice (A14_1) ((packF l13_1).length) (c14_1)) rfl (Ru.assign rfl) rfl ?_
    refine O.nil ?_
    refine C.seq ?_
    refine C.seq ?_
    refine C.region ?_
    refine O.val (v := .slice (A14_1) ((packF l13_1).length) (c14_1)) rfl (Ru.move rfl) rfl ?_
    refine O.val (v := .slice (A13_1) ((l13_1).length) (c13_1)) rfl (Ru.move rfl) rfl ?_
    refine O.callg [.slice (A13_1) ((l13_1).length) (c13_1)] rfl en34 rfl rfl (vSPackWords_fn A13_1 c13_1 l13_1 w4_1 (hM4_1.rd 1 rfl) (by omega) (by intro s hs; have := hs3_1 s hs; omega)) ?_
    rintro _ w5_2 ⟨A15_2, c15_2, rfl, hR5_2⟩
    have hM5_2 : Mem w w5_2 [] [[⟨.slice (A15_2) ((packF l13_1).length) (c15_2), 39, 2, ((packF l13_1).length), (packF l13_1).flatMap encR⟩], [⟨.slice (A14_1) ((packF l13_1).length) (c14_1), 39, 2, ((packF l13_1).length), (packF l13_1).flatMap encR⟩], [⟨.slice (A13_1) ((l13_1).length) (c13_1), 9, 1, ((l13_1).length), (l13_1).map S⟩]] := Mem.call (Ma := []) hM4_1 hR5_2 rfl
    refine O.callg [.slice (A14_1) ((packF l13_1).length) (c14_1), .slice (A15_2) ((packF l13_1).length) (c15_2)] rfl en33 rfl rfl (vequalRests_fn A14_1 c14_1 (packF l13_1) A15_2 c15_2 (packF l13_1) w5_2 (hM5_2.rd 1 rfl) (hM5_2.rd 0 rfl) (by first | omega | assumption | (simp; omega) | simp | (intros; omega))) ?_
    rintro _ w5_3 ⟨hv5_3, hR5_3⟩
    obtain rfl : _ = Value.bool true := hv5_3.trans (by simp)
    have hM5_3 : Mem w w5_3 [] [[⟨.slice (A15_2) ((packF l13_1).length) (c15_2), 39, 2, ((packF l13_1).length), (packF l13_1).flatMap encR⟩], [⟨.slice (A14_1) ((packF l13_1).length) (c14_1), 39, 2, ((packF l13_1).length), (packF l13_1).flatMap encR⟩], [⟨.slice (A13_1) ((l13_1).length) (c13_1), 9, 1, ((l13_1).length), (l13_1).map S⟩]] := Mem.call (Ma := []) hM5_2 hR5_3 rfl
    refine O.val (v := .bool (false)) rfl (Ru.not (b := true) rfl) rfl ?_
    refine O.val (v := .bool (false)) rfl (Ru.move rfl) rfl ?_
    refine O.val (v := .slice (A13_1) ((l13_1).length) (c13_1)) rfl (Ru.move rfl) rfl ?_
    refine O.callg [.slice (A13_1) ((l13_1).length) (c13_1)] rfl en25 rfl rfl (vValidWords_fn A13_1 c13_1 l13_1 w5_3 (hM5_3.rd 2 rfl) (by omega) (by intro s hs; have := hs3_1 s hs; omega)) ?_
    rintro _ w5_7 ⟨rfl, hR5_7⟩
    have hM5_7 : Mem w w5_7 [] [[⟨.slice (A15_2) ((packF l13_1).length) (c15_2), 39, 2, ((packF l13_1).length), (packF l13_1).flatMap encR⟩], [⟨.slice (A14_1) ((packF l13_1).length) (c14_1), 39, 2, ((packF l13_1).length), (packF l13_1).flatMap encR⟩], [⟨.slice (A13_1) ((l13_1).length) (c13_1), 9, 1, ((l13_1).length), (l13_1).map S⟩]] := Mem.call (Ma := []) hM5_3 hR5_7 rfl
    refine O.val (v := .bool (!(validW l13_1))) rfl (Ru.not rfl) rfl ?_
    refine O.val (v := .bool (!(validW l13_1))) rfl (Ru.pickF rfl rfl) rfl ?_
    refine O.nil ?_
    refine C.condn (b := (validW l13_1)) rfl (fun c23 => ?_) (fun c23 => ?_)
    · refine C.seq ?_
      refine C.region ?_
      refine O.val (v := .slice (A14_1) ((packF l13_1).length) (c14_1)) rfl (Ru.move rfl) rfl ?_
      refine O.val (v := .slice (A13_1) ((l13_1).length) (c13_1)) rfl (Ru.move rfl) rfl ?_
      refine O.callg [.slice (A13_1) ((l13_1).length) (c13_1)] rfl en34 rfl rfl (vSPackWords_fn A13_1 c13_1 l13_1 w5_7 (hM5_7.rd 2 rfl) (by omega) (by intro s hs; have := hs3_1 s hs; omega)) ?_
      rintro _ w6_2 ⟨A16_2, c16_2, rfl, hR6_2⟩
      have hM6_2 : Mem w w6_2 [] [[⟨.slice (A16_2) ((packF l13_1).length) (c16_2), 39, 2, ((packF l13_1).length), (packF l13_1).flatMap encR⟩], [⟨.slice (A15_2) ((packF l13_1).length) (c15_2), 39, 2, ((packF l13_1).length), (packF l13_1).flatMap encR⟩], [⟨.slice (A14_1) ((packF l13_1).length) (c14_1), 39, 2, ((packF l13_1).length), (packF l13_1).flatMap encR⟩], [⟨.slice (A13_1) ((l13_1).length) (c13_1), 9, 1, ((l13_1).length), (l13_1).map S⟩]] := Mem.call (Ma := []) hM5_7 hR6_2 rfl
      refine O.callg [.slice (A14_1) ((packF l13_1).length) (c14_1), .slice (A16_2) ((packF l13_1).length) (c16_2)] rfl en33 rfl rfl (vequalRests_fn A14_1 c14_1 (packF l13_1) A16_2 c16_2 (packF l13_1) w6_2 (hM6_2.rd 2 rfl) (hM6_2.rd 0 rfl) (by first | omega | assumption | (simp; omega) | simp | (intros; omega))) ?_
      rintro _ w6_3 ⟨hv6_3, hR6_3⟩
      obtain rfl : _ = Value.bool true := hv6_3.trans (by simp)
      have hM6_3 : Mem w w6_3 [] [[⟨.slice (A16_2) ((packF l13_1).length) (c16_2), 39, 2, ((packF l13_1).length), (packF l13_1).flatMap encR⟩], [⟨.slice (A15_2) ((packF l13_1).length) (c15_2), 39, 2, ((packF l13_1).length), (packF l13_1).flatMap encR⟩], [⟨.slice (A14_1) ((packF l13_1).length) (c14_1), 39, 2, ((packF l13_1).length), (packF l13_1).flatMap encR⟩], [⟨.slice (A13_1) ((l13_1).length) (c13_1), 9, 1, ((l13_1).length), (l13_1).map S⟩]] := Mem.call (Ma := []) hM6_2 hR6_3 rfl
      refine O.val (v := .bool (true)) rfl (Ru.assign rfl) rfl ?_
      refine O.nil ?_
      refine C.ret ?_
      refine P1 (v := .bool (true)) rfl ?_
      exact ⟨rfl, (Mem.none hM6_3)⟩
    · have hv : validW l13_1 = true := by simp_all
      have hup := unp_pack hv
      have hlen := packF_length hv
      have hpt := packF_tail hs3_1
      refine C.skip ?_
      refine C.seq ?_
      refine C.region ?_
      refine O.val (v := .slice (A14_1) ((packF l13_1).length) (c14_1)) rfl (Ru.move rfl) rfl ?_
      refine O.callg [.slice (A14_1) ((packF l13_1).length) (c14_1)] rfl en40 rfl rfl (vUnpackWords_fn A14_1 c14_1 (packF l13_1) w5_7 (hM5_7.rd 1 rfl) (by omega) (by intro r hr; have := hpt r hr; omega)) ?_
      rintro _ w7_1 ⟨A17_1, c17_1, rfl, hR7_1⟩
      have hM7_1 : Mem w w7_1 [] [[⟨.slice (A17_1) (((unpF (packF l13_1)).getD []).length) (c17_1), 9, 1, (((unpF (packF l13_1)).getD []).length), ((unpF (packF l13_1)).getD []).map S⟩], [⟨.slice (A15_2) ((packF l13_1).length) (c15_2), 39, 2, ((packF l13_1).length), (packF l13_1).flatMap encR⟩], [⟨.slice (A14_1) ((packF l13_1).length) (c14_1), 39, 2, ((packF l13_1).length), (packF l13_1).flatMap encR⟩], [⟨.slice (A13_1) ((l13_1).length) (c13_1), 9, 1, ((l13_1).length), (l13_1).map S⟩]] := Mem.call (Ma := []) hM5_7 hR7_1 rfl
      refine O.val (v := .tuple #[.slice (A17_1) (((unpF (packF l13_1)).getD []).length) (c17_1), .bool ((unpF (packF l13_1)).isSome)]) rfl (Ru.move rfl) rfl ?_
      refine O.val (v := .slice (A17_1) (((unpF (packF l13_1)).getD []).length) (c17_1)) rfl (Ru.extract rfl rfl) rfl ?_
      refine O.val (v := .bool ((unpF (packF l13_1)).isSome)) rfl (Ru.extract rfl rfl) rfl ?_
      refine O.val (v := .slice (A17_1) (((unpF (packF l13_1)).getD []).length) (c17_1)) rfl (Ru.assign rfl) rfl ?_
      refine O.val (v := .bool ((unpF (packF l13_1)).isSome)) rfl (Ru.assign rfl) rfl ?_
      refine O.nil ?_
      refine C.seq ?_
      refine C.region ?_
      refine O.val (v := .bool ((unpF (packF l13_1)).isSome)) rfl (Ru.move rfl) rfl ?_
      refine O.val (v := .bool ((unpF (packF l13_1)).isSome)) rfl (Ru.move rfl) rfl ?_
      refine O.part 34 ((unpF (packF l13_1)).isSome) rfl (fun g34 => ?_) (fun g34 => ?_)
      · refine O.val (v := .slice (A17_1) (((unpF (packF l13_1)).getD []).length) (c17_1)) rfl (Ru.move rfl) rfl ?_
        refine O.val (v := .slice (A13_1) ((l13_1).length) (c13_1)) rfl (Ru.move rfl) rfl ?_
        refine O.callg [.slice (A17_1) (((unpF (packF l13_1)).getD []).length) (c17_1), .slice (A13_1) ((l13_1).length) (c13_1)] rfl en41 rfl rfl (vequalWords_fn A17_1 c17_1 ((unpF (packF l13_1)).getD []) A13_1 c13_1 l13_1 w7_1 (hM7_1.rd 0 rfl) (hM7_1.rd 3 rfl) (by rw [hup]; simp; omega)) ?_
        rintro _ w8_4 ⟨rfl, hR8_4⟩
        have hM8_4 : Mem w w8_4 [] [[⟨.slice (A17_1) (((unpF (packF l13_1)).getD []).length) (c17_1), 9, 1, (((unpF (packF l13_1)).getD []).length), ((unpF (packF l13_1)).getD []).map S⟩], [⟨.slice (A15_2) ((packF l13_1).length) (c15_2), 39, 2, ((packF l13_1).length), (packF l13_1).flatMap encR⟩], [⟨.slice (A14_1) ((packF l13_1).length) (c14_1), 39, 2, ((packF l13_1).length), (packF l13_1).flatMap encR⟩], [⟨.slice (A13_1) ((l13_1).length) (c13_1), 9, 1, ((l13_1).length), (l13_1).map S⟩]] := Mem.call (Ma := []) hM7_1 hR8_4 rfl
        refine O.val (v := .bool (decide (((unpF (packF l13_1)).getD []) = l13_1))) rfl (Ru.pickT rfl rfl) rfl ?_
        refine O.val (v := .bool (decide (((unpF (packF l13_1)).getD []) = l13_1))) rfl (Ru.move rfl) rfl ?_
        refine O.part 39 (decide (((unpF (packF l13_1)).getD []) = l13_1)) rfl (fun g39 => ?_) (fun g39 => ?_)
        · refine O.val (v := .slice (A14_1) ((packF l13_1).length) (c14_1)) rfl (Ru.move rfl) rfl ?_
          refine O.val (v := I ((((packF l13_1).length : Nat) : Int))) rfl (Ru.blenSlice Try.underlying35 rfl) rfl ?_
          refine O.val (v := .slice (A13_1) ((l13_1).length) (c13_1)) rfl (Ru.move rfl) rfl ?_
          refine O.val (v := I ((((l13_1).length : Nat) : Int))) rfl (Ru.blenSlice Try.underlying24 rfl) rfl ?_
          refine O.val (v := .bool (decide ((((packF l13_1).length : Nat) : Int) = (((l13_1).length : Nat) : Int)))) rfl (Ru.eql rfl rfl) rfl ?_
          refine O.val (v := .bool (decide ((((packF l13_1).length : Nat) : Int) = (((l13_1).length : Nat) : Int)))) rfl (Ru.pickT rfl rfl) rfl ?_
          refine O.val (v := .bool (decide ((((packF l13_1).length : Nat) : Int) = (((l13_1).length : Nat) : Int)))) rfl (Ru.assign rfl) rfl ?_
          refine O.nil ?_
          refine C.ret ?_
          refine P1 (v := .bool (decide ((((packF l13_1).length : Nat) : Int) = (((l13_1).length : Nat) : Int)))) rfl ?_
          exact ⟨(by first | rfl | (rw [hup] at *; simp_all)), (Mem.none hM8_4)⟩
        · refine O.pass rfl rfl rfl rfl rfl ?_
          refine O.pass rfl rfl rfl rfl rfl ?_
          refine O.pass rfl rfl rfl rfl rfl ?_
          refine O.pass rfl rfl rfl rfl rfl ?_
          refine O.pass rfl rfl rfl rfl rfl ?_
          refine O.val (v := .bool (false)) rfl (Ru.pickF rfl rfl) rfl ?_
          refine O.val (v := .bool (false)) rfl (Ru.assign rfl) rfl ?_
          refine O.nil ?_
          refine C.ret ?_
          refine P1 (v := .bool (false)) rfl ?_
          exact ⟨(by first | rfl | (rw [hup] at *; simp_all)), (Mem.none hM8_4)⟩
      · refine O.pass rfl rfl rfl rfl rfl ?_
        refine O.pass rfl rfl rfl rfl rfl ?_
        refine O.pass rfl rfl rfl rfl rfl ?_
        refine O.val (v := .bool (false)) rfl (Ru.pickF rfl rfl) rfl ?_
        refine O.val (v := .bool (false)) rfl (Ru.move rfl) rfl ?_
        refine O.pass rfl rfl rfl rfl rfl ?_
        refine O.pass rfl rfl rfl rfl rfl ?_
        refine O.pass rfl rfl rfl rfl rfl ?_
        refine O.pass rfl rfl rfl rfl rfl ?_
        refine O.pass rfl rfl rfl rfl rfl ?_
        refine O.val (v := .bool (false)) rfl (Ru.pickF rfl rfl) rfl ?_
        refine O.val (v := .bool (false)) rfl (Ru.assign rfl) rfl ?_
        refine O.nil ?_
        refine C.ret ?_
        refine P1 (v := .bool (false)) rfl ?_
        exact ⟨(by first | rfl | (rw [hup] at *; simp_all)), (Mem.none hM7_1)⟩
end Go.Proofs.Ytekfncmhinbghaa.V
namespace Go.Proofs.Ytekfncmhinbghaa.fnPackWords
open Go.ChangeShapes Go.WideShapes Go.ChangeAt Go.RowKit Go.Px
open Go.ChangeMaps (open_string shut_string)
set_option linter.unusedVariables false

theorem own : ownKnob Try.prog.godebug = none := by kernel_rfl
theorem laidOut : laidOutB Try.prog = true := by kernel_rfl

set_option maxRecDepth 100000 in
theorem lifted (os : Os) (started : os.Started) (H : Type) (enc : TypeId × Value → H) :
    ReturnsInHanded {} Try.checked os 16 .any (Rows.fnPackWordsSpec.pre6 enc Try.prog Try.f16 Rows.fnPackWordsRow.domain false) (Rows.fnPackWordsSpec.post enc Try.prog Try.f16 false true false false) := by
  refine returnsInHanded_of_change (C := Try.checked) own started (by kernel_rfl) Try.func16
    (ChangeSpec.witness6 (enc := enc) (C := Try.checked) false ⟨#[], #[.slice none 0 0], []⟩ 8 (by kernel_rfl) (by kernel_rfl) (by kernel_rfl) (by kernel_rfl)) ?_
  intro W base args ds gs before hval0 hW hcnd _
  have hval : ∀ (j : Nat) t v, Try.f16.params[j]? = some t → args[j]? = some v → Value.okWide Try.prog W .any base t v := hval0
  have hW' := hW
  obtain ⟨p, q, hA0, hV, rfl, hfz, hnd⟩ := hW
  have hA : DataW.TrodAll enc Try.prog W 0 (fun _ => true) true Try.f16.params.toList args.toList ds p := hA0
  rw [Try.params16] at hA hval
  obtain ⟨v0, vs0, d0, ds0, p0, q0, hargs, rfl, rfl, h0, r0⟩ := trodAll_cons hA
  obtain ⟨rfl, rfl, rfl⟩ := trodAll_nil r0
  obtain rfl : args = #[v0] := by cases args; simp_all
  obtain ⟨rfl, rfl⟩ := trodVars_none hV
  have k0 := h0
  have lt0 : ∀ x ∈ p0, x.block < W.heap.size := by obtain ⟨m, hm⟩ := k0; exact DataW.trod_lt m _ _ _ hm
  obtain ⟨a0, len0, cap0, rfl⟩ := okWide_slice Try.underlying29 (hval 0 29 v0 rfl rfl)
  have kk0 := k0
  obtain ⟨fuel0, hf0⟩ := kk0
  obtain ⟨z0, rfl, hz0, hc0, hw0, hRd0⟩ := slice_in (α := UInt8) (f := fun a : UInt8 => [byteV a]) (c := 1) Try.underlying29 (by kernel_rfl) (fun _ => rfl) (byte_el Try.underlying5) hf0
  rw [flat_one] at hRd0
  clear hA0 hval0
  refine (V.FnPackWords_fn a0 cap0 z0 W hRd0 hz0 hc0).out.mono fun e W' ⟨v, he, hv, hg⟩ => ?_
  subst he hv
  have bel : Below W.heap.size W W' := ⟨hg.os, hg.tape, hg.output, hg.size, fun k hk => hg.block k hk (by simp)⟩
  exact ⟨_, rfl, _, _, _, [], _, [], hW', trodAll_mk1 (shut_bool Try.underlying4 _), (trodAll_cons_mk (Below.trod laidOut (by kernel_rfl) (of_decide_eq_true (by kernel_rfl)) k0 bel lt0) trodAll_mk0), rfl, bel.frame _, fun h => by cases h⟩

theorem named_ : Try.prog.funcNamed Rows.fnPackWordsRow.func = some 16 := by kernel_rfl
theorem closed : joinedFacts Try.prog 16 Try.f16 Rows.fnPackWordsSpec Rows.fnPackWordsRow = true := by
  unfold joinedFacts
  rw [enter_, lifts_, made_]
  kernel_rfl
theorem inst_ : Try.f16.isInstance Try.prog Rows.fnPackWordsRow.origin Rows.fnPackWordsRow.targs := of_decide_eq_true (by kernel_rfl)
theorem wrap_ : Try.f16.isWrapper Try.prog Rows.fnPackWordsRow.wrapper Rows.fnPackWordsRow.mainSum := by
  unfold Func.isWrapper
  rw [if_neg (by decide +kernel)]
  exact ⟨rfl, rfl⟩
theorem over : Rows.fnPackWordsRow.holds Try.pinned (OpenSpec.ofChange Rows.fnPackWordsSpec) :=
  OpenClaim.holds_of_wide 16 Try.f16 rfl rfl rfl rfl rfl rfl rfl ⟨rfl, rfl, rfl, rfl, rfl⟩ rfl rfl rfl rfl rfl named_ Try.func16 closed inst_ wrap_
    (fun os started H enc _ => lifted os started H enc)
theorem proved : Rows.FnPackWordsSaid := over
end Go.Proofs.Ytekfncmhinbghaa.fnPackWords
