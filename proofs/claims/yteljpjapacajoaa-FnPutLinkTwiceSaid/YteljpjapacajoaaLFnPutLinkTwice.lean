/- The statement Rows.FnPutLinkTwiceSaid: the Go function laws.FnPutLinkTwice returns true for every input, and each argument reads afterwards as it read before. No conditions. -/
import Derived.Test.YteljpjapacajoaaRows
import Derived.Test.YteljpjapacajoaaPxO
import Derived.Test.YteljpjapacajoaaDZ
import Derived.Test.YteljpjapacajoaaH0
import Derived.WalkKit
import Derived.ProofKit
import Derived.OpenShut
import Derived.ShutString
import Derived.ChangeOld
import Derived.SliceStrings
import Derived.Deep.Slices
import Derived.Deep.Fields
import Derived.ChangeSame
import Derived.Below
set_option linter.unusedVariables false
set_option linter.unusedSimpArgs false
namespace Go.Proofs.Yteljpjapacajoaa
open Go.Px
set_option linter.unusedVariables false
theorem FnPutLinkTwice_fn (A : Option Addr) (c : Nat) (l : List UInt8) (w : World) (hA : Rd w A ((l).map byteV)) (hl : l.length ≤ 9223372036854775807) (hc : l.length ≤ c) :
    Does Try.prog 13 [.slice (A) ((l).length) (c)] w (fun v w1 => v = .bool (true) ∧ Mem w w1 [] []) := by
  have hM : Mem w w [] [] := Mem.refl
  refine Does.enter1 Try.func13 rfl Try.results13 Try.ntmps13 rfl ?_
  refine C.seq ?_
  refine C.region ?_
  refine O.val (v := .bool (false)) rfl (Ru.assign rfl) rfl ?_
  refine O.nil ?_
  refine C.seq ?_
  refine C.seq ?_
  refine C.region ?_
  refine O.val (v := .slice (A) ((l).length) (c)) rfl (Ru.move rfl) rfl ?_
  refine O.val (v := I ((((l).length : Nat) : Int))) rfl (Ru.blenSlice Try.underlying22 rfl) rfl ?_
  refine O.val (v := .bool (decide ((((l).length : Nat) : Int) > 1048576))) rfl (Ru.gtr rfl rfl) rfl ?_
  refine O.nil ?_
  refine C.cond (p := (((l).length : Nat) : Int) > 1048576) rfl (fun c13 => ?_) (fun c13 => ?_)
  · refine C.seq ?_
    refine C.region ?_
    refine O.val (v := .bool (true)) rfl (Ru.assign rfl) rfl ?_
    refine O.nil ?_
    refine C.ret ?_
    refine P1 (v := .bool (true)) rfl ?_
    exact ⟨rfl, (Mem.none hM)⟩
  · refine C.skip ?_
    refine C.seq ?_
    refine C.region ?_
    refine O.val (v := .slice (A) ((l).length) (c)) rfl (Ru.move rfl) rfl ?_
    refine O.callg [.slice (A) ((l).length) (c)] rfl en38 rfl rfl (DrawPutLink_fn A c l w (hA.at hM) (by first | omega | assumption | (simp; omega) | simp | (intros; omega)) (by first | omega | assumption | (simp; omega) | simp | (intros; omega))) ?_
    rintro _ w3_1 ⟨l13_1, A13_1, c13_1, G3_1, k13_1, rfl, hl3_1, hk3_1, hG3_1, hcp3_1, hR3_1⟩
    have hM3_1 : Mem w w3_1 [] [[⟨.slice (A13_1) ((l13_1).length) (c13_1), 28, 3, ((l13_1).length), (l13_1).flatMap encL⟩], G3_1] := Mem.call (Ma := []) hM hR3_1 rfl
    have hcr3_1_0 := (hM3_1.cap 0 rfl).1
    refine O.val (v := .tuple #[.slice (A13_1) ((l13_1).length) (c13_1), I (k13_1)]) rfl (Ru.move rfl) rfl ?_
    refine O.val (v := .slice (A13_1) ((l13_1).length) (c13_1)) rfl (Ru.extract rfl rfl) rfl ?_
    refine O.val (v := I (k13_1)) rfl (Ru.extract rfl rfl) rfl ?_
    refine O.val (v := .slice (A13_1) ((l13_1).length) (c13_1)) rfl (Ru.assign rfl) rfl ?_
    refine O.val (v := I (k13_1)) rfl (Ru.assign rfl) rfl ?_
    refine O.nil ?_
    refine C.seq ?_
    refine C.region ?_
    refine O.val (v := .slice (A13_1) ((l13_1).length) (c13_1)) rfl (Ru.move rfl) rfl ?_
    refine O.val (v := I (k13_1)) rfl (Ru.move rfl) rfl ?_
    refine O.callg [.slice (A13_1) ((l13_1).length) (c13_1), I (k13_1)] rfl en39 rfl rfl (PutLink_fn A13_1 c13_1 l13_1 k13_1 w3_1 (hM3_1.rd 0 rfl) (hG3_1 _ (Mem.gown hM3_1 1 rfl)) (by omega)) ?_
    rintro _ w4_2 ⟨L14_2, A14_2, c14_2, rfl, hts4_2, hR4_2⟩
    have hM4_2 : Mem w w4_2 [] [[⟨.slice (A14_2) ((L14_2).length) (c14_2), 28, 3, ((L14_2).length), (L14_2).flatMap encL⟩], (L14_2).map (keyF 3), [⟨.slice (A13_1) ((l13_1).length) (c13_1), 28, 3, ((l13_1).length), (l13_1).flatMap encL⟩], G3_1] := Mem.call (Ma := []) hM3_1 hR4_2 rfl
    have hcr4_2_0 := (hM4_2.cap 0 rfl).1
    have hL4 : L14_2.length ≤ 17 := by have h8 := congrArg List.length hts4_2; have h9 := putF_len (l := tsL l13_1) (key := k13_1); simp only [List.length_map] at h8; omega
    have hK4 : ∀ x ∈ L14_2, x.t.keys.length ≤ 100 := keys_le hts4_2 putF_keys4
    refine O.val (v := .tuple #[.slice (A14_2) ((L14_2).length) (c14_2), .bool ((putF (tsL l13_1) k13_1).isSome)]) rfl (Ru.move rfl) rfl ?_
    refine O.val (v := .slice (A14_2) ((L14_2).length) (c14_2)) rfl (Ru.extract rfl rfl) rfl ?_
    refine O.val (v := .bool ((putF (tsL l13_1) k13_1).isSome)) rfl (Ru.extract rfl rfl) rfl ?_
    refine O.val (v := .slice (A14_2) ((L14_2).length) (c14_2)) rfl (Ru.assign rfl) rfl ?_
    refine O.val (v := .bool ((putF (tsL l13_1) k13_1).isSome)) rfl (Ru.assign rfl) rfl ?_
    refine O.nil ?_
    refine C.seq ?_
    refine C.region ?_
    refine O.val (v := .slice (A13_1) ((l13_1).length) (c13_1)) rfl (Ru.move rfl) rfl ?_
    refine O.val (v := I (k13_1)) rfl (Ru.move rfl) rfl ?_
    refine O.callg [.slice (A13_1) ((l13_1).length) (c13_1), I (k13_1)] rfl en40 rfl rfl (sPutLink_fn A13_1 c13_1 l13_1 k13_1 w4_2 (hM4_2.rd 2 rfl) (hG3_1 _ (Mem.gown hM4_2 3 rfl)) (by omega)) ?_
    rintro _ w5_2 ⟨L15_2, A15_2, c15_2, rfl, hts5_2, hR5_2⟩
    have hM5_2 : Mem w w5_2 [] [[⟨.slice (A15_2) ((L15_2).length) (c15_2), 28, 3, ((L15_2).length), (L15_2).flatMap encL⟩], (L15_2).map (keyF 3), [⟨.slice (A14_2) ((L14_2).length) (c14_2), 28, 3, ((L14_2).length), (L14_2).flatMap encL⟩], (L14_2).map (keyF 3), [⟨.slice (A13_1) ((l13_1).length) (c13_1), 28, 3, ((l13_1).length), (l13_1).flatMap encL⟩], G3_1] := Mem.call (Ma := []) hM4_2 hR5_2 rfl
    have hcr5_2_0 := (hM5_2.cap 0 rfl).1
    refine O.val (v := .tuple #[.slice (A15_2) ((L15_2).length) (c15_2), .bool ((putF (tsL l13_1) k13_1).isSome)]) rfl (Ru.move rfl) rfl ?_
    refine O.val (v := .slice (A15_2) ((L15_2).length) (c15_2)) rfl (Ru.extract rfl rfl) rfl ?_
    refine O.val (v := .bool ((putF (tsL l13_1) k13_1).isSome)) rfl (Ru.extract rfl rfl) rfl ?_
    refine O.val (v := .slice (A15_2) ((L15_2).length) (c15_2)) rfl (Ru.assign rfl) rfl ?_
    refine O.val (v := .bool ((putF (tsL l13_1) k13_1).isSome)) rfl (Ru.assign rfl) rfl ?_
    refine O.nil ?_
    refine C.seq ?_
    refine C.seq ?_
    refine C.region ?_
    refine O.val (v := .slice (A14_2) ((L14_2).length) (c14_2)) rfl (Ru.move rfl) rfl ?_
    refine O.val (v := .slice (A15_2) ((L15_2).length) (c15_2)) rfl (Ru.move rfl) rfl ?_
    refine O.callg [.slice (A14_2) ((L14_2).length) (c14_2), .slice (A15_2) ((L15_2).length) (c15_2)] rfl en37 rfl rfl (equalChains_fn A14_2 c14_2 L14_2 A15_2 c15_2 L15_2 w5_2 (hM5_2.rd 2 rfl) (Nst.mem hM5_2 3 rfl) (hM5_2.rd 0 rfl) (Nst.mem hM5_2 1 rfl) (by omega) (by intro x hx; have := hK4 x hx; omega)) ?_
    rintro _ w6_2 ⟨hv6_2, hR6_2⟩
    obtain rfl : _ = .bool (true) := hv6_2.trans (congrArg Value.bool (decide_eq_true (by rw [hts4_2, hts5_2])))
    have hM6_2 : Mem w w6_2 [] [[⟨.slice (A15_2) ((L15_2).length) (c15_2), 28, 3, ((L15_2).length), (L15_2).flatMap encL⟩], (L15_2).map (keyF 3), [⟨.slice (A14_2) ((L14_2).length) (c14_2), 28, 3, ((L14_2).length), (L14_2).flatMap encL⟩], (L14_2).map (keyF 3), [⟨.slice (A13_1) ((l13_1).length) (c13_1), 28, 3, ((l13_1).length), (l13_1).flatMap encL⟩], G3_1] := Mem.call (Ma := []) hM5_2 hR6_2 rfl
    refine O.val (v := .bool (false)) rfl (Ru.not (b := true) rfl) rfl ?_
    refine O.val (v := .bool (false)) rfl (Ru.move rfl) rfl ?_
    refine O.val (v := .bool ((putF (tsL l13_1) k13_1).isSome)) rfl (Ru.move rfl) rfl ?_
    refine O.val (v := .bool ((putF (tsL l13_1) k13_1).isSome)) rfl (Ru.move rfl) rfl ?_
    refine O.val (v := .bool (false)) rfl (Ru.congr (v := .bool (decide ((putF (tsL l13_1) k13_1).isSome ≠ (putF (tsL l13_1) k13_1).isSome))) (v' := .bool (false)) (Ru.bneq Try.underlying4 rfl rfl) ((congrArg Value.bool (decide_eq_false (by simp))))) rfl ?_
    refine O.val (v := .bool (false)) rfl (Ru.pickF rfl rfl) rfl ?_
    refine O.val (v := .bool (false)) rfl (Ru.move rfl) rfl ?_
    refine O.val (v := .bool ((putF (tsL l13_1) k13_1).isSome)) rfl (Ru.move rfl) rfl ?_
    refine O.val (v := .bool (!((putF (tsL l13_1) k13_1).isSome))) rfl (Ru.not rfl) rfl ?_
    refine O.val (v := .bool (!((putF (tsL l13_1) k13_1).isSome))) rfl (Ru.pickF rfl rfl) rfl ?_
    refine O.nil ?_
    refine C.condn (b := ((putF (tsL l13_1) k13_1).isSome)) rfl (fun c43 => ?_) (fun c43 => ?_)
    · refine C.seq ?_
      refine C.region ?_
      refine O.val (v := .slice (A14_2) ((L14_2).length) (c14_2)) rfl (Ru.move rfl) rfl ?_
      refine O.val (v := .slice (A15_2) ((L15_2).length) (c15_2)) rfl (Ru.move rfl) rfl ?_
      refine O.callg [.slice (A14_2) ((L14_2).length) (c14_2), .slice (A15_2) ((L15_2).length) (c15_2)] rfl en37 rfl rfl (equalChains_fn A14_2 c14_2 L14_2 A15_2 c15_2 L15_2 w6_2 (hM6_2.rd 2 rfl) (Nst.mem hM6_2 3 rfl) (hM6_2.rd 0 rfl) (Nst.mem hM6_2 1 rfl) (by omega) (by intro x hx; have := hK4 x hx; omega)) ?_
      rintro _ w7_2 ⟨hv7_2, hR7_2⟩
      obtain rfl : _ = .bool (true) := hv7_2.trans (congrArg Value.bool (decide_eq_true (by rw [hts4_2, hts5_2])))
      have hM7_2 : Mem w w7_2 [] [[⟨.slice (A15_2) ((L15_2).length) (c15_2), 28, 3, ((L15_2).length), (L15_2).flatMap encL⟩], (L15_2).map (keyF 3), [⟨.slice (A14_2) ((L14_2).length) (c14_2), 28, 3, ((L14_2).length), (L14_2).flatMap encL⟩], (L14_2).map (keyF 3), [⟨.slice (A13_1) ((l13_1).length) (c13_1), 28, 3, ((l13_1).length), (l13_1).flatMap encL⟩], G3_1] := Mem.call (Ma := []) hM6_2 hR7_2 rfl
      refine O.val (v := .bool (true)) rfl (Ru.move rfl) rfl ?_
      refine O.val (v := .bool ((putF (tsL l13_1) k13_1).isSome)) rfl (Ru.move rfl) rfl ?_
      refine O.val (v := .bool ((putF (tsL l13_1) k13_1).isSome)) rfl (Ru.move rfl) rfl ?_
      refine O.val (v := .bool (true)) rfl (Ru.congr (v := .bool (decide ((putF (tsL l13_1) k13_1).isSome = (putF (tsL l13_1) k13_1).isSome))) (v' := .bool (true)) (Ru.beql Try.underlying4 rfl rfl) ((congrArg Value.bool (decide_eq_true rfl)))) rfl ?_
      refine O.val (v := .bool (true)) rfl (Ru.pickT rfl rfl) rfl ?_
      refine O.val (v := .bool (true)) rfl (Ru.assign rfl) rfl ?_
      refine O.nil ?_
      refine C.ret ?_
      refine P1 (v := .bool (true)) rfl ?_
      exact ⟨rfl, (Mem.none hM7_2)⟩
    · obtain ⟨l9, hp9⟩ := put_get (l := tsL l13_1) (key := k13_1) (by simp_all)
      have hL5 : tsL L14_2 = l9 := by rw [hts4_2, hp9, Option.getD_some]
      rw [← hL5] at hp9
      obtain ⟨hky, hv, hvo, hin1, hni1, hfk, hln⟩ := put_ok hp9
      have hp2 := put_twice hp9
      have hr := find_range (good0 hvo hky)
      simp only [List.length_map] at hr hln
      refine C.skip ?_
      refine C.seq ?_
      refine C.region ?_
      refine O.val (v := .slice (A14_2) ((L14_2).length) (c14_2)) rfl (Ru.move rfl) rfl ?_
      refine O.val (v := I (k13_1)) rfl (Ru.move rfl) rfl ?_
      refine O.callg [.slice (A14_2) ((L14_2).length) (c14_2), I (k13_1)] rfl en39 rfl rfl (PutLink_fn A14_2 c14_2 L14_2 k13_1 w6_2 (hM6_2.rd 2 rfl) (Nst.mem hM6_2 3 rfl) (by omega)) ?_
      rintro _ w8_2 ⟨L18_2, A18_2, c18_2, rfl, hts8_2, hR8_2⟩
      have hM8_2 : Mem w w8_2 [] [[⟨.slice (A18_2) ((L18_2).length) (c18_2), 28, 3, ((L18_2).length), (L18_2).flatMap encL⟩], (L18_2).map (keyF 3), [⟨.slice (A15_2) ((L15_2).length) (c15_2), 28, 3, ((L15_2).length), (L15_2).flatMap encL⟩], (L15_2).map (keyF 3), [⟨.slice (A14_2) ((L14_2).length) (c14_2), 28, 3, ((L14_2).length), (L14_2).flatMap encL⟩], (L14_2).map (keyF 3), [⟨.slice (A13_1) ((l13_1).length) (c13_1), 28, 3, ((l13_1).length), (l13_1).flatMap encL⟩], G3_1] := Mem.call (Ma := []) hM6_2 hR8_2 rfl
      have hcr8_2_0 := (hM8_2.cap 0 rfl).1
      refine O.val (v := .tuple #[.slice (A18_2) ((L18_2).length) (c18_2), .bool ((putF (tsL L14_2) k13_1).isSome)]) rfl (Ru.move rfl) rfl ?_
      refine O.val (v := .slice (A18_2) ((L18_2).length) (c18_2)) rfl (Ru.extract rfl rfl) rfl ?_
      refine O.val (v := .bool ((putF (tsL L14_2) k13_1).isSome)) rfl (Ru.extract rfl rfl) rfl ?_
      refine O.val (v := .slice (A18_2) ((L18_2).length) (c18_2)) rfl (Ru.assign rfl) rfl ?_
      refine O.val (v := .bool ((putF (tsL L14_2) k13_1).isSome)) rfl (Ru.assign rfl) rfl ?_
      refine O.nil ?_
      refine C.seq ?_
      refine C.region ?_
      refine O.val (v := .bool ((putF (tsL L14_2) k13_1).isSome)) rfl (Ru.move rfl) rfl ?_
      refine O.val (v := .bool ((putF (tsL L14_2) k13_1).isSome)) rfl (Ru.move rfl) rfl ?_
      refine O.part 59 ((putF (tsL L14_2) k13_1).isSome) rfl (fun g59 => ?_) (fun g59 => ?_)
      · refine O.val (v := .slice (A18_2) ((L18_2).length) (c18_2)) rfl (Ru.move rfl) rfl ?_
        refine O.val (v := .slice (A14_2) ((L14_2).length) (c14_2)) rfl (Ru.move rfl) rfl ?_
        refine O.callg [.slice (A18_2) ((L18_2).length) (c18_2), .slice (A14_2) ((L14_2).length) (c14_2)] rfl en37 rfl rfl (equalChains_fn A18_2 c18_2 L18_2 A14_2 c14_2 L14_2 w8_2 (hM8_2.rd 0 rfl) (Nst.mem hM8_2 1 rfl) (hM8_2.rd 4 rfl) (Nst.mem hM8_2 5 rfl) (by have h8 := congrArg List.length hts8_2; have h9 := putF_len (l := tsL L14_2) (key := k13_1); simp only [List.length_map] at h8; omega) (by intro x hx; have := keys_le hts8_2 putF_keys4 x hx; omega)) ?_
        rintro _ w9_4 ⟨hv9_4, hR9_4⟩
        obtain rfl : _ = .bool (true) := hv9_4.trans (congrArg Value.bool (decide_eq_true (by rw [hts8_2, hp2, Option.getD_some])))
        have hM9_4 : Mem w w9_4 [] [[⟨.slice (A18_2) ((L18_2).length) (c18_2), 28, 3, ((L18_2).length), (L18_2).flatMap encL⟩], (L18_2).map (keyF 3), [⟨.slice (A15_2) ((L15_2).length) (c15_2), 28, 3, ((L15_2).length), (L15_2).flatMap encL⟩], (L15_2).map (keyF 3), [⟨.slice (A14_2) ((L14_2).length) (c14_2), 28, 3, ((L14_2).length), (L14_2).flatMap encL⟩], (L14_2).map (keyF 3), [⟨.slice (A13_1) ((l13_1).length) (c13_1), 28, 3, ((l13_1).length), (l13_1).flatMap encL⟩], G3_1] := Mem.call (Ma := []) hM8_2 hR9_4 rfl
        refine O.val (v := .bool (true)) rfl (Ru.pickT rfl rfl) rfl ?_
        refine O.val (v := .bool (true)) rfl (Ru.assign rfl) rfl ?_
        refine O.nil ?_
        refine C.ret ?_
        refine P1 (v := .bool (true)) rfl ?_
        exact ⟨(by first | rfl | (rw [hp2]; rfl) | (exfalso; simp_all)), (Mem.none hM9_4)⟩
      · refine O.pass rfl rfl rfl rfl rfl ?_
        refine O.pass rfl rfl rfl rfl rfl ?_
        refine O.pass rfl rfl rfl rfl rfl ?_
        refine O.val (v := .bool (false)) rfl (Ru.pickF rfl rfl) rfl ?_
        refine O.val (v := .bool (false)) rfl (Ru.assign rfl) rfl ?_
        refine O.nil ?_
        refine C.ret ?_
        refine P1 (v := .bool (false)) rfl ?_
        exact ⟨(by first | rfl | (rw [hp2]; rfl) | (exfalso; simp_all)), (Mem.none hM8_2)⟩
end Go.Proofs.Yteljpjapacajoaa
namespace Go.Proofs.Yteljpjapacajoaa.fnPutLinkTwice
open Go.ChangeShapes Go.WideShapes Go.ChangeAt Go.RowKit Go.Px
open Go.ChangeMaps (open_string shut_string)
set_option linter.unusedVariables false

theorem own : ownKnob Try.prog.godebug = none := by kernel_rfl
theorem laidOut : laidOutB Try.prog = true := by kernel_rfl

set_option maxRecDepth 100000 in
theorem lifted (os : Os) (started : os.Started) (H : Type) (enc : TypeId × Value → H) :
    ReturnsInHanded {} Try.checked os 13 .any (Rows.fnPutLinkTwiceSpec.pre6 enc Try.prog Try.f13 Rows.fnPutLinkTwiceRow.domain false) (Rows.fnPutLinkTwiceSpec.post enc Try.prog Try.f13 false true false false) := by
  refine returnsInHanded_of_change (C := Try.checked) own started (by kernel_rfl) Try.func13
    (ChangeSpec.witness6 (enc := enc) (C := Try.checked) false ⟨#[], #[.slice none 0 0], []⟩ 8 (by kernel_rfl) (by kernel_rfl) (by kernel_rfl) (by kernel_rfl)) ?_
  intro W base args ds gs before hval0 hW hcnd _
  have hval : ∀ (j : Nat) t v, Try.f13.params[j]? = some t → args[j]? = some v → Value.okWide Try.prog W .any base t v := hval0
  have hW' := hW
  obtain ⟨p, q, hA0, hV, rfl, hfz, hnd⟩ := hW
  have hA : DataW.TrodAll enc Try.prog W 0 (fun _ => true) true Try.f13.params.toList args.toList ds p := hA0
  rw [Try.params13] at hA hval
  obtain ⟨v0, vs0, d0, ds0, p0, q0, hargs, rfl, rfl, h0, r0⟩ := trodAll_cons hA
  obtain ⟨rfl, rfl, rfl⟩ := trodAll_nil r0
  obtain rfl : args = #[v0] := by cases args; simp_all
  obtain ⟨rfl, rfl⟩ := trodVars_none hV
  have k0 := h0
  have lt0 : ∀ x ∈ p0, x.block < W.heap.size := by obtain ⟨m, hm⟩ := k0; exact DataW.trod_lt m _ _ _ hm
  obtain ⟨a0, len0, cap0, rfl⟩ := okWide_slice Try.underlying22 (hval 0 22 v0 rfl rfl)
  have kk0 := k0
  obtain ⟨fuel0, hf0⟩ := kk0
  obtain ⟨z0, rfl, hz0, hc0, hw0, hRd0⟩ := slice_in (α := UInt8) (f := fun a : UInt8 => [byteV a]) (c := 1) Try.underlying22 (by kernel_rfl) (fun _ => rfl) (byte_el Try.underlying5) hf0
  rw [flat_one] at hRd0
  clear hA0 hval0
  refine (FnPutLinkTwice_fn a0 cap0 z0 W hRd0 hz0 hc0).out.mono fun e W' ⟨v, he, hv, hg⟩ => ?_
  subst he hv
  have bel : Below W.heap.size W W' := ⟨hg.os, hg.tape, hg.output, hg.size, fun k hk => hg.block k hk (by simp)⟩
  exact ⟨_, rfl, _, _, _, [], _, [], hW', trodAll_mk1 (shut_bool Try.underlying4 _), (trodAll_cons_mk (Below.trod laidOut (by kernel_rfl) (of_decide_eq_true (by kernel_rfl)) k0 bel lt0) trodAll_mk0), rfl, bel.frame _, fun h => by cases h⟩

theorem named_ : Try.prog.funcNamed Rows.fnPutLinkTwiceRow.func = some 13 := by kernel_rfl
theorem closed : joinedFacts Try.prog 13 Try.f13 Rows.fnPutLinkTwiceSpec Rows.fnPutLinkTwiceRow = true := by
  unfold joinedFacts
  rw [enter_, lifts_, made_]
  kernel_rfl
theorem inst_ : Try.f13.isInstance Try.prog Rows.fnPutLinkTwiceRow.origin Rows.fnPutLinkTwiceRow.targs := of_decide_eq_true (by kernel_rfl)
theorem wrap_ : Try.f13.isWrapper Try.prog Rows.fnPutLinkTwiceRow.wrapper Rows.fnPutLinkTwiceRow.mainSum := by
  unfold Func.isWrapper
  rw [if_neg (by decide +kernel)]
  exact ⟨rfl, rfl⟩
theorem over : Rows.fnPutLinkTwiceRow.holds Try.pinned (OpenSpec.ofChange Rows.fnPutLinkTwiceSpec) :=
  OpenClaim.holds_of_wide 13 Try.f13 rfl rfl rfl rfl rfl rfl rfl ⟨rfl, rfl, rfl, rfl, rfl⟩ rfl rfl rfl rfl rfl named_ Try.func13 closed inst_ wrap_
    (fun os started H enc _ => lifted os started H enc)
theorem proved : Rows.FnPutLinkTwiceSaid := over
end Go.Proofs.Yteljpjapacajoaa.fnPutLinkTwice
