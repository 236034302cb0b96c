/- The statement Rows.FnRowCanonicalCardSaid: the Go function laws.FnRowCanonical returns true for every input, and each argument reads afterwards as it read before; the tied card. Condition: the listed package-level variables read as the card ties them to the program's text. -/
import Derived.Test.YtfdlmimgooeioaaDoorRows
import Derived.Test.YtfdlmimgooeioaaDoorCards
import Derived.Test.YtfdlmimgooeioaaDoorTie
import Derived.Test.YtfdlmimgooeioaaDoorPxO
import Derived.Test.YtfdlmimgooeioaaDoorEJ
import Derived.WalkKit
import Derived.ProofKit
import Derived.OpenShut
import Derived.ShutString
import Derived.ChangeOld
import Derived.SliceStrings
import Derived.Deep.Slices
import Derived.Deep.Fields
import Derived.ChangeSame
import Derived.Below
import Derived.LaidMore
import Derived.Stop.Joined
import Derived.SevenTiedAt
import Derived.MakeChecks
import Derived.Lay
set_option linter.unusedVariables false
set_option linter.unusedSimpArgs false
namespace Go.Proofs.YtfdlmimgooeioaaDoor
open Go.Px
set_option linter.unusedVariables false
theorem FnRowCanonical_fn (A : Option Addr) (c : Nat) (l : List UInt8) (w : World) (hA : Rd w A ((l).map byteV)) (hl : l.length ≤ 9223372036854775807) (hc : l.length ≤ c) (hlw : LW w) :
    Does Tryd.prog 12 [.slice (A) ((l).length) (c)] w (fun v w1 => v = .bool (true) ∧ Mem w w1 [] []) := by
  have hM : Mem w w [] [] := Mem.refl
  refine Does.enter1 Tryd.func12 rfl Tryd.results12 Tryd.ntmps12 rfl ?_
  refine C.seq ?_
  refine C.region ?_
  refine O.val (v := .bool (false)) rfl (Ru.assign rfl) rfl ?_
  refine O.nil ?_
  refine C.seq ?_
  refine C.seq ?_
  refine C.region ?_
  refine O.val (v := .slice (A) ((l).length) (c)) rfl (Ru.move rfl) rfl ?_
  refine O.val (v := I ((((l).length : Nat) : Int))) rfl (Ru.blenSlice Tryd.underlying29 rfl) rfl ?_
  refine O.val (v := .bool (decide ((((l).length : Nat) : Int) > 1048576))) rfl (Ru.gtr rfl rfl) rfl ?_
  refine O.nil ?_
  refine C.cond (p := (((l).length : Nat) : Int) > 1048576) rfl (fun c10 => ?_) (fun c10 => ?_)
  · refine C.seq ?_
    refine C.region ?_
    refine O.val (v := .bool (true)) rfl (Ru.assign rfl) rfl ?_
    refine O.nil ?_
    refine C.ret ?_
    refine P1 (v := .bool (true)) rfl ?_
    exact ⟨rfl, (Mem.none hM)⟩
  · refine C.skip ?_
    refine C.seq ?_
    refine C.region ?_
    refine O.val (v := .slice (A) ((l).length) (c)) rfl (Ru.move rfl) rfl ?_
    refine O.callg [.slice (A) ((l).length) (c)] rfl en41 rfl rfl (DrawParseRow_fn A c l w (hA.at hM) (by first | omega | assumption | (simp; omega) | simp | (intros; omega)) (by first | omega | assumption | (simp; omega) | simp | (intros; omega))) ?_
    rintro _ w3_1 ⟨s13_1, rfl, hl3_1, hR3_1⟩
    have hM3_1 : Mem w w3_1 [] [] := Mem.call (Ma := []) hM hR3_1 rfl
    refine O.val (v := S (s13_1)) rfl (Ru.assign rfl) rfl ?_
    refine O.nil ?_
    refine C.seq ?_
    refine C.region ?_
    refine O.val (v := S (s13_1)) rfl (Ru.move rfl) rfl ?_
    refine O.callg [S (s13_1)] rfl en27 rfl rfl (ParseRow_fn s13_1 w3_1 (hlw.at hM3_1) (by omega)) ?_
    rintro _ w4_1 ⟨A14_1, c14_1, rfl, hR4_1⟩
    have hM4_1 : Mem w w4_1 [] [[⟨.slice (A14_1) (((rowS s13_1).getD []).length) (c14_1), 61, 2, (((rowS s13_1).getD []).length), ((rowS s13_1).getD []).flatMap encP⟩]] := Mem.call (Ma := []) hM3_1 hR4_1 rfl
    have hcr4_1_0 := (hM4_1.cap 0 rfl).1
    refine O.val (v := .tuple #[.slice (A14_1) (((rowS s13_1).getD []).length) (c14_1), .bool ((rowS s13_1).isSome)]) rfl (Ru.move rfl) rfl ?_
    refine O.val (v := .slice (A14_1) (((rowS s13_1).getD []).length) (c14_1)) rfl (Ru.extract rfl rfl) rfl ?_
    refine O.val (v := .bool ((rowS s13_1).isSome)) rfl (Ru.extract rfl rfl) rfl ?_
    refine O.val (v := .slice (A14_1) (((rowS s13_1).getD []).length) (c14_1)) rfl (Ru.assign rfl) rfl ?_
    refine O.val (v := .bool ((rowS s13_1).isSome)) rfl (Ru.assign rfl) rfl ?_
    refine O.nil ?_
    refine C.seq ?_
    refine C.region ?_
    refine O.val (v := S (s13_1)) rfl (Ru.move rfl) rfl ?_
    refine O.callg [S (s13_1)] rfl en26 rfl rfl (sParseRow_fn s13_1 w4_1 (by omega)) ?_
    rintro _ w5_1 ⟨A15_1, c15_1, rfl, hR5_1⟩
    have hM5_1 : Mem w w5_1 [] [[⟨.slice (A15_1) (((rowS s13_1).getD []).length) (c15_1), 61, 2, (((rowS s13_1).getD []).length), ((rowS s13_1).getD []).flatMap encP⟩], [⟨.slice (A14_1) (((rowS s13_1).getD []).length) (c14_1), 61, 2, (((rowS s13_1).getD []).length), ((rowS s13_1).getD []).flatMap encP⟩]] := Mem.call (Ma := []) hM4_1 hR5_1 rfl
    have hcr5_1_0 := (hM5_1.cap 0 rfl).1
    refine O.val (v := .tuple #[.slice (A15_1) (((rowS s13_1).getD []).length) (c15_1), .bool ((rowS s13_1).isSome)]) rfl (Ru.move rfl) rfl ?_
    refine O.val (v := .slice (A15_1) (((rowS s13_1).getD []).length) (c15_1)) rfl (Ru.extract rfl rfl) rfl ?_
    refine O.val (v := .bool ((rowS s13_1).isSome)) rfl (Ru.extract rfl rfl) rfl ?_
    refine O.val (v := .slice (A15_1) (((rowS s13_1).getD []).length) (c15_1)) rfl (Ru.assign rfl) rfl ?_
    refine O.val (v := .bool ((rowS s13_1).isSome)) rfl (Ru.assign rfl) rfl ?_
    refine O.nil ?_
    refine C.seq ?_
    refine C.seq ?_
    have hrl := rowS_len (s := s13_1)
    refine C.region ?_
    refine O.val (v := .slice (A14_1) (((rowS s13_1).getD []).length) (c14_1)) rfl (Ru.move rfl) rfl ?_
    refine O.val (v := .slice (A15_1) (((rowS s13_1).getD []).length) (c15_1)) rfl (Ru.move rfl) rfl ?_
    refine O.callg [.slice (A14_1) (((rowS s13_1).getD []).length) (c14_1), .slice (A15_1) (((rowS s13_1).getD []).length) (c15_1)] rfl en35 rfl rfl (equalPairs_fn A14_1 c14_1 ((rowS s13_1).getD []) A15_1 c15_1 ((rowS s13_1).getD []) w5_1 (hM5_1.rd 1 rfl) (hM5_1.rd 0 rfl) (by omega)) ?_
    rintro _ w6_2 ⟨hv6_2, hR6_2⟩
    obtain rfl : _ = Value.bool true := hv6_2.trans (by simp)
    have hM6_2 : Mem w w6_2 [] [[⟨.slice (A15_1) (((rowS s13_1).getD []).length) (c15_1), 61, 2, (((rowS s13_1).getD []).length), ((rowS s13_1).getD []).flatMap encP⟩], [⟨.slice (A14_1) (((rowS s13_1).getD []).length) (c14_1), 61, 2, (((rowS s13_1).getD []).length), ((rowS s13_1).getD []).flatMap encP⟩]] := Mem.call (Ma := []) hM5_1 hR6_2 rfl
    refine O.val (v := .bool (false)) rfl (Ru.not (b := true) rfl) rfl ?_
    refine O.val (v := .bool (false)) rfl (Ru.move rfl) rfl ?_
    refine O.val (v := .bool ((rowS s13_1).isSome)) rfl (Ru.move rfl) rfl ?_
    refine O.val (v := .bool ((rowS s13_1).isSome)) rfl (Ru.move rfl) rfl ?_
    refine O.val (v := .bool (false)) rfl (Ru.congr (v := .bool (decide ((rowS s13_1).isSome ≠ (rowS s13_1).isSome))) (v' := .bool (false)) (Ru.bneq Tryd.underlying4 rfl rfl) ((congrArg Value.bool (decide_eq_false (by simp))))) rfl ?_
    refine O.val (v := .bool (false)) rfl (Ru.pickF rfl rfl) rfl ?_
    refine O.nil ?_
    refine C.condF rfl ?_
    refine C.skip ?_
    refine C.seq ?_
    refine C.region ?_
    refine O.val (v := .bool ((rowS s13_1).isSome)) rfl (Ru.move rfl) rfl ?_
    refine O.val (v := .bool (!((rowS s13_1).isSome))) rfl (Ru.not rfl) rfl ?_
    refine O.val (v := .bool (!((rowS s13_1).isSome))) rfl (Ru.move rfl) rfl ?_
    refine O.part 34 (!((rowS s13_1).isSome)) rfl (fun g34 => ?_) (fun g34 => ?_)
    · refine O.pass rfl rfl rfl rfl rfl ?_
      refine O.pass rfl rfl rfl rfl rfl ?_
      refine O.pass rfl rfl rfl rfl rfl ?_
      refine O.pass rfl rfl rfl rfl rfl ?_
      refine O.pass rfl rfl rfl rfl rfl ?_
      refine O.passU rfl rfl rfl rfl ?_
      refine O.passU rfl rfl rfl rfl ?_
      refine O.pass rfl rfl rfl rfl rfl ?_
      refine O.val (v := .bool (true)) rfl (Ru.pickT rfl rfl) rfl ?_
      refine O.val (v := .bool (true)) rfl (Ru.assign rfl) rfl ?_
      refine O.nil ?_
      refine C.ret ?_
      refine P1 (v := .bool (true)) rfl ?_
      exact ⟨rfl, (Mem.none hM6_2)⟩
    · have hsm : rowS s13_1 = some ((rowS s13_1).getD []) := opt_some (by simpa using g34)
      have hcn := row_canon hsm
      refine O.val (v := .slice (A14_1) (((rowS s13_1).getD []).length) (c14_1)) rfl (Ru.move rfl) rfl ?_
      refine O.callg [.slice (A14_1) (((rowS s13_1).getD []).length) (c14_1)] rfl en16 rfl rfl (FormatRow_fn A14_1 c14_1 ((rowS s13_1).getD []) w6_2 (hM6_2.rd 1 rfl) (by omega) (tab_at hlw.tab hM6_2)) ?_
      rintro _ w8_4 ⟨rfl, hR8_4⟩
      have hM8_4 : Mem w w8_4 [] [[⟨.slice (A15_1) (((rowS s13_1).getD []).length) (c15_1), 61, 2, (((rowS s13_1).getD []).length), ((rowS s13_1).getD []).flatMap encP⟩], [⟨.slice (A14_1) (((rowS s13_1).getD []).length) (c14_1), 61, 2, (((rowS s13_1).getD []).length), ((rowS s13_1).getD []).flatMap encP⟩]] := Mem.call (Ma := []) hM6_2 hR8_4 rfl
      refine O.val (v := S (s13_1)) rfl (Ru.move rfl) rfl ?_
      refine O.val (v := .bool (true)) rfl (Ru.congr (v := .bool (decide (fmtR ((rowS s13_1).getD []) = s13_1))) (v' := .bool (true)) (Ru.seql rfl rfl) ((congrArg Value.bool (decide_eq_true hcn.1)))) rfl ?_
      refine O.val (v := .bool (true)) rfl (Ru.move rfl) rfl ?_
      refine O.val (v := .slice (A14_1) (((rowS s13_1).getD []).length) (c14_1)) rfl (Ru.move rfl) rfl ?_
      refine O.callg [.slice (A14_1) (((rowS s13_1).getD []).length) (c14_1)] rfl en34 rfl rfl (ValidRow_fn A14_1 c14_1 ((rowS s13_1).getD []) w8_4 (hM8_4.rd 1 rfl) (by omega)) ?_
      rintro _ w8_9 ⟨hv8_9, hR8_9⟩
      obtain rfl : _ = .bool (true) := hv8_9.trans (congrArg Value.bool hcn.2)
      have hM8_9 : Mem w w8_9 [] [[⟨.slice (A15_1) (((rowS s13_1).getD []).length) (c15_1), 61, 2, (((rowS s13_1).getD []).length), ((rowS s13_1).getD []).flatMap encP⟩], [⟨.slice (A14_1) (((rowS s13_1).getD []).length) (c14_1), 61, 2, (((rowS s13_1).getD []).length), ((rowS s13_1).getD []).flatMap encP⟩]] := Mem.call (Ma := []) hM8_4 hR8_9 rfl
      refine O.val (v := .bool (true)) rfl (Ru.pickT rfl rfl) rfl ?_
      refine O.val (v := .bool (true)) rfl (Ru.pickF rfl rfl) rfl ?_
      refine O.val (v := .bool (true)) rfl (Ru.assign rfl) rfl ?_
      refine O.nil ?_
      refine C.ret ?_
      refine P1 (v := .bool (true)) rfl ?_
      exact ⟨rfl, (Mem.none hM8_9)⟩
end Go.Proofs.YtfdlmimgooeioaaDoor
namespace Go.Proofs.YtfdlmimgooeioaaDoor.fnRowCanonical
open Go.ChangeShapes Go.WideShapes Go.ChangeAt Go.RowKit Go.Px
open Go.ChangeMaps (open_string shut_string)
set_option linter.unusedVariables false

theorem own : ownKnob Tryd.prog.godebug = none := by kernel_rfl
theorem laidOut : laidOutB Tryd.prog = true := by kernel_rfl

set_option maxRecDepth 100000 in
theorem lifted (os : Os) (started : os.Started) (H : Type) (enc : TypeId × Value → H) :
    ReturnsInHanded {} Tryd.checked os 12 .any (fun w args => (Rows.fnRowCanonicalSpec.pre enc Tryd.prog Tryd.f12 [] false w args ∧ laidMetH Tryd.prog Rows.fnRowCanonicalRow.laid w) ∧ sizedMet enc Tryd.prog Tryd.f12 (OpenSpec.ofChange Rows.fnRowCanonicalSpec) false w args) (Rows.fnRowCanonicalSpec.post enc Tryd.prog Tryd.f12 false true false false) := by
  refine Px.returnsIn_and_shaped (C := Tryd.checked) (X := fun w _ => laidMetH Tryd.prog Rows.fnRowCanonicalRow.laid w) (fun _ _ _ hh h => h.of_heap hh) own started (by kernel_rfl) Tryd.func12
    (ChangeSpec.witness_shaped (enc := enc) (C := Tryd.checked) (os := os) (X := fun w _ => laidMetH Tryd.prog Rows.fnRowCanonicalRow.laid w) false (World.laidAll Tryd.prog os Rows.fnRowCanonicalRow.laid) #[.slice none 0 0] 8 (World.laidAll_os _ _ _) (World.shaped_of_ZipB (by kernel_rfl) (by kernel_rfl)) (by kernel_rfl) (by kernel_rfl) (by kernel_rfl) (by rw [MakeChecks.laidMetH_plain _ _ _ (by kernel_rfl)]; exact laidMet_laidAll _ (by kernel_rfl) (by kernel_rfl))) ?_
  intro W base args ds gs before hval0 hW hL hsh
  have hval : ∀ (j : Nat) t v, Tryd.f12.params[j]? = some t → args[j]? = some v → Value.okWide Tryd.prog W .any base t v := hval0
  have hW' := hW
  obtain ⟨p, q, hA0, hV, rfl, hfz, hnd⟩ := hW'
  have hW' := hW
  have hA : DataW.TrodAll enc Tryd.prog W 0 (fun _ => true) true Tryd.f12.params.toList args.toList ds p := hA0
  rw [Tryd.params12] at hA hval
  obtain ⟨v0, vs0, d0, ds0, p0, q0, hargs, rfl, rfl, h0, r0⟩ := trodAll_cons hA
  obtain ⟨rfl, rfl, rfl⟩ := trodAll_nil r0
  obtain rfl : args = #[v0] := by cases args; simp_all
  obtain ⟨rfl, rfl⟩ := trodVars_none hV
  have k0 := h0
  have lt0 : ∀ x ∈ p0, x.block < W.heap.size := by obtain ⟨m, hm⟩ := k0; exact DataW.trod_lt m _ _ _ hm
  obtain ⟨a0, len0, cap0, rfl⟩ := okWide_slice Tryd.underlying29 (hval 0 29 v0 rfl rfl)
  have kk0 := k0
  obtain ⟨fuel0, hf0⟩ := kk0
  obtain ⟨z0, rfl, hz0, hc0, hw0, hRd0⟩ := slice_in (α := UInt8) (f := fun a : UInt8 => [byteV a]) (c := 1) Tryd.underlying29 (by kernel_rfl) (fun _ => rfl) (byte_el Tryd.underlying5) hf0
  rw [flat_one] at hRd0
  have hLw : LW W := lw_of hL hsh
  clear hA0 hval0
  refine (FnRowCanonical_fn a0 cap0 z0 W hRd0 hz0 hc0 hLw).out.mono fun e W' ⟨v, he, hv, hg⟩ => ?_
  subst he hv
  have bel : Below W.heap.size W W' := ⟨hg.os, hg.tape, hg.output, hg.size, fun k hk => hg.block k hk (by simp)⟩
  exact ⟨_, rfl, _, _, _, [], _, [], hW', trodAll_mk1 (shut_bool Tryd.underlying4 _), (trodAll_cons_mk (Below.trod laidOut (by kernel_rfl) (of_decide_eq_true (by kernel_rfl)) k0 bel lt0) trodAll_mk0), rfl, bel.frame _, fun h => by cases h⟩

theorem named_ : Tryd.prog.funcNamed Rows.fnRowCanonicalRow.func = some 12 := by kernel_rfl
theorem closed : joinedFacts Tryd.prog 12 Tryd.f12 Rows.fnRowCanonicalSpec Rows.fnRowCanonicalRow = true := by kernel_rfl
theorem inst_ : Tryd.f12.isInstance Tryd.prog Rows.fnRowCanonicalRow.origin Rows.fnRowCanonicalRow.targs := of_decide_eq_true (by kernel_rfl)
theorem wrap_ : Tryd.f12.isWrapper Tryd.prog Rows.fnRowCanonicalRow.wrapper Rows.fnRowCanonicalRow.mainSum := by
  unfold Func.isWrapper
  rw [if_neg (by decide +kernel)]
  exact ⟨rfl, rfl⟩
theorem over : Rows.fnRowCanonicalRow.holds Tryd.pinned (OpenSpec.ofChange Rows.fnRowCanonicalSpec) :=
  OpenClaim.holds_of_wide 12 Tryd.f12 rfl rfl rfl rfl rfl rfl rfl ⟨rfl, rfl, rfl, rfl, rfl⟩ rfl rfl rfl rfl rfl named_ Tryd.func12 closed inst_ wrap_
    (fun os started H enc _ => lifted os started H enc)
theorem proved : Rows.FnRowCanonicalCardSaid :=
  Claim7.holds_tied_plain_at .later [] [.data, .data, .data, .data, .sentinel, .sentinel, .pinned] true (true, "124a393d7e7933ca6a4c65599ee55d0bdb73d00978c952e65eea3ed228b91ce8") true over (fun _ h => by cases h) (by kernel_rfl) (fun _ h => by cases h) fnRowCanonical_row_tie rfl ⟨rfl, rfl⟩ (by kernel_rfl) rfl
    (fun f fn hf hfn => by
      obtain rfl : f = 12 := Option.some.inj (named_.symm.trans hf) |>.symm
      obtain rfl : fn = Tryd.f12 := (Option.some.inj (Tryd.func12.symm.trans hfn)).symm
      exact ⟨by kernel_rfl, fun j t ht => by
        rw [Tryd.params12] at ht
        have hm : t ∈ [29] := by simpa using Array.mem_of_getElem? ht
        have hall : ([29].all fun u => !Tryd.prog.wantsStandIn u) = true := by kernel_rfl
        exact (show Tryd.prog.wantsStandIn t = false by simpa using List.all_eq_true.1 hall t hm)⟩)
    (by kernel_rfl)
end Go.Proofs.YtfdlmimgooeioaaDoor.fnRowCanonical
