/- The statement Rows.FnExactFormatRowCardSaid: the Go function laws.FnExactFormatRow returns true for every input, and each argument reads afterwards as it read before; the tied card. Condition: the listed package-level variables read as the card ties them to the program's text. -/
import Derived.Test.YtfdlmimgooeioaaDoorRows
import Derived.Test.YtfdlmimgooeioaaDoorCards
import Derived.Test.YtfdlmimgooeioaaDoorTie
import Derived.Test.YtfdlmimgooeioaaDoorPxO
import Derived.Test.YtfdlmimgooeioaaDoorEH
import Derived.WalkKit
import Derived.ProofKit
import Derived.OpenShut
import Derived.ShutString
import Derived.ChangeOld
import Derived.SliceStrings
import Derived.Deep.Slices
import Derived.Deep.Fields
import Derived.ChangeSame
import Derived.Below
import Derived.LaidMore
import Derived.Stop.Joined
import Derived.SevenTiedAt
import Derived.MakeChecks
set_option linter.unusedVariables false
set_option linter.unusedSimpArgs false
namespace Go.Proofs.YtfdlmimgooeioaaDoor
open Go.Px
set_option linter.unusedVariables false
theorem FnExactFormatRow_fn (A : Option Addr) (c : Nat) (l : List PairT) (w : World) (hA : Rd w A ((l).flatMap encP)) (hl : l.length ≤ 9223372036854775807) (htab : TAB w) :
    Does Tryd.prog 3 [.slice (A) ((l).length) (c)] w (fun v w1 => v = .bool (true) ∧ Mem w w1 [] []) := by
  have hM : Mem w w [] [] := Mem.refl
  refine Does.enter1 Tryd.func3 rfl Tryd.results3 Tryd.ntmps3 rfl ?_
  refine C.seq ?_
  refine C.region ?_
  refine O.val (v := .bool (false)) rfl (Ru.assign rfl) rfl ?_
  refine O.nil ?_
  refine C.seq ?_
  refine C.region ?_
  refine O.val (v := I (1048576)) rfl (Ru.assign rfl) rfl ?_
  refine O.nil ?_
  refine C.seq ?_
  refine C.region ?_
  refine O.val (v := .slice (A) ((l).length) (c)) rfl (Ru.move rfl) rfl ?_
  refine O.val (v := I (1048576)) rfl (Ru.move rfl) rfl ?_
  refine O.callg [.slice (A) ((l).length) (c), I (1048576)] rfl en13 rfl rfl (szPairS_fn A c l 1048576 w (hA.at hM) (by first | omega | assumption | (simp; omega) | simp | (intros; omega)) (by first | omega | assumption | (simp; omega) | simp | (intros; omega))) ?_
  rintro _ w2_2 ⟨rfl, hR2_2⟩
  have hM2_2 : Mem w w2_2 [] [] := Mem.call (Ma := []) hM hR2_2 rfl
  refine O.val (v := I ((if 1048576 < (l.length : Int) then (-1 : Int) else 1048576 - (l.length : Int)))) rfl (Ru.assign rfl) rfl ?_
  refine O.nil ?_
  refine C.seq ?_
  refine C.seq ?_
  refine C.region ?_
  refine O.val (v := I ((if 1048576 < (l.length : Int) then (-1 : Int) else 1048576 - (l.length : Int)))) rfl (Ru.move rfl) rfl ?_
  refine O.val (v := .bool (decide ((if 1048576 < (l.length : Int) then (-1 : Int) else 1048576 - (l.length : Int)) < 0))) rfl (Ru.lss rfl rfl) rfl ?_
  refine O.nil ?_
  refine C.cond (p := (if 1048576 < (l.length : Int) then (-1 : Int) else 1048576 - (l.length : Int)) < 0) rfl (fun c11 => ?_) (fun c11 => ?_)
  · refine C.seq ?_
    refine C.region ?_
    refine O.val (v := .bool (true)) rfl (Ru.assign rfl) rfl ?_
    refine O.nil ?_
    refine C.ret ?_
    refine P1 (v := .bool (true)) rfl ?_
    exact ⟨rfl, (Mem.none hM2_2)⟩
  · have hz1 : l.length ≤ 1048576 := by split at c11 <;> omega
    refine C.skip ?_
    refine C.seq ?_
    refine C.region ?_
    refine O.val (v := .slice (A) ((l).length) (c)) rfl (Ru.move rfl) rfl ?_
    refine O.callg [.slice (A) ((l).length) (c)] rfl en15 rfl rfl (toPairS_fn A c l w2_2 (hA.at hM2_2) (by first | omega | assumption | (simp; omega) | simp | (intros; omega))) ?_
    rintro _ w5_1 ⟨A15_1, c15_1, rfl, hR5_1⟩
    have hM5_1 : Mem w w5_1 [] [[⟨.slice (A15_1) ((l).length) (c15_1), 61, 2, ((l).length), (l).flatMap encP⟩]] := Mem.call (Ma := []) hM2_2 hR5_1 rfl
    have hcr5_1_0 := (hM5_1.cap 0 rfl).1
    refine O.callg [.slice (A15_1) ((l).length) (c15_1)] rfl en14 rfl rfl (sFormatRow_fn A15_1 c15_1 l w5_1 (hM5_1.rd 0 rfl) (by first | omega | assumption | (simp; omega) | simp | (intros; omega))) ?_
    rintro _ w5_2 ⟨rfl, hR5_2⟩
    have hM5_2 : Mem w w5_2 [] [[⟨.slice (A15_1) ((l).length) (c15_1), 61, 2, ((l).length), (l).flatMap encP⟩]] := Mem.call (Ma := []) hM5_1 hR5_2 rfl
    refine O.val (v := S (fmtR l)) rfl (Ru.assign rfl) rfl ?_
    refine O.nil ?_
    refine C.seq ?_
    refine C.region ?_
    refine O.val (v := .slice (A) ((l).length) (c)) rfl (Ru.move rfl) rfl ?_
    refine O.callg [.slice (A) ((l).length) (c)] rfl en15 rfl rfl (toPairS_fn A c l w5_2 (hA.at hM5_2) (by first | omega | assumption | (simp; omega) | simp | (intros; omega))) ?_
    rintro _ w6_1 ⟨A16_1, c16_1, rfl, hR6_1⟩
    have hM6_1 : Mem w w6_1 [] [[⟨.slice (A16_1) ((l).length) (c16_1), 61, 2, ((l).length), (l).flatMap encP⟩], [⟨.slice (A15_1) ((l).length) (c15_1), 61, 2, ((l).length), (l).flatMap encP⟩]] := Mem.call (Ma := []) hM5_2 hR6_1 rfl
    have hcr6_1_0 := (hM6_1.cap 0 rfl).1
    refine O.val (v := .slice (A16_1) ((l).length) (c16_1)) rfl (Ru.assign rfl) rfl ?_
    refine O.nil ?_
    refine C.seq ?_
    refine C.region ?_
    refine O.val (v := .slice (A16_1) ((l).length) (c16_1)) rfl (Ru.move rfl) rfl ?_
    refine O.callg [.slice (A16_1) ((l).length) (c16_1)] rfl en16 rfl rfl (FormatRow_fn A16_1 c16_1 l w6_1 (hM6_1.rd 0 rfl) (by first | omega | assumption | (simp; omega) | simp | (intros; omega)) (tab_at htab hM6_1)) ?_
    rintro _ w7_1 ⟨rfl, hR7_1⟩
    have hM7_1 : Mem w w7_1 [] [[⟨.slice (A16_1) ((l).length) (c16_1), 61, 2, ((l).length), (l).flatMap encP⟩], [⟨.slice (A15_1) ((l).length) (c15_1), 61, 2, ((l).length), (l).flatMap encP⟩]] := Mem.call (Ma := []) hM6_1 hR7_1 rfl
    refine O.val (v := S (fmtR l)) rfl (Ru.assign rfl) rfl ?_
    refine O.nil ?_
    refine C.seq ?_
    refine C.seq ?_
    refine C.region ?_
    refine O.val (v := S (fmtR l)) rfl (Ru.move rfl) rfl ?_
    refine O.val (v := S (fmtR l)) rfl (Ru.move rfl) rfl ?_
    refine O.val (v := .bool (false)) rfl (Ru.congr (v := .bool (decide (fmtR l ≠ fmtR l))) (v' := .bool (false)) (Ru.sneq rfl rfl) ((congrArg Value.bool (decide_eq_false (by simp))))) rfl ?_
    refine O.nil ?_
    refine C.condF rfl ?_
    refine C.skip ?_
    refine C.seq ?_
    refine C.seq ?_
    refine C.region ?_
    refine O.val (v := .slice (A16_1) ((l).length) (c16_1)) rfl (Ru.move rfl) rfl ?_
    refine O.val (v := .slice (A) ((l).length) (c)) rfl (Ru.move rfl) rfl ?_
    refine O.callg [.slice (A) ((l).length) (c)] rfl en15 rfl rfl (toPairS_fn A c l w7_1 (hA.at hM7_1) (by first | omega | assumption | (simp; omega) | simp | (intros; omega))) ?_
    rintro _ w10_2 ⟨A110_2, c110_2, rfl, hR10_2⟩
    have hM10_2 : Mem w w10_2 [] [[⟨.slice (A110_2) ((l).length) (c110_2), 61, 2, ((l).length), (l).flatMap encP⟩], [⟨.slice (A16_1) ((l).length) (c16_1), 61, 2, ((l).length), (l).flatMap encP⟩], [⟨.slice (A15_1) ((l).length) (c15_1), 61, 2, ((l).length), (l).flatMap encP⟩]] := Mem.call (Ma := []) hM7_1 hR10_2 rfl
    have hcr10_2_0 := (hM10_2.cap 0 rfl).1
    refine O.callg [.slice (A16_1) ((l).length) (c16_1), .slice (A110_2) ((l).length) (c110_2)] rfl en17 rfl rfl (eqPairS_fn A16_1 c16_1 l A110_2 c110_2 l w10_2 (hM10_2.rd 1 rfl) (hM10_2.rd 0 rfl) (by omega)) ?_
    rintro _ w10_3 ⟨hv10_3, hR10_3⟩
    obtain rfl : _ = Value.bool true := hv10_3.trans (by simp)
    have hM10_3 : Mem w w10_3 [] [[⟨.slice (A110_2) ((l).length) (c110_2), 61, 2, ((l).length), (l).flatMap encP⟩], [⟨.slice (A16_1) ((l).length) (c16_1), 61, 2, ((l).length), (l).flatMap encP⟩], [⟨.slice (A15_1) ((l).length) (c15_1), 61, 2, ((l).length), (l).flatMap encP⟩]] := Mem.call (Ma := []) hM10_2 hR10_3 rfl
    refine O.val (v := .bool (false)) rfl (Ru.not (b := true) rfl) rfl ?_
    refine O.nil ?_
    refine C.condF rfl ?_
    refine C.skip ?_
    refine C.seq ?_
    refine C.region ?_
    refine O.val (v := .bool (true)) rfl (Ru.assign rfl) rfl ?_
    refine O.nil ?_
    refine C.ret ?_
    refine P1 (v := .bool (true)) rfl ?_
    exact ⟨rfl, (Mem.none hM10_3)⟩
end Go.Proofs.YtfdlmimgooeioaaDoor
namespace Go.Proofs.YtfdlmimgooeioaaDoor.fnExactFormatRow
open Go.ChangeShapes Go.WideShapes Go.ChangeAt Go.RowKit Go.Px
open Go.ChangeMaps (open_string shut_string)
set_option linter.unusedVariables false

theorem own : ownKnob Tryd.prog.godebug = none := by kernel_rfl
theorem laidOut : laidOutB Tryd.prog = true := by kernel_rfl
theorem Lay.tab_laid {W : World} (h : laidMetH Tryd.prog Rows.fnExactFormatRowRow.laid W) : TAB W := by
  rw [MakeChecks.laidMetH_plain _ _ _ (by kernel_rfl)] at h
  obtain ⟨ps, ⟨g0, t0, cs0, f0, p0, q0, _, _, _, _, ⟨g1, t1, cs1, f1, p1, q1, _, _, _, _, ⟨g, t, cs, fuel, p, q, hg, ht, hvar, hd, _, _⟩, _⟩, _⟩, _⟩ := h
  have hg' : Tryd.prog.globalNamed tabN = some 0 := by kernel_rfl
  obtain rfl := Option.some.inj (hg'.symm.trans (show Tryd.prog.globalNamed tabN = some g from hg))
  have hty : (Tryd.prog.globals[0]?).map (·.type) = some 159 := by kernel_rfl
  obtain rfl := Option.some.inj (hty.symm.trans ht)
  unfold TAB Lib.TabIs
  rw [show W.var? Tryd.prog tabN = some cs from hvar, ← Lib.cells_of_tab (zs := Lib.pow10Tab) Tryd.underlying159 Tryd.underlying139 (by kernel_rfl) (by kernel_rfl) hd]

theorem door_met (os : Os) (args : Array Value) : laidMetH Tryd.prog Rows.fnExactFormatRowRow.laid ((World.doorLaid Tryd.prog 400 os).forCall (fun _ _ => 0) ⟨#[], args, []⟩).memory :=
  laidMetH_of_parts3 (fuel := 8) (laidMet_of_run' 8 (by kernel_rfl) (by kernel_rfl)) (by kernel_rfl) (by kernel_rfl)
set_option maxRecDepth 100000 in
theorem lifted (os : Os) (started : os.Started) (H : Type) (enc : TypeId × Value → H) :
    ReturnsInHanded {} Tryd.checked os 3 .any (fun w args => (Rows.fnExactFormatRowSpec.pre enc Tryd.prog Tryd.f3 [] false w args ∧ laidMetH Tryd.prog Rows.fnExactFormatRowRow.laid w) ∧ sizedMet enc Tryd.prog Tryd.f3 (OpenSpec.ofChange Rows.fnExactFormatRowSpec) false w args) (Rows.fnExactFormatRowSpec.post enc Tryd.prog Tryd.f3 false true false false) := by
  refine returnsInHanded_of_change_and (C := Tryd.checked) (X := fun w _ => laidMetH Tryd.prog Rows.fnExactFormatRowRow.laid w) (fun _ _ _ hh h => h.of_heap hh) own started (by kernel_rfl) Tryd.func3
    (ChangeSpec.witness_shaped (enc := enc) (C := Tryd.checked) (os := os) (X := fun w _ => laidMetH Tryd.prog Rows.fnExactFormatRowRow.laid w) false (World.doorLaid Tryd.prog 400 os) #[.slice none 0 0] 8 rfl (World.shaped_of_RefB (by kernel_rfl) (by kernel_rfl)) (by kernel_rfl) (by kernel_rfl) (by kernel_rfl) (door_met os _)) ?_
  intro W base args ds gs before hval0 hW _ _ hL _
  have hval : ∀ (j : Nat) t v, Tryd.f3.params[j]? = some t → args[j]? = some v → Value.okWide Tryd.prog W .any base t v := hval0
  have hW' := hW
  obtain ⟨p, q, hA0, hV, rfl, hfz, hnd⟩ := hW'
  have hW' := hW
  have hA : DataW.TrodAll enc Tryd.prog W 0 (fun _ => true) true Tryd.f3.params.toList args.toList ds p := hA0
  rw [Tryd.params3] at hA hval
  obtain ⟨v0, vs0, d0, ds0, p0, q0, hargs, rfl, rfl, h0, r0⟩ := trodAll_cons hA
  obtain ⟨rfl, rfl, rfl⟩ := trodAll_nil r0
  obtain rfl : args = #[v0] := by cases args; simp_all
  obtain ⟨rfl, rfl⟩ := trodVars_none hV
  have k0 := h0
  have lt0 : ∀ x ∈ p0, x.block < W.heap.size := by obtain ⟨m, hm⟩ := k0; exact DataW.trod_lt m _ _ _ hm
  obtain ⟨a0, len0, cap0, rfl⟩ := okWide_slice Tryd.underlying22 (hval 0 22 v0 rfl rfl)
  have kk0 := k0
  obtain ⟨fuel0, hf0⟩ := kk0
  obtain ⟨z0, rfl, hz0, hc0, hw0, hRd0⟩ := slice_in (α := PairT) (f := encP) (c := 2) (ok := fun p : PairT => (-9223372036854775808 ≤ p.key ∧ p.key ≤ 9223372036854775807) ∧ -9223372036854775808 ≤ p.val ∧ p.val ≤ 9223372036854775807) Tryd.underlying22 (by kernel_rfl) (fun _ => rfl) (fun n cs y h => by
    obtain ⟨hl, hf⟩ := struct_els (l := [(3, 0, 1), (3, 1, 1)]) (k := 2) (by kernel_rfl) (by kernel_rfl) h
    match cs, hl with
    | [b0, b1], _ =>
      obtain ⟨_, _, h0⟩ := hf (3, 0, 1) (by simp)
      obtain ⟨x0, e0, k0⟩ := int_el Tryd.underlying3 _ _ _ h0
      obtain ⟨_, _, h1⟩ := hf (3, 1, 1) (by simp)
      obtain ⟨x1, e1, k1⟩ := int_el Tryd.underlying3 _ _ _ h1
      refine ⟨⟨x0, x1⟩, ?_, ⟨k0, k1⟩⟩
      simp at e0 e1
      simp [encP, e0, e1]) hf0
  have hTab := Lay.tab_laid hL
  clear hA0 hval0
  refine (FnExactFormatRow_fn a0 cap0 z0 W hRd0 hz0 hTab).out.mono fun e W' ⟨v, he, hv, hg⟩ => ?_
  subst he hv
  have bel : Below W.heap.size W W' := ⟨hg.os, hg.tape, hg.output, hg.size, fun k hk => hg.block k hk (by simp)⟩
  exact ⟨_, rfl, _, _, _, [], _, [], hW', trodAll_mk1 (shut_bool Tryd.underlying4 _), (trodAll_cons_mk (Below.trod laidOut (by kernel_rfl) (of_decide_eq_true (by kernel_rfl)) k0 bel lt0) trodAll_mk0), rfl, bel.frame _, fun h => by cases h⟩

theorem named_ : Tryd.prog.funcNamed Rows.fnExactFormatRowRow.func = some 3 := by kernel_rfl
theorem closed : joinedFacts Tryd.prog 3 Tryd.f3 Rows.fnExactFormatRowSpec Rows.fnExactFormatRowRow = true := by kernel_rfl
theorem inst_ : Tryd.f3.isInstance Tryd.prog Rows.fnExactFormatRowRow.origin Rows.fnExactFormatRowRow.targs := of_decide_eq_true (by kernel_rfl)
theorem wrap_ : Tryd.f3.isWrapper Tryd.prog Rows.fnExactFormatRowRow.wrapper Rows.fnExactFormatRowRow.mainSum := by
  unfold Func.isWrapper
  rw [if_neg (by decide +kernel)]
  exact ⟨rfl, rfl⟩
theorem over : Rows.fnExactFormatRowRow.holds Tryd.pinned (OpenSpec.ofChange Rows.fnExactFormatRowSpec) :=
  OpenClaim.holds_of_wide 3 Tryd.f3 rfl rfl rfl rfl rfl rfl rfl ⟨rfl, rfl, rfl, rfl, rfl⟩ rfl rfl rfl rfl rfl named_ Tryd.func3 closed inst_ wrap_
    (fun os started H enc _ => lifted os started H enc)
theorem proved : Rows.FnExactFormatRowCardSaid :=
  Claim7.holds_tied_plain_at .later [] [.data, .data, .data] true (true, "124a393d7e7933ca6a4c65599ee55d0bdb73d00978c952e65eea3ed228b91ce8") true over (fun _ h => by cases h) (by kernel_rfl) (fun _ h => by cases h) fnExactFormatRow_row_tie rfl ⟨rfl, rfl⟩ (by kernel_rfl) rfl
    (fun f fn hf hfn => by
      obtain rfl : f = 3 := Option.some.inj (named_.symm.trans hf) |>.symm
      obtain rfl : fn = Tryd.f3 := (Option.some.inj (Tryd.func3.symm.trans hfn)).symm
      exact ⟨by kernel_rfl, fun j t ht => by
        rw [Tryd.params3] at ht
        have hm : t ∈ [22] := by simpa using Array.mem_of_getElem? ht
        have hall : ([22].all fun u => !Tryd.prog.wantsStandIn u) = true := by kernel_rfl
        exact (show Tryd.prog.wantsStandIn t = false by simpa using List.all_eq_true.1 hall t hm)⟩)
    (by kernel_rfl)
end Go.Proofs.YtfdlmimgooeioaaDoor.fnExactFormatRow
