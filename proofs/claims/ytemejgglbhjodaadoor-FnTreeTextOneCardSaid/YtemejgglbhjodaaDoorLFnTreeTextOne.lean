/- The statement Rows.FnTreeTextOneCardSaid: the Go function laws.FnTreeTextOne returns true for every input, and each argument reads afterwards as it read before; the tied card. Condition: the listed package-level variables read as the card ties them to the program's text. -/
import Derived.Test.YtemejgglbhjodaaDoorP7
import Derived.Test.YtemejgglbhjodaaDoorRows
import Derived.Test.YtemejgglbhjodaaDoorCards
import Derived.Test.YtemejgglbhjodaaDoorTie
import Derived.WalkKit
import Derived.ProofKit
import Derived.OpenShut
import Derived.ShutString
import Derived.ChangeOld
import Derived.SliceStrings
import Derived.Deep.Slices
import Derived.Deep.Fields
import Derived.ChangeSame
import Derived.Below
import Derived.LaidMore
import Derived.Stop.Joined
import Derived.SevenTiedAt
import Derived.MakeChecks
set_option linter.unusedVariables false
set_option linter.unusedSimpArgs false
namespace Go.Proofs.YtemejgglbhjodaaDoor
open Go.Px
set_option linter.unusedVariables false
set_option maxHeartbeats 2000000 in
theorem FnTreeTextOne_fn (A : Option Addr) (c : Nat) (l : List UInt8) (w : World) (hA : Rd w A ((l).map byteV)) (hl : l.length ≤ 9223372036854775807) (hc : l.length ≤ c) (htab : TAB w) :
    Does Tryd.prog 4 [.slice (A) ((l).length) (c)] w (fun v w1 => v = .bool (true) ∧ Mem w w1 [] []) := by
  have hM : Mem w w [] [] := Mem.refl
  refine Does.n1 Tryd.func4 rfl Tryd.results4 Tryd.ntmps4 rfl ?_
  refine cd 11 [] (fun c7 => ?_) (fun c7 => ?_)
  · refine E1 5 [] (.bool (true)) ?_
    exact ⟨rfl, (Mem.none hM)⟩
  · refine cq 4 [] (b := DrawFormatTree_fn _ _ _ w (hA.at hM) q0 q0) (c := ?_)
    rintro _ w3_1 ⟨r13_1, L13_1, A13_1, c13_1, G3_1, rfl, hz3_1, hll3_1, hG3_1, hR3_1⟩
    have hM3_1 := hM.cl 0 hR3_1
    refine Al 0 [] fun w3_2 b3_2 hb3_2 hM3_2 => ?_
    refine Sb 0 [] 0 fun w3_3 hM3_3 => ?_
    refine cp 4 [0] (b := FormatTree_fn (⟨r13_1, A13_1, c13_1, L13_1⟩ : TreeL) w3_3 ⟨(hG3_1 _ (Mem.gownT hM3_3 1 rfl)).1, (hG3_1 _ (Mem.gownT hM3_3 1 rfl)).2⟩ (by exact hz3_1) (tab_at htab hM3_3)) (c := fun w4_1 hM4_1 => ?_)
    refine cp 7 [0] (b := sFormatTree_fn (⟨r13_1, A13_1, c13_1, L13_1⟩ : TreeL) w4_1 ⟨(hG3_1 _ (Mem.gownT hM4_1 1 rfl)).1, (hG3_1 _ (Mem.gownT hM4_1 1 rfl)).2⟩ (by exact hz3_1)) (c := fun w5_2 hM5_2 => ?_)
    refine ov 0 [] (s := Vb (false)) (a := by exact cv (Ru.congr (v := .bool (decide (frX ((⟨r13_1, A13_1, c13_1, L13_1⟩ : TreeL)).t ≠ frX ((⟨r13_1, A13_1, c13_1, L13_1⟩ : TreeL)).t))) (v' := .bool (false)) (Ru.sneq rfl rfl) ((congrArg Value.bool (decide_eq_false (by simp))))) rfl) (b := ?_)
    refine cp 2 [0] (b := ValidTree_fn (⟨r13_1, A13_1, c13_1, L13_1⟩ : TreeL) w5_2 ⟨(hG3_1 _ (Mem.gownT hM5_2 1 rfl)).1, (hG3_1 _ (Mem.gownT hM5_2 1 rfl)).2⟩ (by exact hz3_1)) (c := fun w5_6 hM5_6 => ?_)
    refine cn 3 [] (fun c20 => ?_) (fun c20 => ?_)
    · refine cp 4 [0] (b := sFormatTree_fn (⟨r13_1, A13_1, c13_1, L13_1⟩ : TreeL) w5_6 ⟨(hG3_1 _ (Mem.gownT hM5_6 1 rfl)).1, (hG3_1 _ (Mem.gownT hM5_6 1 rfl)).2⟩ (by exact hz3_1)) (c := fun w6_2 hM6_2 => ?_)
      refine ov 0 [] (s := Vb (true)) (a := by exact cv (Ru.congr (v := .bool (decide (frX ((⟨r13_1, A13_1, c13_1, L13_1⟩ : TreeL)).t = frX ((⟨r13_1, A13_1, c13_1, L13_1⟩ : TreeL)).t))) (v' := .bool (true)) (Ru.seql rfl rfl) ((congrArg Value.bool (decide_eq_true rfl)))) rfl) (b := ?_)
      refine E1 3 [] (.bool (true)) ?_
      exact ⟨rfl, (Mem.none hM6_2)⟩
    · have hv : validT (⟨r13_1, A13_1, c13_1, L13_1⟩ : TreeL).t = true := by simp_all
      have hcv := cnt_valid hv
      have hpl : (⟨r13_1, A13_1, c13_1, L13_1⟩ : TreeL).t.pages.length = L13_1.length := pages_len
      have hli := leavesI_yes hv
      have hpi := pairsI_yes hv
      have hwk := valid_WK hv
      have hsl := wk_len3 hwk.2.2 hwk.1 (by omega)
      have hll : (leavesK (⟨r13_1, A13_1, c13_1, L13_1⟩ : TreeL).t).length ≤ 343 := Nat.le_trans leaf_len hsl
      have hpn := pairsOn_len hwk.2.2 (l := leavesK (⟨r13_1, A13_1, c13_1, L13_1⟩ : TreeL).t) (fun x hx => (wk_mem hwk.1 (List.mem_filter.1 hx).1).1)
      rw [show pairsOn (⟨r13_1, A13_1, c13_1, L13_1⟩ : TreeL).t (leavesK (⟨r13_1, A13_1, c13_1, L13_1⟩ : TreeL).t) = pairsK (⟨r13_1, A13_1, c13_1, L13_1⟩ : TreeL).t from rfl] at hpn
      have hfl : (frX (⟨r13_1, A13_1, c13_1, L13_1⟩ : TreeL).t).length ≤ 200 * 8 ^ 3 := by have h9 := valid_ok hv; rw [frX_yes hv]; exact Nat.le_trans (txt_len h9.2.1) (Nat.mul_le_mul_left _ (Nat.pow_le_pow_right (by omega) h9.1))
      refine cd 9 [0] (fun c28 => ?_) (fun c28 => ?_)
      · refine cq 4 [0] (b := PairsOf_fn (⟨r13_1, A13_1, c13_1, L13_1⟩ : TreeL) w5_6 ⟨(hG3_1 _ (Mem.gownT hM5_6 1 rfl)).1, (hG3_1 _ (Mem.gownT hM5_6 1 rfl)).2⟩ (by exact hz3_1)) (c := ?_)
        rintro _ w8_2 ⟨A18_2, c18_2, rfl, hR8_2⟩
        have hM8_2 := hM5_6.cl 0 hR8_2
        have hcr8_2_0 := (hM8_2.cap 0 rfl).1
        refine cp 0 [] (b := FormatRow_fn _ _ _ w8_2 (hM8_2.rd 0 rfl) (by (rw [hpi]; omega)) (tab_at htab hM8_2)) (c := fun w8_3 hM8_3 => ?_)
        refine ov 0 [] (s := Vb (true)) (a := by exact cv (Ru.congr (v := .bool (decide (frX ((⟨r13_1, A13_1, c13_1, L13_1⟩ : TreeL)).t = fmtR (pairsI ((⟨r13_1, A13_1, c13_1, L13_1⟩ : TreeL)).t)))) (v' := .bool (true)) (Ru.seql rfl rfl) ((congrArg Value.bool (decide_eq_true (by rw [hpi]; exact one_valid hv (by omega)))))) rfl) (b := ?_)
        refine E1 3 [] (.bool (true)) ?_
        exact ⟨rfl, (Mem.none hM8_3)⟩
      · obtain ⟨hm1, hm2, hm3⟩ := many_valid hv (by omega)
        have q0 := (List.getElem?_eq_some_iff.1 hm2).2
        have q1 := (List.getElem?_eq_some_iff.1 hm3).2
        refine ov 5 [] (s := Vb (true)) (a := by exact cv (Ru.congr (v := .bool (decide (((frX ((⟨r13_1, A13_1, c13_1, L13_1⟩ : TreeL)).t).length : Int) > 2))) (v' := .bool (true)) (Ru.gtr rfl rfl) ((congrArg Value.bool (decide_eq_true (by omega))))) rfl) (b := ?_)
        have hx9_5 : 0 < (frX ((⟨r13_1, A13_1, c13_1, L13_1⟩ : TreeL)).t).length := (by omega)
        refine ov 2 [] (s := Vn .u8 ((((frX ((⟨r13_1, A13_1, c13_1, L13_1⟩ : TreeL)).t)[0]'hx9_5).toNat : Int))) (a := by exact cv (Ru.sindex (0) hx9_5 Tryd.underlying9 rfl rfl (by omega) (by omega)) rfl) (b := ?_)
        refine ov 0 [] (s := Vb (true)) (a := by exact cv (Ru.congr (v := .bool (decide ((((frX ((⟨r13_1, A13_1, c13_1, L13_1⟩ : TreeL)).t)[0]'hx9_5).toNat : Int) = 40))) (v' := .bool (true)) (Ru.eql rfl rfl) ((congrArg Value.bool (decide_eq_true (by rw [q0]; rfl))))) rfl) (b := ?_)
        refine ov 5 [] (a := ksub) (b := ?_)
        have hx9_13 : ((frX (⟨r13_1, A13_1, c13_1, L13_1⟩ : TreeL).t).length - 1) < (frX ((⟨r13_1, A13_1, c13_1, L13_1⟩ : TreeL)).t).length := (by omega)
        refine ov 0 [] (s := Vn .u8 ((((frX ((⟨r13_1, A13_1, c13_1, L13_1⟩ : TreeL)).t)[((frX (⟨r13_1, A13_1, c13_1, L13_1⟩ : TreeL).t).length - 1)]'hx9_13).toNat : Int))) (a := by exact cv (Ru.sindex (((frX (⟨r13_1, A13_1, c13_1, L13_1⟩ : TreeL).t).length - 1)) hx9_13 Tryd.underlying9 rfl rfl (by omega) (by omega)) rfl) (b := ?_)
        refine ov 0 [] (s := Vb (true)) (a := by exact cv (Ru.congr (v := .bool (decide ((((frX ((⟨r13_1, A13_1, c13_1, L13_1⟩ : TreeL)).t)[((frX (⟨r13_1, A13_1, c13_1, L13_1⟩ : TreeL).t).length - 1)]'hx9_13).toNat : Int) = 41))) (v' := .bool (true)) (Ru.eql rfl rfl) ((congrArg Value.bool (decide_eq_true (by rw [q1]; rfl))))) rfl) (b := ?_)
        refine E1 4 [] (.bool (true)) ?_
        exact ⟨rfl, (Mem.none hM5_6)⟩
end Go.Proofs.YtemejgglbhjodaaDoor
namespace Go.Proofs.YtemejgglbhjodaaDoor.fnTreeTextOne
open Go.ChangeShapes Go.WideShapes Go.ChangeAt Go.RowKit Go.Px
open Go.ChangeMaps (open_string shut_string)
set_option linter.unusedVariables false
theorem own : ownKnob Tryd.prog.godebug = none := by kernel_rfl
theorem laidOut : laidOutB Tryd.prog = true := by kernel_rfl
theorem Lay.tab_laid {W : World} (h : laidMetH Tryd.prog Rows.fnTreeTextOneRow.laid W) : TAB W := by
  rw [MakeChecks.laidMetH_plain _ _ _ (by kernel_rfl)] at h
  obtain ⟨ps, ⟨g0, t0, cs0, f0, p0, q0, _, _, _, _, ⟨g1, t1, cs1, f1, p1, q1, _, _, _, _, ⟨g, t, cs, fuel, p, q, hg, ht, hvar, hd, _, _⟩, _⟩, _⟩, _⟩ := h
  have hg' : Tryd.prog.globalNamed tabN = some 0 := by kernel_rfl
  obtain rfl := Option.some.inj (hg'.symm.trans (show Tryd.prog.globalNamed tabN = some g from hg))
  have hty : (Tryd.prog.globals[0]?).map (·.type) = some 123 := by kernel_rfl
  obtain rfl := Option.some.inj (hty.symm.trans ht)
  unfold TAB Lib.TabIs
  rw [show W.var? Tryd.prog tabN = some cs from hvar, ← Lib.cells_of_tab (zs := Lib.pow10Tab) Tryd.underlying123 Tryd.underlying106 (by kernel_rfl) (by kernel_rfl) hd]
theorem door_met (os : Os) (args : Array Value) : laidMetH Tryd.prog Rows.fnTreeTextOneRow.laid ((World.doorLaid Tryd.prog 400 os).forCall (fun _ _ => 0) ⟨#[], args, []⟩).memory :=
  laidMetH_of_parts3 (fuel := 8) (laidMet_of_run' 8 (by kernel_rfl) (by kernel_rfl)) (by kernel_rfl) (by kernel_rfl)
set_option maxRecDepth 100000 in
theorem lifted (os : Os) (started : os.Started) (H : Type) (enc : TypeId × Value → H) :
    ReturnsInHanded {} Tryd.checked os 4 .any (fun w args => (Rows.fnTreeTextOneSpec.pre enc Tryd.prog Tryd.f4 [] false w args ∧ laidMetH Tryd.prog Rows.fnTreeTextOneRow.laid w) ∧ sizedMet enc Tryd.prog Tryd.f4 (OpenSpec.ofChange Rows.fnTreeTextOneSpec) false w args) (Rows.fnTreeTextOneSpec.post enc Tryd.prog Tryd.f4 false true false false) := by
  refine returnsInHanded_of_change_and (C := Tryd.checked) (X := fun w _ => laidMetH Tryd.prog Rows.fnTreeTextOneRow.laid w) (fun _ _ _ hh h => h.of_heap hh) own started (by kernel_rfl) Tryd.func4
    (ChangeSpec.witness_shaped (enc := enc) (C := Tryd.checked) (os := os) (X := fun w _ => laidMetH Tryd.prog Rows.fnTreeTextOneRow.laid w) false (World.doorLaid Tryd.prog 400 os) #[.slice none 0 0] 8 rfl (World.shaped_of_RefB (by kernel_rfl) (by kernel_rfl)) (by kernel_rfl) (by kernel_rfl) (by kernel_rfl) (door_met os _)) ?_
  intro W base args ds gs before hval0 hW _ _ hL _
  have hval : ∀ (j : Nat) t v, Tryd.f4.params[j]? = some t → args[j]? = some v → Value.okWide Tryd.prog W .any base t v := hval0
  have hW' := hW
  obtain ⟨p, q, hA0, hV, rfl, hfz, hnd⟩ := hW'
  have hW' := hW
  have hA : DataW.TrodAll enc Tryd.prog W 0 (fun _ => true) true Tryd.f4.params.toList args.toList ds p := hA0
  rw [Tryd.params4] at hA hval
  obtain ⟨v0, vs0, d0, ds0, p0, q0, hargs, rfl, rfl, h0, r0⟩ := trodAll_cons hA
  obtain ⟨rfl, rfl, rfl⟩ := trodAll_nil r0
  obtain rfl : args = #[v0] := by cases args; simp_all
  obtain ⟨rfl, rfl⟩ := trodVars_none hV
  have k0 := h0
  have lt0 : ∀ x ∈ p0, x.block < W.heap.size := by obtain ⟨m, hm⟩ := k0; exact DataW.trod_lt m _ _ _ hm
  obtain ⟨a0, len0, cap0, rfl⟩ := okWide_slice Tryd.underlying22 (hval 0 22 v0 rfl rfl)
  have kk0 := k0
  obtain ⟨fuel0, hf0⟩ := kk0
  obtain ⟨z0, rfl, hz0, hc0, hw0, hRd0⟩ := slice_in (α := UInt8) (f := fun a : UInt8 => [byteV a]) (c := 1) Tryd.underlying22 (by kernel_rfl) (fun _ => rfl) (byte_el Tryd.underlying5) hf0
  rw [flat_one] at hRd0
  have hTab := Lay.tab_laid hL
  clear hA0 hval0
  refine (FnTreeTextOne_fn a0 cap0 z0 W hRd0 hz0 hc0 hTab).out.mono fun e W' ⟨v, he, hv, hg⟩ => ?_
  subst he hv
  have bel : Below W.heap.size W W' := ⟨hg.os, hg.tape, hg.output, hg.size, fun k hk => hg.block k hk (by simp)⟩
  exact ⟨_, rfl, _, _, _, [], _, [], hW', trodAll_mk1 (shut_bool Tryd.underlying4 _), (trodAll_cons_mk (Below.trod laidOut (by kernel_rfl) (of_decide_eq_true (by kernel_rfl)) k0 bel lt0) trodAll_mk0), rfl, bel.frame _, fun h => by cases h⟩
theorem named_ : Tryd.prog.funcNamed Rows.fnTreeTextOneRow.func = some 4 := by kernel_rfl
theorem closed : joinedFacts Tryd.prog 4 Tryd.f4 Rows.fnTreeTextOneSpec Rows.fnTreeTextOneRow = true := by kernel_rfl
theorem inst_ : Tryd.f4.isInstance Tryd.prog Rows.fnTreeTextOneRow.origin Rows.fnTreeTextOneRow.targs := of_decide_eq_true (by kernel_rfl)
theorem wrap_ : Tryd.f4.isWrapper Tryd.prog Rows.fnTreeTextOneRow.wrapper Rows.fnTreeTextOneRow.mainSum := by
  unfold Func.isWrapper
  rw [if_neg (by decide +kernel)]
  exact ⟨rfl, rfl⟩
theorem over : Rows.fnTreeTextOneRow.holds Tryd.pinned (OpenSpec.ofChange Rows.fnTreeTextOneSpec) :=
  OpenClaim.holds_of_wide 4 Tryd.f4 rfl rfl rfl rfl rfl rfl rfl ⟨rfl, rfl, rfl, rfl, rfl⟩ rfl rfl rfl rfl rfl named_ Tryd.func4 closed inst_ wrap_
    (fun os started H enc _ => lifted os started H enc)
theorem proved : Rows.FnTreeTextOneCardSaid :=
  Claim7.holds_tied_plain_at .later [] [.data, .data, .data] true (true, "db42fd2b3fa81203b1d2532c6e3b330a02431683d6399b1d8445e706a7f18807") false over (fun _ h => by cases h) (by kernel_rfl) (fun _ h => by cases h) fnTreeTextOne_row_tie rfl ⟨rfl, rfl⟩ (by kernel_rfl) rfl
    (fun f fn hf hfn => by
      obtain rfl : f = 4 := Option.some.inj (named_.symm.trans hf) |>.symm
      obtain rfl : fn = Tryd.f4 := (Option.some.inj (Tryd.func4.symm.trans hfn)).symm
      exact ⟨by kernel_rfl, fun j t ht => by
        rw [Tryd.params4] at ht
        have hm : t ∈ [22] := by simpa using Array.mem_of_getElem? ht
        have hall : ([22].all fun u => !Tryd.prog.wantsStandIn u) = true := by kernel_rfl
        exact (show Tryd.prog.wantsStandIn t = false by simpa using List.all_eq_true.1 hall t hm)⟩)
    (by kernel_rfl)
end Go.Proofs.YtemejgglbhjodaaDoor.fnTreeTextOne
