/- The statement Rows.FnRenumberTreeCardSaid: the Go function laws.FnRenumberTree returns true for every input, and each argument reads afterwards as it read before; the tied card. Condition: the listed package-level variables read as the card ties them to the program's text. -/
import Derived.Test.YtemejgglbhjodaaDoorP8
import Derived.Test.YtemejgglbhjodaaDoorRows
import Derived.Test.YtemejgglbhjodaaDoorCards
import Derived.Test.YtemejgglbhjodaaDoorTie
import Derived.WalkKit
import Derived.ProofKit
import Derived.OpenShut
import Derived.ShutString
import Derived.ChangeOld
import Derived.SliceStrings
import Derived.Deep.Slices
import Derived.Deep.Fields
import Derived.ChangeSame
import Derived.Below
import Derived.LaidMore
import Derived.Stop.Joined
import Derived.SevenTiedAt
import Derived.MakeChecks
set_option linter.unusedVariables false
set_option linter.unusedSimpArgs false
namespace Go.Proofs.YtemejgglbhjodaaDoor
open Go.Px
set_option linter.unusedVariables false
set_option maxHeartbeats 4000000 in
theorem FnRenumberTree_fn (A : Option Addr) (c : Nat) (l : List UInt8) (w : World) (hA : Rd w A ((l).map byteV)) (hl : l.length ≤ 9223372036854775807) (hc : l.length ≤ c) (htab : TAB w) :
    Does Tryd.prog 5 [.slice (A) ((l).length) (c)] w (fun v w1 => v = .bool (true) ∧ Mem w w1 [] []) := by
  have hM : Mem w w [] [] := Mem.refl
  refine Does.n1 Tryd.func5 rfl Tryd.results5 Tryd.ntmps5 rfl ?_
  refine cd 11 [] (fun c12 => ?_) (fun c12 => ?_)
  · refine E1 5 [] (.bool (true)) ?_
    exact ⟨rfl, (Mem.none hM)⟩
  refine cq 4 [] (b := DrawRenumberTree_fn _ _ _ w (hA.at hM) q0 q0) (c := ?_)
  rintro _ w3_1 ⟨r13_1, L13_1, A13_1, c13_1, G3_1, rfl, hz3_1, hll3_1, hG3_1, hR3_1⟩
  have hM3_1 := hM.cl 0 hR3_1
  refine Al 0 [] fun w3_2 b3_2 hb3_2 hM3_2 => ?_
  refine Sb 0 [] 0 fun w3_3 hM3_3 => ?_
  refine cq 4 [0] (b := RenumberTree_fn (⟨r13_1, A13_1, c13_1, L13_1⟩ : TreeL) w3_3 ⟨(hG3_1 _ (Mem.gownT hM3_3 1 rfl)).1, (hG3_1 _ (Mem.gownT hM3_3 1 rfl)).2⟩ (by exact hz3_1)) (c := ?_)
  rintro _ w4_1 ⟨r14_1, L14_1, A14_1, c14_1, rfl, hts4_1, hzs4_1, hll4_1, hR4_1⟩
  have hM4_1 := hM3_3.cl 0 hR4_1
  have hcr4_1_0 := (hM4_1.cap 0 rfl).1
  refine Al 3 [] fun w4_5 b4_5 hb4_5 hM4_5 => ?_
  refine Sb 0 [] 0 fun w4_6 hM4_6 => ?_
  refine cq 5 [3] (b := sRenumberTree_fn (⟨r13_1, A13_1, c13_1, L13_1⟩ : TreeL) w4_6 ⟨(hG3_1 _ (Mem.gownT hM4_6 4 rfl)).1, (hG3_1 _ (Mem.gownT hM4_6 4 rfl)).2⟩ (by exact hz3_1)) (c := ?_)
  rintro _ w5_1 ⟨r15_1, L15_1, A15_1, c15_1, rfl, hts5_1, hzs5_1, hll5_1, hR5_1⟩
  have hM5_1 := hM4_6.cl 0 hR5_1
  have hcr5_1_0 := (hM5_1.cap 0 rfl).1
  refine Al 3 [] fun w5_5 b5_5 hb5_5 hM5_5 => ?_
  refine Sb 0 [] 0 fun w5_6 hM5_6 => ?_
  refine cq 7 [3, 0] (b := equalTree_fn (⟨r14_1, A14_1, c14_1, L14_1⟩ : TreeL) (⟨r15_1, A15_1, c15_1, L15_1⟩ : TreeL) w5_6 ⟨(hM5_6.rd 4 rfl), (NsP.mem hM5_6 5 rfl)⟩ ⟨(hM5_6.rd 1 rfl), (NsP.mem hM5_6 2 rfl)⟩ (by exact hzs4_1)) (c := ?_)
  rintro _ w6_2 ⟨hv6_2, hR6_2⟩
  obtain rfl : _ = .bool (true) := hv6_2.trans (congrArg Value.bool (decide_eq_true (show (⟨r14_1, A14_1, c14_1, L14_1⟩ : TreeL).t = (⟨r15_1, A15_1, c15_1, L15_1⟩ : TreeL).t from hts4_1.trans hts5_1.symm)))
  have hM6_2 := hM5_6.cl 0 hR6_2
  refine ov 4 [] (s := Vb (false)) (a := by exact cv (Ru.congr (v := .bool (decide ((validT ((⟨r13_1, A13_1, c13_1, L13_1⟩ : TreeL)).t) ≠ (validT ((⟨r13_1, A13_1, c13_1, L13_1⟩ : TreeL)).t)))) (v' := .bool (false)) (Ru.bneq Tryd.underlying4 rfl rfl) (congrArg Value.bool (by simp))) rfl) (b := ?_)
  refine cn 6 [] (fun c37 => ?_) (fun c37 => ?_)
  · refine cq 4 [3, 0] (b := equalTree_fn (⟨r14_1, A14_1, c14_1, L14_1⟩ : TreeL) (⟨r15_1, A15_1, c15_1, L15_1⟩ : TreeL) w6_2 ⟨(hM6_2.rd 4 rfl), (NsP.mem hM6_2 5 rfl)⟩ ⟨(hM6_2.rd 1 rfl), (NsP.mem hM6_2 2 rfl)⟩ (by exact hzs4_1)) (c := ?_)
    rintro _ w7_2 ⟨hv7_2, hR7_2⟩
    obtain rfl : _ = .bool (true) := hv7_2.trans (congrArg Value.bool (decide_eq_true (show (⟨r14_1, A14_1, c14_1, L14_1⟩ : TreeL).t = (⟨r15_1, A15_1, c15_1, L15_1⟩ : TreeL).t from hts4_1.trans hts5_1.symm)))
    have hM7_2 := hM6_2.cl 0 hR7_2
    refine ov 3 [] (s := Vb (true)) (a := by exact cv (Ru.congr (v := .bool (decide ((validT ((⟨r13_1, A13_1, c13_1, L13_1⟩ : TreeL)).t) = (validT ((⟨r13_1, A13_1, c13_1, L13_1⟩ : TreeL)).t)))) (v' := .bool (true)) (Ru.beql Tryd.underlying4 rfl rfl) (congrArg Value.bool (by simp))) rfl) (b := ?_)
    refine E1 4 [] (.bool (true)) ?_
    exact ⟨rfl, (Mem.none hM7_2)⟩
  have hv : validT (⟨r13_1, A13_1, c13_1, L13_1⟩ : TreeL).t = true := by simpa using c37
  have hre : (⟨r14_1, A14_1, c14_1, L14_1⟩ : TreeL).t = renF (⟨r13_1, A13_1, c13_1, L13_1⟩ : TreeL).t := hts4_1.trans (renO_yes hv)
  have hr0 : r14_1 = 0 := congrArg TrT.root hre
  obtain ⟨hrv, _⟩ := ren_valid hv
  refine lp1 7 [] (fun (k : Nat) => ([(8, Vi (((k : Nat) : Int)))] : List (Nat × SV))) (fun (k : Nat) => (k ≤ L14_1.length)) (fun (k : Nat) => []) (fun (k : Nat) => L14_1.length - k) [3, 4] [] [0, 1, 2, 3, 4, 5, 6, 7] 0 (fun k σ w_l9 hI hM_l9 => ?_) (h0 := (Nat.zero_le _))
  have hi0_l9 := hI
  have hcl1_l9 := (hM_l9.cap 1 rfl).1
  have hcl4_l9 := (hM_l9.cap 4 rfl).1
  refine cd 9 [3] (fun c50 => ?_) (fun c50 => ?_)
  · have hkl : k < L14_1.length := by omega
    have hkg := ren_kidG hv hre hkl
    have hsk : (((L14_1)[k]'hkl).c.l).length ≤ 1048576 := (hzs4_1.at hkl).2.1
    refine lp1 8 [] (fun (j : Nat) => ([(9, Vi (((j : Nat) : Int)))] : List (Nat × SV))) (fun (j : Nat) => (j ≤ (((L14_1)[k]'hkl).c.l).length)) (fun (j : Nat) => []) (fun (j : Nat) => (((L14_1)[k]'hkl).c.l).length - j) [3, 4, 8] [] [0, 1, 2, 3, 4, 5, 6, 7] 0 (fun j σ w_l12 hI hM_l12 => ?_) (h0 := (Nat.zero_le _))
    have hi0_l12 := hI
    have hcl1_l12 := (hM_l12.cap 1 rfl).1
    have hcl4_l12 := (hM_l12.cap 4 rfl).1
    have hx12_4 : k < (L14_1).length := (by omega)
    refine ov 7 [3] (a := kixF hx12_4 (hM_l12.rd 4 rfl) (h0 := by omega)) (b := ?_)
    refine ov 0 [] (a := kflF hx12_4 (hM_l12.rd 4 rfl)) (b := ?_)
    refine ov 0 [] (a := kldF hx12_4 (hM_l12.rd 4 rfl)) (b := ?_)
    refine cd 3 [] (fun c61 => ?_) (fun c61 => ?_)
    · have hx14_3 : k < (L14_1).length := (by omega)
      refine ov 8 [3] (a := kixF hx14_3 (hM_l12.rd 4 rfl) (h0 := by omega)) (b := ?_)
      refine ov 0 [] (a := kflF hx14_3 (hM_l12.rd 4 rfl)) (b := ?_)
      refine ov 0 [] (a := kldF hx14_3 (hM_l12.rd 4 rfl)) (b := ?_)
      have hx14_7 : j < (((L14_1)[k]'hx14_3).c.l).length := (by omega)
      refine ov 1 [] (a := kixM hx14_7 ((NsP.mem hM_l12 5 rfl).get hx14_3).2.1 (h0 := by omega)) (b := ?_)
      refine ov 0 [] (a := kldM hx14_7 ((NsP.mem hM_l12 5 rfl).get hx14_3).2.1) (b := ?_)
      refine cd 3 [] (fun c74 => ?_) (fun c74 => ?_)
      · exact absurd c74 (by have := hkg _ (List.getElem_mem hx14_7); omega)
      refine ov 3 [] (a := kaddN (j + 1)) (b := ?_)
      exact le1 2 [] (j + 1) [0, 1, 2, 3, 4, 5, 6, 7] (h := by exact (by (try dsimp only); omega))
    refine ov 3 [] (a := kaddN (k + 1)) (b := ?_)
    exact le1 2 [] (k + 1) [0, 1, 2, 3, 4, 5, 6, 7] (h := by exact (by (try dsimp only); omega))
  refine dr 2 [] ?_
  refine qv 2 [3] (s := Vb (true)) (a := by exact fun w2 hw2 => cv (Ru.congr (v := .bool (decide (r14_1 = 0))) (v' := .bool (true)) (Ru.eql rfl rfl) ((congrArg Value.bool (decide_eq_true hr0)))) rfl) (b := ?_)
  refine qc 3 [3, 6] (X := .bool (true)) (b := by exact fun w2 hw2 => (SameTree_fn (⟨r14_1, A14_1, c14_1, L14_1⟩ : TreeL) (⟨r13_1, A13_1, c13_1, L13_1⟩ : TreeL) w2 ⟨(hw2.rd 4 rfl), (NsP.mem hw2 5 rfl)⟩ ⟨(hG3_1 _ (Mem.gownT hw2 7 rfl)).1, (hG3_1 _ (Mem.gownT hw2 7 rfl)).2⟩ (by exact hzs4_1) (by exact hz3_1)).mono fun _ _ h => ⟨h.1.trans (congrArg Value.bool (by rw [hre, hv, hrv, ren_pairs hv]; simp)), Mem.call0 (M1 := []) hw2 h.2⟩) (c := ?_)
  refine qc 3 [3] (X := S (frX ((⟨r14_1, A14_1, c14_1, L14_1⟩ : TreeL)).t)) (b := by exact fun w2 hw2 => (FormatTree_fn (⟨r14_1, A14_1, c14_1, L14_1⟩ : TreeL) w2 ⟨(hw2.rd 4 rfl), (NsP.mem hw2 5 rfl)⟩ (by exact hzs4_1) (tab_at htab hw2)).mono fun _ _ h => ⟨h.1, Mem.call0 (M1 := []) hw2 h.2⟩) (c := ?_)
  refine qc 1 [6] (X := S (frX ((⟨r13_1, A13_1, c13_1, L13_1⟩ : TreeL)).t)) (b := by exact fun w2 hw2 => (FormatTree_fn (⟨r13_1, A13_1, c13_1, L13_1⟩ : TreeL) w2 ⟨(hG3_1 _ (Mem.gownT hw2 7 rfl)).1, (hG3_1 _ (Mem.gownT hw2 7 rfl)).2⟩ (by exact hz3_1) (tab_at htab hw2)).mono fun _ _ h => ⟨h.1, Mem.call0 (M1 := []) hw2 h.2⟩) (c := ?_)
  refine qv 0 [] (s := Vb (true)) (a := by exact fun w2 hw2 => cv (Ru.congr (v := .bool (decide (frX ((⟨r14_1, A14_1, c14_1, L14_1⟩ : TreeL)).t = frX ((⟨r13_1, A13_1, c13_1, L13_1⟩ : TreeL)).t))) (v' := .bool (true)) (Ru.seql rfl rfl) ((congrArg Value.bool (decide_eq_true (by rw [hre]; exact ren_text hv))))) rfl) (b := ?_)
  refine qc 3 [3] (X := .bool (true)) (b := by exact fun w2 hw2 => (ValidTree_fn (⟨r14_1, A14_1, c14_1, L14_1⟩ : TreeL) w2 ⟨(hw2.rd 4 rfl), (NsP.mem hw2 5 rfl)⟩ (by exact hzs4_1)).mono fun _ _ h => ⟨h.1.trans (congrArg Value.bool (by rw [hre]; exact hrv)), Mem.call0 (M1 := []) hw2 h.2⟩) (c := ?_)
  refine qn 2 [] fun w16d hM16d => ?_
  refine E1 1 [] (.bool (true)) ?_
  exact ⟨rfl, (Mem.none hM16d)⟩
end Go.Proofs.YtemejgglbhjodaaDoor
namespace Go.Proofs.YtemejgglbhjodaaDoor.fnRenumberTree
open Go.ChangeShapes Go.WideShapes Go.ChangeAt Go.RowKit Go.Px
open Go.ChangeMaps (open_string shut_string)
set_option linter.unusedVariables false
theorem own : ownKnob Tryd.prog.godebug = none := by kernel_rfl
theorem laidOut : laidOutB Tryd.prog = true := by kernel_rfl
theorem Lay.tab_laid {W : World} (h : laidMetH Tryd.prog Rows.fnRenumberTreeRow.laid W) : TAB W := by
  rw [MakeChecks.laidMetH_plain _ _ _ (by kernel_rfl)] at h
  obtain ⟨ps, ⟨g0, t0, cs0, f0, p0, q0, _, _, _, _, ⟨g1, t1, cs1, f1, p1, q1, _, _, _, _, ⟨g, t, cs, fuel, p, q, hg, ht, hvar, hd, _, _⟩, _⟩, _⟩, _⟩ := h
  have hg' : Tryd.prog.globalNamed tabN = some 0 := by kernel_rfl
  obtain rfl := Option.some.inj (hg'.symm.trans (show Tryd.prog.globalNamed tabN = some g from hg))
  have hty : (Tryd.prog.globals[0]?).map (·.type) = some 123 := by kernel_rfl
  obtain rfl := Option.some.inj (hty.symm.trans ht)
  unfold TAB Lib.TabIs
  rw [show W.var? Tryd.prog tabN = some cs from hvar, ← Lib.cells_of_tab (zs := Lib.pow10Tab) Tryd.underlying123 Tryd.underlying106 (by kernel_rfl) (by kernel_rfl) hd]
theorem door_met (os : Os) (args : Array Value) : laidMetH Tryd.prog Rows.fnRenumberTreeRow.laid ((World.doorLaid Tryd.prog 400 os).forCall (fun _ _ => 0) ⟨#[], args, []⟩).memory :=
  laidMetH_of_parts3 (fuel := 8) (laidMet_of_run' 8 (by kernel_rfl) (by kernel_rfl)) (by kernel_rfl) (by kernel_rfl)
set_option maxRecDepth 100000 in
theorem lifted (os : Os) (started : os.Started) (H : Type) (enc : TypeId × Value → H) :
    ReturnsInHanded {} Tryd.checked os 5 .any (fun w args => (Rows.fnRenumberTreeSpec.pre enc Tryd.prog Tryd.f5 [] false w args ∧ laidMetH Tryd.prog Rows.fnRenumberTreeRow.laid w) ∧ sizedMet enc Tryd.prog Tryd.f5 (OpenSpec.ofChange Rows.fnRenumberTreeSpec) false w args) (Rows.fnRenumberTreeSpec.post enc Tryd.prog Tryd.f5 false true false false) := by
  refine returnsInHanded_of_change_and (C := Tryd.checked) (X := fun w _ => laidMetH Tryd.prog Rows.fnRenumberTreeRow.laid w) (fun _ _ _ hh h => h.of_heap hh) own started (by kernel_rfl) Tryd.func5
    (ChangeSpec.witness_shaped (enc := enc) (C := Tryd.checked) (os := os) (X := fun w _ => laidMetH Tryd.prog Rows.fnRenumberTreeRow.laid w) false (World.doorLaid Tryd.prog 400 os) #[.slice none 0 0] 8 rfl (World.shaped_of_RefB (by kernel_rfl) (by kernel_rfl)) (by kernel_rfl) (by kernel_rfl) (by kernel_rfl) (door_met os _)) ?_
  intro W base args ds gs before hval0 hW _ _ hL _
  have hval : ∀ (j : Nat) t v, Tryd.f5.params[j]? = some t → args[j]? = some v → Value.okWide Tryd.prog W .any base t v := hval0
  have hW' := hW
  obtain ⟨p, q, hA0, hV, rfl, hfz, hnd⟩ := hW'
  have hW' := hW
  have hA : DataW.TrodAll enc Tryd.prog W 0 (fun _ => true) true Tryd.f5.params.toList args.toList ds p := hA0
  rw [Tryd.params5] at hA hval
  obtain ⟨v0, vs0, d0, ds0, p0, q0, hargs, rfl, rfl, h0, r0⟩ := trodAll_cons hA
  obtain ⟨rfl, rfl, rfl⟩ := trodAll_nil r0
  obtain rfl : args = #[v0] := by cases args; simp_all
  obtain ⟨rfl, rfl⟩ := trodVars_none hV
  have k0 := h0
  have lt0 : ∀ x ∈ p0, x.block < W.heap.size := by obtain ⟨m, hm⟩ := k0; exact DataW.trod_lt m _ _ _ hm
  obtain ⟨a0, len0, cap0, rfl⟩ := okWide_slice Tryd.underlying22 (hval 0 22 v0 rfl rfl)
  have kk0 := k0
  obtain ⟨fuel0, hf0⟩ := kk0
  obtain ⟨z0, rfl, hz0, hc0, hw0, hRd0⟩ := slice_in (α := UInt8) (f := fun a : UInt8 => [byteV a]) (c := 1) Tryd.underlying22 (by kernel_rfl) (fun _ => rfl) (byte_el Tryd.underlying5) hf0
  rw [flat_one] at hRd0
  have hTab := Lay.tab_laid hL
  clear hA0 hval0
  refine (FnRenumberTree_fn a0 cap0 z0 W hRd0 hz0 hc0 hTab).out.mono fun e W' ⟨v, he, hv, hg⟩ => ?_
  subst he hv
  have bel : Below W.heap.size W W' := ⟨hg.os, hg.tape, hg.output, hg.size, fun k hk => hg.block k hk (by simp)⟩
  exact ⟨_, rfl, _, _, _, [], _, [], hW', trodAll_mk1 (shut_bool Tryd.underlying4 _), (trodAll_cons_mk (Below.trod laidOut (by kernel_rfl) (of_decide_eq_true (by kernel_rfl)) k0 bel lt0) trodAll_mk0), rfl, bel.frame _, fun h => by cases h⟩
theorem named_ : Tryd.prog.funcNamed Rows.fnRenumberTreeRow.func = some 5 := by kernel_rfl
theorem closed : joinedFacts Tryd.prog 5 Tryd.f5 Rows.fnRenumberTreeSpec Rows.fnRenumberTreeRow = true := by kernel_rfl
theorem inst_ : Tryd.f5.isInstance Tryd.prog Rows.fnRenumberTreeRow.origin Rows.fnRenumberTreeRow.targs := of_decide_eq_true (by kernel_rfl)
theorem wrap_ : Tryd.f5.isWrapper Tryd.prog Rows.fnRenumberTreeRow.wrapper Rows.fnRenumberTreeRow.mainSum := by
  unfold Func.isWrapper
  rw [if_neg (by decide +kernel)]
  exact ⟨rfl, rfl⟩
theorem over : Rows.fnRenumberTreeRow.holds Tryd.pinned (OpenSpec.ofChange Rows.fnRenumberTreeSpec) :=
  OpenClaim.holds_of_wide 5 Tryd.f5 rfl rfl rfl rfl rfl rfl rfl ⟨rfl, rfl, rfl, rfl, rfl⟩ rfl rfl rfl rfl rfl named_ Tryd.func5 closed inst_ wrap_
    (fun os started H enc _ => lifted os started H enc)
theorem proved : Rows.FnRenumberTreeCardSaid :=
  Claim7.holds_tied_plain_at .later [] [.data, .data, .data] true (true, "db42fd2b3fa81203b1d2532c6e3b330a02431683d6399b1d8445e706a7f18807") false over (fun _ h => by cases h) (by kernel_rfl) (fun _ h => by cases h) fnRenumberTree_row_tie rfl ⟨rfl, rfl⟩ (by kernel_rfl) rfl
    (fun f fn hf hfn => by
      obtain rfl : f = 5 := Option.some.inj (named_.symm.trans hf) |>.symm
      obtain rfl : fn = Tryd.f5 := (Option.some.inj (Tryd.func5.symm.trans hfn)).symm
      exact ⟨by kernel_rfl, fun j t ht => by
        rw [Tryd.params5] at ht
        have hm : t ∈ [22] := by simpa using Array.mem_of_getElem? ht
        have hall : ([22].all fun u => !Tryd.prog.wantsStandIn u) = true := by kernel_rfl
        exact (show Tryd.prog.wantsStandIn t = false by simpa using List.all_eq_true.1 hall t hm)⟩)
    (by kernel_rfl)
end Go.Proofs.YtemejgglbhjodaaDoor.fnRenumberTree
