/- The statement Rows.FnPageTextRootCardSaid: the Go function laws.FnPageTextRoot returns true for every input, and each argument reads afterwards as it read before; the tied card. Condition: the listed package-level variables read as the card ties them to the program's text. -/
import Derived.Test.YtemejgglbhjodaaGreatDoorP8
import Derived.Test.YtemejgglbhjodaaGreatDoorRows
import Derived.Test.YtemejgglbhjodaaGreatDoorCards
import Derived.Test.YtemejgglbhjodaaGreatDoorTie
import Derived.WalkKit
import Derived.ProofKit
import Derived.OpenShut
import Derived.ShutString
import Derived.ChangeOld
import Derived.SliceStrings
import Derived.Deep.Slices
import Derived.Deep.Fields
import Derived.ChangeSame
import Derived.Below
import Derived.LaidMore
import Derived.Stop.Joined
import Derived.SevenTiedAt
import Derived.MakeChecks
set_option linter.unusedVariables false
set_option linter.unusedSimpArgs false
namespace Go.Proofs.YtemejgglbhjodaaGreatDoor
open Go.Px
set_option linter.unusedVariables false
set_option maxHeartbeats 2000000 in
theorem FnPageTextRoot_fn (A : Option Addr) (c : Nat) (l : List UInt8) (w : World) (hA : Rd w A ((l).map byteV)) (hl : l.length ≤ 9223372036854775807) (hc : l.length ≤ c) (htab : TAB w) :
    Does Tryz.prog 3 [.slice (A) ((l).length) (c)] w (fun v w1 => v = .bool (true) ∧ Mem w w1 [] []) := by
  have hM : Mem w w [] [] := Mem.refl
  refine Does.n1 Tryz.func3 rfl Tryz.results3 Tryz.ntmps3 rfl ?_
  refine cd 11 [] (fun c11 => ?_) (fun c11 => ?_)
  · refine E1 5 [] (.bool (true)) ?_
    exact ⟨rfl, (Mem.none hM)⟩
  refine cq 4 [] (b := DrawChangedPages_fn _ _ _ w (hA.at hM) q0 q0) (c := ?_)
  rintro _ w3_1 ⟨r13_1, L13_1, A13_1, c13_1, G3_1, x3_1, rfl, hz3_1, hll3_1, hG3_1, hR3_1⟩
  have hM3_1 := hM.cl 0 hR3_1
  refine Al 3 [] fun w3_5 b3_5 hb3_5 hM3_5 => ?_
  refine Al 0 [] fun w3_6 b3_6 hb3_6 hM3_6 => ?_
  refine Sb 0 [] 1 fun w3_7 hM3_7 => ?_
  refine Sb 0 [] 0 fun w3_8 hM3_8 => ?_
  refine cq 5 [1, 0] (b := ChangedPages_fn (⟨r13_1, A13_1, c13_1, L13_1⟩ : TreeL) x3_1 w3_8 ⟨(hG3_1 _ (Mem.gownT hM3_8 2 rfl)).1, (hG3_1 _ (Mem.gownT hM3_8 2 rfl)).2⟩ (by exact hz3_1)) (c := ?_)
  rintro _ w4_2 ⟨A14_2, c14_2, rfl, hR4_2⟩
  have hM4_2 := hM3_8.cl 0 hR4_2
  have hcr4_2_0 := (hM4_2.cap 0 rfl).1
  refine cq 6 [2, 1] (b := PutKey_fn (⟨r13_1, A13_1, c13_1, L13_1⟩ : TreeL) x3_1 w4_2 ⟨(hG3_1 _ (Mem.gownT hM4_2 3 rfl)).1, (hG3_1 _ (Mem.gownT hM4_2 3 rfl)).2⟩ (by exact hz3_1)) (c := ?_)
  rintro _ w5_2 ⟨r15_2, L15_2, A15_2, c15_2, rfl, hts5_2, hzs5_2, hll5_2, hR5_2⟩
  have hM5_2 := hM4_2.cl 0 hR5_2
  have hcr5_2_0 := (hM5_2.cap 0 rfl).1
  refine Al 3 [] fun w5_6 b5_6 hb5_6 hM5_6 => ?_
  refine Sb 0 [] 0 fun w5_7 hM5_7 => ?_
  refine cq 8 [5, 4] (b := sChangedPages_fn (⟨r13_1, A13_1, c13_1, L13_1⟩ : TreeL) x3_1 w5_7 ⟨(hG3_1 _ (Mem.gownT hM5_7 6 rfl)).1, (hG3_1 _ (Mem.gownT hM5_7 6 rfl)).2⟩ (by exact hz3_1)) (c := ?_)
  rintro _ w6_3 ⟨A16_3, c16_3, rfl, hR6_3⟩
  have hM6_3 := hM5_7.cl 0 hR6_3
  have hcr6_3_0 := (hM6_3.cap 0 rfl).1
  refine cq 0 [] (vs := [.slice (A14_2) (((chgT ((⟨r13_1, A13_1, c13_1, L13_1⟩ : TreeL)).t x3_1)).length) (c14_2), .slice (A16_3) (((chgT ((⟨r13_1, A13_1, c13_1, L13_1⟩ : TreeL)).t x3_1)).length) (c16_3)]) (hvs := (by first | rfl | (rw [show ((chgT ((⟨r13_1, A13_1, c13_1, L13_1⟩ : TreeL)).t x3_1)).length = (chgT ((⟨r13_1, A13_1, c13_1, L13_1⟩ : TreeL)).t x3_1).length from (by first | rfl | (simp; done) | omega | (simp; omega))]; rfl))) (b := equalInts_fn A14_2 c14_2 (chgT ((⟨r13_1, A13_1, c13_1, L13_1⟩ : TreeL)).t x3_1) A16_3 c16_3 (chgT ((⟨r13_1, A13_1, c13_1, L13_1⟩ : TreeL)).t x3_1) w6_3 (hM6_3.rd 4 rfl) (hM6_3.rd 0 rfl) (by exact Nat.le_trans chgT_len (by rw [pages_len]; show L13_1.length ≤ 1048576; omega))) (c := ?_)
  rintro _ w6_4 ⟨hv6_4, hR6_4⟩
  obtain rfl : _ = Value.bool true := hv6_4.trans (by simp)
  have hM6_4 := hM6_3.cl 0 hR6_4
  refine cn 6 [] (fun c35 => ?_) (fun c35 => ?_)
  · refine cq 5 [6, 5] (b := sChangedPages_fn (⟨r13_1, A13_1, c13_1, L13_1⟩ : TreeL) x3_1 w6_4 ⟨(hG3_1 _ (Mem.gownT hM6_4 7 rfl)).1, (hG3_1 _ (Mem.gownT hM6_4 7 rfl)).2⟩ (by exact hz3_1)) (c := ?_)
    rintro _ w7_3 ⟨A17_3, c17_3, rfl, hR7_3⟩
    have hM7_3 := hM6_4.cl 0 hR7_3
    have hcr7_3_0 := (hM7_3.cap 0 rfl).1
    refine cq 0 [] (vs := [.slice (A14_2) (((chgT ((⟨r13_1, A13_1, c13_1, L13_1⟩ : TreeL)).t x3_1)).length) (c14_2), .slice (A17_3) (((chgT ((⟨r13_1, A13_1, c13_1, L13_1⟩ : TreeL)).t x3_1)).length) (c17_3)]) (hvs := (by first | rfl | (rw [show ((chgT ((⟨r13_1, A13_1, c13_1, L13_1⟩ : TreeL)).t x3_1)).length = (chgT ((⟨r13_1, A13_1, c13_1, L13_1⟩ : TreeL)).t x3_1).length from (by first | rfl | (simp; done) | omega | (simp; omega))]; rfl))) (b := equalInts_fn A14_2 c14_2 (chgT ((⟨r13_1, A13_1, c13_1, L13_1⟩ : TreeL)).t x3_1) A17_3 c17_3 (chgT ((⟨r13_1, A13_1, c13_1, L13_1⟩ : TreeL)).t x3_1) w7_3 (hM7_3.rd 5 rfl) (hM7_3.rd 0 rfl) (by exact Nat.le_trans chgT_len (by rw [pages_len]; show L13_1.length ≤ 1048576; omega))) (c := ?_)
    rintro _ w7_4 ⟨hv7_4, hR7_4⟩
    obtain rfl : _ = Value.bool true := hv7_4.trans (by simp)
    have hM7_4 := hM7_3.cl 0 hR7_4
    refine E1 3 [] (.bool (true)) ?_
    exact ⟨rfl, (Mem.none hM7_4)⟩
  have hpb : putB (⟨r13_1, A13_1, c13_1, L13_1⟩ : TreeL).t x3_1 = true := by simpa [putB] using c35
  have hts := hts5_2 hpb
  have hpl := pages_len (T := (⟨r13_1, A13_1, c13_1, L13_1⟩ : TreeL))
  have hcl := chgT_len (T := (⟨r13_1, A13_1, c13_1, L13_1⟩ : TreeL).t) (x := x3_1)
  refine lp1 7 [] (fun (k : Nat) => ([(8, Vi (((k : Nat) : Int)))] : List (Nat × SV))) (fun (k : Nat) => (k ≤ L13_1.length)) (fun (k : Nat) => []) (fun (k : Nat) => L13_1.length - k) [3, 5, 6] [] [0, 1, 2, 3, 4, 5, 6, 7] 0 (fun k σ w_l9 hI hM_l9 => ?_) (h0 := (Nat.zero_le _))
  have hi0_l9 := hI
  have hcl0_l9 := (hM_l9.cap 0 rfl).1
  have hcl2_l9 := (hM_l9.cap 2 rfl).1
  have hcl4_l9 := (hM_l9.cap 4 rfl).1
  refine cd 9 [6] (fun c45 => ?_) (fun c45 => ?_)
  · have hkl : k < L13_1.length := by omega
    refine dr 4 [] ?_
    refine qc 2 [] (X := .bool (decide (((k : Nat) : Int) ∈ (chgT ((⟨r13_1, A13_1, c13_1, L13_1⟩ : TreeL)).t x3_1)))) (b := by exact fun w2 hw2 => (lisIn_fn A14_2 c14_2 (chgT ((⟨r13_1, A13_1, c13_1, L13_1⟩ : TreeL)).t x3_1) ((k : Nat) : Int) w2 (hw2.rd 4 rfl) (by exact Nat.le_trans chgT_len (by rw [pages_len]; show L13_1.length ≤ 1048576; omega))).mono fun _ _ h => ⟨h.1, Mem.call0 (M1 := []) hw2 h.2⟩) (c := ?_)
    refine qt 2 [] 52 (fun g52 => ?_) (fun g52 => ?_)
    · have hpg := chg_page hpb (k := k) (by rw [pages_len]; exact hkl) (by simpa using g52)
      refine qc 2 [6] (X := S (pgX ((⟨r13_1, A13_1, c13_1, L13_1⟩ : TreeL)).t ((k : Nat) : Int))) (b := by exact fun w2 hw2 => (PageText_fn (⟨r13_1, A13_1, c13_1, L13_1⟩ : TreeL) ((k : Nat) : Int) w2 ⟨(hG3_1 _ (Mem.gownT hw2 7 rfl)).1, (hG3_1 _ (Mem.gownT hw2 7 rfl)).2⟩ (by exact hz3_1) (tab_at htab hw2)).mono fun _ _ h => ⟨h.1, Mem.call0 (M1 := []) hw2 h.2⟩) (c := ?_)
      refine qc 2 [1] (X := S (pgX ((⟨r15_2, A15_2, c15_2, L15_2⟩ : TreeL)).t ((k : Nat) : Int))) (b := by exact fun w2 hw2 => (PageText_fn (⟨r15_2, A15_2, c15_2, L15_2⟩ : TreeL) ((k : Nat) : Int) w2 ⟨(hw2.rd 2 rfl), (NsP.mem hw2 3 rfl)⟩ (by exact hzs5_2) (tab_at htab hw2)).mono fun _ _ h => ⟨h.1, Mem.call0 (M1 := []) hw2 h.2⟩) (c := ?_)
      refine qv 0 [] (s := Vb (false)) (a := by exact fun w2 hw2 => cv (Ru.congr (v := .bool (decide (pgX ((⟨r13_1, A13_1, c13_1, L13_1⟩ : TreeL)).t ((k : Nat) : Int) ≠ pgX ((⟨r15_2, A15_2, c15_2, L15_2⟩ : TreeL)).t ((k : Nat) : Int)))) (v' := .bool (false)) (Ru.sneq rfl rfl) ((congrArg Value.bool (decide_eq_false (by rw [← hts] at hpg; exact fun h9 => h9 hpg))))) rfl) (b := ?_)
      refine qn 1 [] fun w11d hM11d => ?_
      refine ov 4 [] (a := kaddN (k + 1)) (b := ?_)
      exact le1 2 [] (k + 1) [0, 1, 2, 3, 4, 5, 6, 7] (h := by exact (by (try dsimp only); omega))
    refine qn 8 [] fun w11d hM11d => ?_
    refine ov 4 [] (a := kaddN (k + 1)) (b := ?_)
    exact le1 2 [] (k + 1) [0, 1, 2, 3, 4, 5, 6, 7] (h := by exact (by (try dsimp only); omega))
  refine E1 6 [] (.bool (true)) ?_
  exact ⟨rfl, (Mem.none hM_l9)⟩
end Go.Proofs.YtemejgglbhjodaaGreatDoor
namespace Go.Proofs.YtemejgglbhjodaaGreatDoor.fnPageTextRoot
open Go.ChangeShapes Go.WideShapes Go.ChangeAt Go.RowKit Go.Px
open Go.ChangeMaps (open_string shut_string)
set_option linter.unusedVariables false
theorem own : ownKnob Tryz.prog.godebug = none := by kernel_rfl
theorem laidOut : laidOutB Tryz.prog = true := by kernel_rfl
theorem Lay.tab_laid {W : World} (h : laidMetH Tryz.prog Rows.fnPageTextRootRow.laid W) : TAB W := by
  rw [MakeChecks.laidMetH_plain _ _ _ (by kernel_rfl)] at h
  obtain ⟨ps, ⟨g0, t0, cs0, f0, p0, q0, _, _, _, _, ⟨g1, t1, cs1, f1, p1, q1, _, _, _, _, ⟨g, t, cs, fuel, p, q, hg, ht, hvar, hd, _, _⟩, _⟩, _⟩, _⟩ := h
  have hg' : Tryz.prog.globalNamed tabN = some 1 := by kernel_rfl
  obtain rfl := Option.some.inj (hg'.symm.trans (show Tryz.prog.globalNamed tabN = some g from hg))
  have hty : (Tryz.prog.globals[1]?).map (·.type) = some 201 := by kernel_rfl
  obtain rfl := Option.some.inj (hty.symm.trans ht)
  unfold TAB Lib.TabIs
  rw [show W.var? Tryz.prog tabN = some cs from hvar, ← Lib.cells_of_tab (zs := Lib.pow10Tab) Tryz.underlying201 Tryz.underlying180 (by kernel_rfl) (by kernel_rfl) hd]
theorem door_met (os : Os) (args : Array Value) : laidMetH Tryz.prog Rows.fnPageTextRootRow.laid ((World.doorLaid Tryz.prog 400 os).forCall (fun _ _ => 0) ⟨#[], args, []⟩).memory :=
  laidMetH_of_parts3 (fuel := 8) (laidMet_of_run' 8 (by kernel_rfl) (by kernel_rfl)) (by kernel_rfl) (by kernel_rfl)
set_option maxRecDepth 100000 in
theorem lifted (os : Os) (started : os.Started) (H : Type) (enc : TypeId × Value → H) :
    ReturnsInHanded {} Tryz.checked os 3 .any (fun w args => (Rows.fnPageTextRootSpec.pre enc Tryz.prog Tryz.f3 [] false w args ∧ laidMetH Tryz.prog Rows.fnPageTextRootRow.laid w) ∧ sizedMet enc Tryz.prog Tryz.f3 (OpenSpec.ofChange Rows.fnPageTextRootSpec) false w args) (Rows.fnPageTextRootSpec.post enc Tryz.prog Tryz.f3 false true false false) := by
  refine returnsInHanded_of_change_and (C := Tryz.checked) (X := fun w _ => laidMetH Tryz.prog Rows.fnPageTextRootRow.laid w) (fun _ _ _ hh h => h.of_heap hh) own started (by kernel_rfl) Tryz.func3
    (ChangeSpec.witness_shaped (enc := enc) (C := Tryz.checked) (os := os) (X := fun w _ => laidMetH Tryz.prog Rows.fnPageTextRootRow.laid w) false (World.doorLaid Tryz.prog 400 os) #[.slice none 0 0] 8 rfl (World.shaped_of_RefB (by kernel_rfl) (by kernel_rfl)) (by kernel_rfl) (by kernel_rfl) (by kernel_rfl) (door_met os _)) ?_
  intro W base args ds gs before hval0 hW _ _ hL _
  have hval : ∀ (j : Nat) t v, Tryz.f3.params[j]? = some t → args[j]? = some v → Value.okWide Tryz.prog W .any base t v := hval0
  have hW' := hW
  obtain ⟨p, q, hA0, hV, rfl, hfz, hnd⟩ := hW'
  have hW' := hW
  have hA : DataW.TrodAll enc Tryz.prog W 0 (fun _ => true) true Tryz.f3.params.toList args.toList ds p := hA0
  rw [Tryz.params3] at hA hval
  obtain ⟨v0, vs0, d0, ds0, p0, q0, hargs, rfl, rfl, h0, r0⟩ := trodAll_cons hA
  obtain ⟨rfl, rfl, rfl⟩ := trodAll_nil r0
  obtain rfl : args = #[v0] := by cases args; simp_all
  obtain ⟨rfl, rfl⟩ := trodVars_none hV
  have k0 := h0
  have lt0 : ∀ x ∈ p0, x.block < W.heap.size := by obtain ⟨m, hm⟩ := k0; exact DataW.trod_lt m _ _ _ hm
  obtain ⟨a0, len0, cap0, rfl⟩ := okWide_slice Tryz.underlying22 (hval 0 22 v0 rfl rfl)
  have kk0 := k0
  obtain ⟨fuel0, hf0⟩ := kk0
  obtain ⟨z0, rfl, hz0, hc0, hw0, hRd0⟩ := slice_in (α := UInt8) (f := fun a : UInt8 => [byteV a]) (c := 1) Tryz.underlying22 (by kernel_rfl) (fun _ => rfl) (byte_el Tryz.underlying5) hf0
  rw [flat_one] at hRd0
  have hTab := Lay.tab_laid hL
  clear hA0 hval0
  refine (FnPageTextRoot_fn a0 cap0 z0 W hRd0 hz0 hc0 hTab).out.mono fun e W' ⟨v, he, hv, hg⟩ => ?_
  subst he hv
  have bel : Below W.heap.size W W' := ⟨hg.os, hg.tape, hg.output, hg.size, fun k hk => hg.block k hk (by simp)⟩
  exact ⟨_, rfl, _, _, _, [], _, [], hW', trodAll_mk1 (shut_bool Tryz.underlying4 _), (trodAll_cons_mk (Below.trod laidOut (by kernel_rfl) (of_decide_eq_true (by kernel_rfl)) k0 bel lt0) trodAll_mk0), rfl, bel.frame _, fun h => by cases h⟩
theorem named_ : Tryz.prog.funcNamed Rows.fnPageTextRootRow.func = some 3 := by kernel_rfl
theorem closed : joinedFacts Tryz.prog 3 Tryz.f3 Rows.fnPageTextRootSpec Rows.fnPageTextRootRow = true := by kernel_rfl
theorem inst_ : Tryz.f3.isInstance Tryz.prog Rows.fnPageTextRootRow.origin Rows.fnPageTextRootRow.targs := of_decide_eq_true (by kernel_rfl)
theorem wrap_ : Tryz.f3.isWrapper Tryz.prog Rows.fnPageTextRootRow.wrapper Rows.fnPageTextRootRow.mainSum := by
  unfold Func.isWrapper
  rw [if_neg (by decide +kernel)]
  exact ⟨rfl, rfl⟩
theorem over : Rows.fnPageTextRootRow.holds Tryz.pinned (OpenSpec.ofChange Rows.fnPageTextRootSpec) :=
  OpenClaim.holds_of_wide 3 Tryz.f3 rfl rfl rfl rfl rfl rfl rfl ⟨rfl, rfl, rfl, rfl, rfl⟩ rfl rfl rfl rfl rfl named_ Tryz.func3 closed inst_ wrap_
    (fun os started H enc _ => lifted os started H enc)
theorem proved : Rows.FnPageTextRootCardSaid :=
  Claim7.holds_tied_plain_at .later [] [.data, .data, .data] true (true, "ffc965ebab3b4f46face1f8cfe82471ad686a5b506f194f3dcdf81a67ea81070") true over (fun _ h => by cases h) (by kernel_rfl) (fun _ h => by cases h) fnPageTextRoot_row_tie rfl ⟨rfl, rfl⟩ (by kernel_rfl) rfl
    (fun f fn hf hfn => by
      obtain rfl : f = 3 := Option.some.inj (named_.symm.trans hf) |>.symm
      obtain rfl : fn = Tryz.f3 := (Option.some.inj (Tryz.func3.symm.trans hfn)).symm
      exact ⟨by kernel_rfl, fun j t ht => by
        rw [Tryz.params3] at ht
        have hm : t ∈ [22] := by simpa using Array.mem_of_getElem? ht
        have hall : ([22].all fun u => !Tryz.prog.wantsStandIn u) = true := by kernel_rfl
        exact (show Tryz.prog.wantsStandIn t = false by simpa using List.all_eq_true.1 hall t hm)⟩)
    (by kernel_rfl)
end Go.Proofs.YtemejgglbhjodaaGreatDoor.fnPageTextRoot
