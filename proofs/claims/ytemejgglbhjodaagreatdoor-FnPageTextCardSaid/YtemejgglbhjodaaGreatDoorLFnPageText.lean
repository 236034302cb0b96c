/- The statement Rows.FnPageTextCardSaid: the Go function laws.FnPageText returns true for every input, and each argument reads afterwards as it read before; the tied card. Condition: the listed package-level variables read as the card ties them to the program's text. -/
import Derived.Test.YtemejgglbhjodaaGreatDoorP7
import Derived.Test.YtemejgglbhjodaaGreatDoorRows
import Derived.Test.YtemejgglbhjodaaGreatDoorCards
import Derived.Test.YtemejgglbhjodaaGreatDoorTie
import Derived.WalkKit
import Derived.ProofKit
import Derived.OpenShut
import Derived.ShutString
import Derived.ChangeOld
import Derived.SliceStrings
import Derived.Deep.Slices
import Derived.Deep.Fields
import Derived.ChangeSame
import Derived.Below
import Derived.LaidMore
import Derived.Stop.Joined
import Derived.SevenTiedAt
import Derived.MakeChecks
import Derived.Lay
set_option linter.unusedVariables false
set_option linter.unusedSimpArgs false
namespace Go.Proofs.YtemejgglbhjodaaGreatDoor
open Go.Px
set_option linter.unusedVariables false
set_option maxHeartbeats 2000000 in
theorem FnPageText_fn (A : Option Addr) (c : Nat) (l : List UInt8) (w : World) (hA : Rd w A ((l).map byteV)) (hl : l.length ≤ 9223372036854775807) (hc : l.length ≤ c) (hlw : LW w) :
    Does Tryz.prog 4 [.slice (A) ((l).length) (c)] w (fun v w1 => v = .bool (true) ∧ Mem w w1 [] []) := by
  have hM : Mem w w [] [] := Mem.refl
  refine Does.n1 Tryz.func4 rfl Tryz.results4 Tryz.ntmps4 rfl ?_
  refine cd 11 [] (fun c12 => ?_) (fun c12 => ?_)
  · refine E1 5 [] (.bool (true)) ?_
    exact ⟨rfl, (Mem.none hM)⟩
  · refine cq 4 [] (b := DrawPageText_fn _ _ _ w (hA.at hM) q0 q0) (c := ?_)
    rintro _ w3_1 ⟨r13_1, L13_1, A13_1, c13_1, G3_1, x13_1, rfl, hz3_1, hll3_1, hG3_1, hR3_1⟩
    have hM3_1 := hM.cl 0 hR3_1
    refine Al 3 [] fun w3_5 b3_5 hb3_5 hM3_5 => ?_
    refine Sb 0 [] 0 fun w3_6 hM3_6 => ?_
    refine cp 6 [0] (b := PageText_fn (⟨r13_1, A13_1, c13_1, L13_1⟩ : TreeL) _ w3_6 ⟨(hG3_1 _ (Mem.gownT hM3_6 1 rfl)).1, (hG3_1 _ (Mem.gownT hM3_6 1 rfl)).2⟩ (by exact hz3_1) (tab_at hlw.tab hM3_6)) (c := fun w4_2 hM4_2 => ?_)
    refine cp 8 [0] (b := sPageText_fn (⟨r13_1, A13_1, c13_1, L13_1⟩ : TreeL) _ w4_2 ⟨(hG3_1 _ (Mem.gownT hM4_2 1 rfl)).1, (hG3_1 _ (Mem.gownT hM4_2 1 rfl)).2⟩ (by exact hz3_1)) (c := fun w5_3 hM5_3 => ?_)
    refine ov 0 [] (s := Vb (false)) (a := by exact cv (Ru.congr (v := .bool (decide (pgX ((⟨r13_1, A13_1, c13_1, L13_1⟩ : TreeL)).t x13_1 ≠ pgX ((⟨r13_1, A13_1, c13_1, L13_1⟩ : TreeL)).t x13_1))) (v' := .bool (false)) (Ru.sneq rfl rfl) ((congrArg Value.bool (decide_eq_false (by simp))))) rfl) (b := ?_)
    refine cp 2 [0] (b := ValidTree_fn (⟨r13_1, A13_1, c13_1, L13_1⟩ : TreeL) w5_3 ⟨(hG3_1 _ (Mem.gownT hM5_3 1 rfl)).1, (hG3_1 _ (Mem.gownT hM5_3 1 rfl)).2⟩ (by exact hz3_1)) (c := fun w5_7 hM5_7 => ?_)
    refine pt 3 [] 31 (fun g31 => ?_) (fun g31 => ?_)
    · refine cp 17 [0] (b := sPageText_fn (⟨r13_1, A13_1, c13_1, L13_1⟩ : TreeL) _ w5_7 ⟨(hG3_1 _ (Mem.gownT hM5_7 1 rfl)).1, (hG3_1 _ (Mem.gownT hM5_7 1 rfl)).2⟩ (by exact hz3_1)) (c := fun w6_3 hM6_3 => ?_)
      refine ov 0 [] (s := Vb (true)) (a := by exact cv (Ru.congr (v := .bool (decide (pgX ((⟨r13_1, A13_1, c13_1, L13_1⟩ : TreeL)).t x13_1 = pgX ((⟨r13_1, A13_1, c13_1, L13_1⟩ : TreeL)).t x13_1))) (v' := .bool (true)) (Ru.seql rfl rfl) ((congrArg Value.bool (decide_eq_true rfl)))) rfl) (b := ?_)
      refine E1 3 [] (.bool (true)) ?_
      exact ⟨rfl, (Mem.none hM6_3)⟩
    · refine pp 4 [] 35 (fun g35 => ?_) (fun g35 => ?_)
      · refine cp 13 [0] (b := sPageText_fn (⟨r13_1, A13_1, c13_1, L13_1⟩ : TreeL) _ w5_7 ⟨(hG3_1 _ (Mem.gownT hM5_7 1 rfl)).1, (hG3_1 _ (Mem.gownT hM5_7 1 rfl)).2⟩ (by exact hz3_1)) (c := fun w6_3 hM6_3 => ?_)
        refine ov 0 [] (s := Vb (true)) (a := by exact cv (Ru.congr (v := .bool (decide (pgX ((⟨r13_1, A13_1, c13_1, L13_1⟩ : TreeL)).t x13_1 = pgX ((⟨r13_1, A13_1, c13_1, L13_1⟩ : TreeL)).t x13_1))) (v' := .bool (true)) (Ru.seql rfl rfl) ((congrArg Value.bool (decide_eq_true rfl)))) rfl) (b := ?_)
        refine E1 3 [] (.bool (true)) ?_
        exact ⟨rfl, (Mem.none hM6_3)⟩
      · refine cd 7 [0] (fun c41 => ?_) (fun c41 => ?_)
        · refine cp 5 [0] (b := sPageText_fn (⟨r13_1, A13_1, c13_1, L13_1⟩ : TreeL) _ w5_7 ⟨(hG3_1 _ (Mem.gownT hM5_7 1 rfl)).1, (hG3_1 _ (Mem.gownT hM5_7 1 rfl)).2⟩ (by exact hz3_1)) (c := fun w6_3 hM6_3 => ?_)
          refine ov 0 [] (s := Vb (true)) (a := by exact cv (Ru.congr (v := .bool (decide (pgX ((⟨r13_1, A13_1, c13_1, L13_1⟩ : TreeL)).t x13_1 = pgX ((⟨r13_1, A13_1, c13_1, L13_1⟩ : TreeL)).t x13_1))) (v' := .bool (true)) (Ru.seql rfl rfl) ((congrArg Value.bool (decide_eq_true rfl)))) rfl) (b := ?_)
          refine E1 3 [] (.bool (true)) ?_
          exact ⟨rfl, (Mem.none hM6_3)⟩
        · have hv : validT (⟨r13_1, A13_1, c13_1, L13_1⟩ : TreeL).t = true := by simp_all
          have hpl : (⟨r13_1, A13_1, c13_1, L13_1⟩ : TreeL).t.pages.length = L13_1.length := pages_len
          have hat : 0 ≤ x13_1 ∧ x13_1 < (L13_1.length : Int) := by first | omega | (simp_all; omega)
          have hin : inT (⟨r13_1, A13_1, c13_1, L13_1⟩ : TreeL).t x13_1 = true := inT_t.2 (by show _ ∧ x13_1 < ((L13_1).length : Int); omega)
          have hjx : (x13_1).toNat < L13_1.length := by omega
          have hgp : gP (⟨r13_1, A13_1, c13_1, L13_1⟩ : TreeL).t x13_1 = ((L13_1)[(x13_1).toNat]'hjx).t := gP_at rfl hjx
          have hbk := bar_kids hv hin
          rw [hgp] at hbk
          have hfl : (pgX (⟨r13_1, A13_1, c13_1, L13_1⟩ : TreeL).t x13_1).length ≤ 1200 := pgX_len hv hin
          have hsz9 := hz3_1.at hjx
          refine lp1 11 [] (fun (k : Nat) => ([(6, Vb (bar ((pgX (⟨r13_1, A13_1, c13_1, L13_1⟩ : TreeL).t x13_1).take k))), (7, Vi (((k : Nat) : Int)))] : List (Nat × SV))) (fun (k : Nat) => (k ≤ (pgX (⟨r13_1, A13_1, c13_1, L13_1⟩ : TreeL).t x13_1).length)) (fun (k : Nat) => []) (fun (k : Nat) => (pgX (⟨r13_1, A13_1, c13_1, L13_1⟩ : TreeL).t x13_1).length - k) [3, 4, 5] [] [0, 1] 0 (fun k σ w_l9 hI hM_l9 => ?_) (hL := by exact (Has.cons rfl (Has.cons (I_congr (by first | rfl | omega | (simp; omega) | simp)) Has.nil))) (h0 := (Nat.zero_le _))
          have hi0_l9 := hI
          refine cd 8 [] (fun c50 => ?_) (fun c50 => ?_)
          · have hkl : k < (pgX (⟨r13_1, A13_1, c13_1, L13_1⟩ : TreeL).t x13_1).length := by omega
            refine pt 6 [] 54 (fun g54 => ?_) (fun g54 => ?_)
            · refine ov 9 [] (a := kaddN (k + 1)) (b := ?_)
              exact le1 2 [] (k + 1) [0, 1] (hL := by exact (Has.cons (by first | exact congrArg Value.bool (bar_t hkl g54) | exact congrArg Value.bool (bar_f hkl g54)) (Has.cons (I_congr (by first | rfl | omega | (simp; omega) | simp)) Has.nil))) (h := by exact (by (try dsimp only); omega))
            · have hx11_4 : k < (pgX ((⟨r13_1, A13_1, c13_1, L13_1⟩ : TreeL)).t x13_1).length := (by first | omega | (simp; omega))
              refine ov 2 [] (s := Vn .u8 ((((pgX ((⟨r13_1, A13_1, c13_1, L13_1⟩ : TreeL)).t x13_1)[k]'hx11_4).toNat : Int))) (a := by exact cv (Ru.sindex (k) hx11_4 Tryz.underlying9 rfl rfl (by omega) (by omega)) rfl) (b := ?_)
              refine ov 6 [] (a := kaddN (k + 1)) (b := ?_)
              exact le1 2 [] (k + 1) [0, 1] (hL := by exact (Has.cons (by first | exact congrArg Value.bool (bar_t hkl g54) | exact congrArg Value.bool (bar_f hkl g54)) (Has.cons (I_congr (by first | rfl | omega | (simp; omega) | simp)) Has.nil))) (h := by exact (by (try dsimp only); omega))
          · have hke : (pgX (⟨r13_1, A13_1, c13_1, L13_1⟩ : TreeL).t x13_1).take k = pgX (⟨r13_1, A13_1, c13_1, L13_1⟩ : TreeL).t x13_1 := take_all (by omega)
            refine cb 6 [] (fun c60 => ?_) (fun c60 => ?_)
            · rw [hke] at c60
              have hkk := hbk.1 c60
              have hx13_3 : (x13_1).toNat < (L13_1).length := (by omega)
              refine ov 5 [0] (a := kixF hx13_3 (hG3_1 _ (Mem.gownT hM_l9 1 rfl)).1 (h0 := by omega)) (b := ?_)
              refine ov 0 [] (a := kflF hx13_3 (hG3_1 _ (Mem.gownT hM_l9 1 rfl)).1) (b := ?_)
              refine ov 0 [] (a := kldF hx13_3 (hG3_1 _ (Mem.gownT hM_l9 1 rfl)).1) (b := ?_)
              refine ov 1 [] (s := Vb (true)) (a := by exact cv (Ru.congr (v := .bool (decide (((((L13_1)[(x13_1).toNat]'hx13_3).c.l.length : Nat) : Int) > 0))) (v' := .bool (true)) (Ru.gtr rfl rfl) ((congrArg Value.bool (decide_eq_true (by have h9 : 0 < (((L13_1)[(x13_1).toNat]'hjx)).c.l.length := List.length_pos_iff.2 hkk; omega))))) rfl) (b := ?_)
              refine E1 3 [] (.bool (true)) ?_
              exact ⟨rfl, (Mem.none hM_l9)⟩
            · rw [hke] at c60
              have hk0 : (((L13_1)[(x13_1).toNat]'hjx)).c.l = [] := by apply Classical.byContradiction; intro hn; rw [hbk.2 hn] at c60; cases c60
              have hrw := pg_row hv hin (by rw [hgp]; exact hk0)
              rw [hgp] at hrw
              refine cq 4 [] (b := ParseRow_fn _ w_l9 (hlw.at hM_l9) qo) (c := ?_)
              rintro _ w14_1 ⟨A114_1, c114_1, rfl, hR14_1⟩
              have hM14_1 := hM_l9.cl 0 hR14_1
              have hcr14_1_0 := (hM14_1.cap 0 rfl).1
              refine any 7 [] 23 [0, 1, 2] fun w15a hM15a => ?_
              have hx15_3 : (x13_1).toNat < (L13_1).length := (by omega)
              refine av [0, 1, 2] [1] 3 (a := by exact fun _ hw2 => kixF hx15_3 (hG3_1 _ (Mem.gownT hM15a 2 rfl)).1 (h0 := by omega)) (b := ?_)
              refine av [] [] 4 (a := by exact fun _ hw2 => kflF hx15_3 (hG3_1 _ (Mem.gownT hM15a 2 rfl)).1) (b := ?_)
              refine av [] [] 5 (a := by exact fun _ hw2 => kldF hx15_3 (hG3_1 _ (Mem.gownT hw2 2 rfl)).1) (b := ?_)
              refine av [6] [] 7 (s := Vb (true)) (a := by exact fun w2 hw2 => cv (Ru.congr (v := .bool (decide (((((L13_1)[(x13_1).toNat]'hx15_3).c.l.length : Nat) : Int) = 0))) (v' := .bool (true)) (Ru.eql rfl rfl) ((congrArg Value.bool (decide_eq_true (by rw [hk0]; rfl))))) rfl) (b := ?_)
              refine zt [8, 9, 10, 11] [] 85 (fun g85 => ?_) (fun g85 => ?_)
              · have hx15_17 : (x13_1).toNat < (L13_1).length := (by omega)
                refine av [12, 14, 15, 16] [1] 17 (a := by exact fun _ hw2 => kixF hx15_17 (hG3_1 _ (Mem.gownT hM15a 2 rfl)).1 (h0 := by omega)) (b := ?_)
                refine av [] [] 18 (a := by exact fun _ hw2 => kflF hx15_17 (hG3_1 _ (Mem.gownT hM15a 2 rfl)).1) (b := ?_)
                refine av [] [] 19 (a := by exact fun _ hw2 => kldF hx15_17 (hG3_1 _ (Mem.gownT hw2 2 rfl)).1) (b := ?_)
                refine aO [] [] 13 ?_
                refine cq 0 [] (b := lkeysOf_fn _ _ _ w15a (hM15a.rd 0 rfl) (by (rw [hrw, Option.getD_some, prs_lenG]; exact hsz9.1))) (c := ?_)
                rintro _ w15_13 ⟨A115_13, c115_13, rfl, hR15_13⟩
                have hM15_13 := hM15a.cl 0 hR15_13
                have hcr15_13_0 := (hM15_13.cap 0 rfl).1
                refine os 0 [] [1, 2, 3] ?_
                refine aO [] [] 20 ?_
                refine cq 0 [] (vs := [.slice (A115_13) ((keysP ((rowS (pgX ((⟨r13_1, A13_1, c13_1, L13_1⟩ : TreeL)).t x13_1)).getD [])).length) (c115_13), .slice (((L13_1)[(x13_1).toNat]'hx15_17).k.A) ((((L13_1)[(x13_1).toNat]'hx15_17).k.l).length) (((L13_1)[(x13_1).toNat]'hx15_17).k.cp)]) (hvs := (by first | rfl | (rw [show (((L13_1)[(x13_1).toNat]'hx15_17).k.l).length = ((L13_1)[(x13_1).toNat]'hx15_17).k.l.length from (by first | rfl | (simp; done) | omega | (simp; omega))]; rfl))) (b := equalInts_fn _ _ _ (((L13_1)[(x13_1).toNat]'hx15_17).k.A) (((L13_1)[(x13_1).toNat]'hx15_17).k.cp) (((L13_1)[(x13_1).toNat]'hx15_17).k.l) w15_13 (hM15_13.rd 0 rfl) ((hG3_1 _ (Mem.gownT hM15_13 3 rfl)).2.get hx15_17).1 (by (rw [hrw, Option.getD_some, prs_keys]; exact hsz9.1))) (c := ?_)
                rintro _ w15_20 ⟨hv15_20, hR15_20⟩
                obtain rfl : _ = .bool (true) := hv15_20.trans (congrArg Value.bool (decide_eq_true (by rw [hrw]; exact prs_keys)))
                have hM15_20 := hM15_13.cl 0 hR15_20
                refine os 0 [] [1, 2, 3] ?_
                refine an [21, 22] [] ?_
                refine E1 1 [] (.bool (true)) ?_
                exact ⟨rfl, (Mem.none hM15_20)⟩
              · exfalso; rw [hrw] at g85; simp at g85
end Go.Proofs.YtemejgglbhjodaaGreatDoor
namespace Go.Proofs.YtemejgglbhjodaaGreatDoor.fnPageText
open Go.ChangeShapes Go.WideShapes Go.ChangeAt Go.RowKit Go.Px
open Go.ChangeMaps (open_string shut_string)
set_option linter.unusedVariables false
theorem own : ownKnob Tryz.prog.godebug = none := by kernel_rfl
theorem laidOut : laidOutB Tryz.prog = true := by kernel_rfl
set_option maxRecDepth 100000 in
theorem lifted (os : Os) (started : os.Started) (H : Type) (enc : TypeId × Value → H) :
    ReturnsInHanded {} Tryz.checked os 4 .any (fun w args => (Rows.fnPageTextSpec.pre enc Tryz.prog Tryz.f4 [] false w args ∧ laidMetH Tryz.prog Rows.fnPageTextRow.laid w) ∧ sizedMet enc Tryz.prog Tryz.f4 (OpenSpec.ofChange Rows.fnPageTextSpec) false w args) (Rows.fnPageTextSpec.post enc Tryz.prog Tryz.f4 false true false false) := by
  refine Px.returnsIn_and_shaped (C := Tryz.checked) (X := fun w _ => laidMetH Tryz.prog Rows.fnPageTextRow.laid w) (fun _ _ _ hh h => h.of_heap hh) own started (by kernel_rfl) Tryz.func4
    (ChangeSpec.witness_shaped (enc := enc) (C := Tryz.checked) (os := os) (X := fun w _ => laidMetH Tryz.prog Rows.fnPageTextRow.laid w) false (World.laidAll Tryz.prog os Rows.fnPageTextRow.laid) #[.slice none 0 0] 8 (World.laidAll_os _ _ _) (World.shaped_of_ZipB (by kernel_rfl) (by kernel_rfl)) (by kernel_rfl) (by kernel_rfl) (by kernel_rfl) (by rw [MakeChecks.laidMetH_plain _ _ _ (by kernel_rfl)]; exact laidMet_laidAll _ (by kernel_rfl) (by kernel_rfl))) ?_
  intro W base args ds gs before hval0 hW hL hsh
  have hval : ∀ (j : Nat) t v, Tryz.f4.params[j]? = some t → args[j]? = some v → Value.okWide Tryz.prog W .any base t v := hval0
  have hW' := hW
  obtain ⟨p, q, hA0, hV, rfl, hfz, hnd⟩ := hW'
  have hW' := hW
  have hA : DataW.TrodAll enc Tryz.prog W 0 (fun _ => true) true Tryz.f4.params.toList args.toList ds p := hA0
  rw [Tryz.params4] at hA hval
  obtain ⟨v0, vs0, d0, ds0, p0, q0, hargs, rfl, rfl, h0, r0⟩ := trodAll_cons hA
  obtain ⟨rfl, rfl, rfl⟩ := trodAll_nil r0
  obtain rfl : args = #[v0] := by cases args; simp_all
  obtain ⟨rfl, rfl⟩ := trodVars_none hV
  have k0 := h0
  have lt0 : ∀ x ∈ p0, x.block < W.heap.size := by obtain ⟨m, hm⟩ := k0; exact DataW.trod_lt m _ _ _ hm
  obtain ⟨a0, len0, cap0, rfl⟩ := okWide_slice Tryz.underlying22 (hval 0 22 v0 rfl rfl)
  have kk0 := k0
  obtain ⟨fuel0, hf0⟩ := kk0
  obtain ⟨z0, rfl, hz0, hc0, hw0, hRd0⟩ := slice_in (α := UInt8) (f := fun a : UInt8 => [byteV a]) (c := 1) Tryz.underlying22 (by kernel_rfl) (fun _ => rfl) (byte_el Tryz.underlying5) hf0
  rw [flat_one] at hRd0
  have hLw : LW W := lw_of hL hsh
  clear hA0 hval0
  refine (FnPageText_fn a0 cap0 z0 W hRd0 hz0 hc0 hLw).out.mono fun e W' ⟨v, he, hv, hg⟩ => ?_
  subst he hv
  have bel : Below W.heap.size W W' := ⟨hg.os, hg.tape, hg.output, hg.size, fun k hk => hg.block k hk (by simp)⟩
  exact ⟨_, rfl, _, _, _, [], _, [], hW', trodAll_mk1 (shut_bool Tryz.underlying4 _), (trodAll_cons_mk (Below.trod laidOut (by kernel_rfl) (of_decide_eq_true (by kernel_rfl)) k0 bel lt0) trodAll_mk0), rfl, bel.frame _, fun h => by cases h⟩
theorem named_ : Tryz.prog.funcNamed Rows.fnPageTextRow.func = some 4 := by kernel_rfl
theorem closed : joinedFacts Tryz.prog 4 Tryz.f4 Rows.fnPageTextSpec Rows.fnPageTextRow = true := by kernel_rfl
theorem inst_ : Tryz.f4.isInstance Tryz.prog Rows.fnPageTextRow.origin Rows.fnPageTextRow.targs := of_decide_eq_true (by kernel_rfl)
theorem wrap_ : Tryz.f4.isWrapper Tryz.prog Rows.fnPageTextRow.wrapper Rows.fnPageTextRow.mainSum := by
  unfold Func.isWrapper
  rw [if_neg (by decide +kernel)]
  exact ⟨rfl, rfl⟩
theorem over : Rows.fnPageTextRow.holds Tryz.pinned (OpenSpec.ofChange Rows.fnPageTextSpec) :=
  OpenClaim.holds_of_wide 4 Tryz.f4 rfl rfl rfl rfl rfl rfl rfl ⟨rfl, rfl, rfl, rfl, rfl⟩ rfl rfl rfl rfl rfl named_ Tryz.func4 closed inst_ wrap_
    (fun os started H enc _ => lifted os started H enc)
theorem proved : Rows.FnPageTextCardSaid :=
  Claim7.holds_tied_plain_at .later [] [.data, .data, .data, .data, .sentinel, .sentinel, .pinned] true (true, "ffc965ebab3b4f46face1f8cfe82471ad686a5b506f194f3dcdf81a67ea81070") true over (fun _ h => by cases h) (by kernel_rfl) (fun _ h => by cases h) fnPageText_row_tie rfl ⟨rfl, rfl⟩ (by kernel_rfl) rfl
    (fun f fn hf hfn => by
      obtain rfl : f = 4 := Option.some.inj (named_.symm.trans hf) |>.symm
      obtain rfl : fn = Tryz.f4 := (Option.some.inj (Tryz.func4.symm.trans hfn)).symm
      exact ⟨by kernel_rfl, fun j t ht => by
        rw [Tryz.params4] at ht
        have hm : t ∈ [22] := by simpa using Array.mem_of_getElem? ht
        have hall : ([22].all fun u => !Tryz.prog.wantsStandIn u) = true := by kernel_rfl
        exact (show Tryz.prog.wantsStandIn t = false by simpa using List.all_eq_true.1 hall t hm)⟩)
    (by kernel_rfl)
end Go.Proofs.YtemejgglbhjodaaGreatDoor.fnPageText
