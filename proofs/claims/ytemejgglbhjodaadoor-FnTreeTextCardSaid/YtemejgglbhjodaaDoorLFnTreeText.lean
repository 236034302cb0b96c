/- The statement Rows.FnTreeTextCardSaid: the Go function laws.FnTreeText returns true for every input, and each argument reads afterwards as it read before; the tied card. Condition: the listed package-level variables read as the card ties them to the program's text. -/
import Derived.Test.YtemejgglbhjodaaDoorP7
import Derived.Test.YtemejgglbhjodaaDoorRows
import Derived.Test.YtemejgglbhjodaaDoorCards
import Derived.Test.YtemejgglbhjodaaDoorTie
import Derived.WalkKit
import Derived.ProofKit
import Derived.OpenShut
import Derived.ShutString
import Derived.ChangeOld
import Derived.SliceStrings
import Derived.Deep.Slices
import Derived.Deep.Fields
import Derived.ChangeSame
import Derived.Below
import Derived.LaidMore
import Derived.Stop.Joined
import Derived.SevenTiedAt
import Derived.MakeChecks
set_option linter.unusedVariables false
set_option linter.unusedSimpArgs false
namespace Go.Proofs.YtemejgglbhjodaaDoor
open Go.Px
set_option linter.unusedVariables false
set_option maxHeartbeats 2000000 in
theorem FnTreeText_fn (A : Option Addr) (c : Nat) (l : List UInt8) (w : World) (hA : Rd w A ((l).map byteV)) (hl : l.length ≤ 9223372036854775807) (hc : l.length ≤ c) (htab : TAB w) :
    Does Tryd.prog 3 [.slice (A) ((l).length) (c)] w (fun v w1 => v = .bool (true) ∧ Mem w w1 [] []) := by
  have hM : Mem w w [] [] := Mem.refl
  refine Does.n1 Tryd.func3 rfl Tryd.results3 Tryd.ntmps3 rfl ?_
  refine cd 11 [] (fun c11 => ?_) (fun c11 => ?_)
  · refine E1 5 [] (.bool (true)) ?_
    exact ⟨rfl, (Mem.none hM)⟩
  · refine cq 4 [] (b := DrawFormatTree_fn _ _ _ w (hA.at hM) q0 q0) (c := ?_)
    rintro _ w3_1 ⟨r13_1, L13_1, A13_1, c13_1, G3_1, rfl, hz3_1, hll3_1, hG3_1, hR3_1⟩
    have hM3_1 := hM.cl 0 hR3_1
    refine Al 0 [] fun w3_2 b3_2 hb3_2 hM3_2 => ?_
    refine Sb 0 [] 0 fun w3_3 hM3_3 => ?_
    refine cp 4 [0] (b := FormatTree_fn (⟨r13_1, A13_1, c13_1, L13_1⟩ : TreeL) w3_3 ⟨(hG3_1 _ (Mem.gownT hM3_3 1 rfl)).1, (hG3_1 _ (Mem.gownT hM3_3 1 rfl)).2⟩ (by exact hz3_1) (tab_at htab hM3_3)) (c := fun w4_1 hM4_1 => ?_)
    refine cp 7 [0] (b := sFormatTree_fn (⟨r13_1, A13_1, c13_1, L13_1⟩ : TreeL) w4_1 ⟨(hG3_1 _ (Mem.gownT hM4_1 1 rfl)).1, (hG3_1 _ (Mem.gownT hM4_1 1 rfl)).2⟩ (by exact hz3_1)) (c := fun w5_2 hM5_2 => ?_)
    refine ov 0 [] (s := Vb (false)) (a := by exact cv (Ru.congr (v := .bool (decide (frX ((⟨r13_1, A13_1, c13_1, L13_1⟩ : TreeL)).t ≠ frX ((⟨r13_1, A13_1, c13_1, L13_1⟩ : TreeL)).t))) (v' := .bool (false)) (Ru.sneq rfl rfl) ((congrArg Value.bool (decide_eq_false (by simp))))) rfl) (b := ?_)
    refine cp 2 [0] (b := ValidTree_fn (⟨r13_1, A13_1, c13_1, L13_1⟩ : TreeL) w5_2 ⟨(hG3_1 _ (Mem.gownT hM5_2 1 rfl)).1, (hG3_1 _ (Mem.gownT hM5_2 1 rfl)).2⟩ (by exact hz3_1)) (c := fun w5_6 hM5_6 => ?_)
    refine cn 3 [] (fun c24 => ?_) (fun c24 => ?_)
    · refine cp 4 [0] (b := sFormatTree_fn (⟨r13_1, A13_1, c13_1, L13_1⟩ : TreeL) w5_6 ⟨(hG3_1 _ (Mem.gownT hM5_6 1 rfl)).1, (hG3_1 _ (Mem.gownT hM5_6 1 rfl)).2⟩ (by exact hz3_1)) (c := fun w6_2 hM6_2 => ?_)
      refine ov 0 [] (s := Vb (true)) (a := by exact cv (Ru.congr (v := .bool (decide (frX ((⟨r13_1, A13_1, c13_1, L13_1⟩ : TreeL)).t = frX ((⟨r13_1, A13_1, c13_1, L13_1⟩ : TreeL)).t))) (v' := .bool (true)) (Ru.seql rfl rfl) ((congrArg Value.bool (decide_eq_true rfl)))) rfl) (b := ?_)
      refine E1 3 [] (.bool (true)) ?_
      exact ⟨rfl, (Mem.none hM6_2)⟩
    · have hv : validT (⟨r13_1, A13_1, c13_1, L13_1⟩ : TreeL).t = true := by simp_all
      have hcv := cnt_valid hv
      have hpl : (⟨r13_1, A13_1, c13_1, L13_1⟩ : TreeL).t.pages.length = L13_1.length := pages_len
      have hli := leavesI_yes hv
      have hpi := pairsI_yes hv
      have hwk := valid_WK hv
      have hsl := wk_len3 hwk.2.2 hwk.1 (by omega)
      have hll : (leavesK (⟨r13_1, A13_1, c13_1, L13_1⟩ : TreeL).t).length ≤ 343 := Nat.le_trans leaf_len hsl
      have hpn := pairsOn_len hwk.2.2 (l := leavesK (⟨r13_1, A13_1, c13_1, L13_1⟩ : TreeL).t) (fun x hx => (wk_mem hwk.1 (List.mem_filter.1 hx).1).1)
      rw [show pairsOn (⟨r13_1, A13_1, c13_1, L13_1⟩ : TreeL).t (leavesK (⟨r13_1, A13_1, c13_1, L13_1⟩ : TreeL).t) = pairsK (⟨r13_1, A13_1, c13_1, L13_1⟩ : TreeL).t from rfl] at hpn
      have hfl : (frX (⟨r13_1, A13_1, c13_1, L13_1⟩ : TreeL).t).length ≤ 200 * 8 ^ 3 := by have h9 := valid_ok hv; rw [frX_yes hv]; exact Nat.le_trans (txt_len h9.2.1) (Nat.mul_le_mul_left _ (Nat.pow_le_pow_right (by omega) h9.1))
      refine lp1 19 [] (fun (k : Nat) => ([(5, Vi (((cnt 40 ((frX (⟨r13_1, A13_1, c13_1, L13_1⟩ : TreeL).t).take k) : Nat) : Int))), (6, Vi (((cnt 41 ((frX (⟨r13_1, A13_1, c13_1, L13_1⟩ : TreeL).t).take k) : Nat) : Int))), (7, Vi (((cnt 58 ((frX (⟨r13_1, A13_1, c13_1, L13_1⟩ : TreeL).t).take k) : Nat) : Int))), (8, Vi (((k : Nat) : Int)))] : List (Nat × SV))) (fun (k : Nat) => (k ≤ (frX (⟨r13_1, A13_1, c13_1, L13_1⟩ : TreeL).t).length) ∧ (cnt 40 ((frX (⟨r13_1, A13_1, c13_1, L13_1⟩ : TreeL).t).take k) ≤ k ∧ cnt 41 ((frX (⟨r13_1, A13_1, c13_1, L13_1⟩ : TreeL).t).take k) ≤ k ∧ cnt 58 ((frX (⟨r13_1, A13_1, c13_1, L13_1⟩ : TreeL).t).take k) ≤ k)) (fun (k : Nat) => []) (fun (k : Nat) => (frX (⟨r13_1, A13_1, c13_1, L13_1⟩ : TreeL).t).length - k) [3, 4] [] [0, 1] 0 (fun k σ w_l11 hI hM_l11 => ?_) (hL := by exact (Has.cons (I_congr (by simp [cnt])) (Has.cons (I_congr (by simp [cnt])) (Has.cons (I_congr (by simp [cnt])) (Has.cons (I_congr (by first | rfl | omega | (simp; omega) | simp)) Has.nil))))) (h0 := ⟨(Nat.zero_le _), (by (try dsimp only); simp [cnt])⟩)
      obtain ⟨hi0_l11, hi1_l11⟩ := hI
      refine cd 8 [] (fun c32 => ?_) (fun c32 => ?_)
      · have hkl : k < (frX (⟨r13_1, A13_1, c13_1, L13_1⟩ : TreeL).t).length := by omega
        have e40 := cnt_take (b := 40) hkl
        have d40 : (frX (⟨r13_1, A13_1, c13_1, L13_1⟩ : TreeL).t)[k] = 40 ↔ (((frX (⟨r13_1, A13_1, c13_1, L13_1⟩ : TreeL).t)[k]).toNat : Int) = 40 := u8_is rfl
        have e41 := cnt_take (b := 41) hkl
        have d41 : (frX (⟨r13_1, A13_1, c13_1, L13_1⟩ : TreeL).t)[k] = 41 ↔ (((frX (⟨r13_1, A13_1, c13_1, L13_1⟩ : TreeL).t)[k]).toNat : Int) = 41 := u8_is rfl
        have e58 := cnt_take (b := 58) hkl
        have d58 : (frX (⟨r13_1, A13_1, c13_1, L13_1⟩ : TreeL).t)[k] = 58 ↔ (((frX (⟨r13_1, A13_1, c13_1, L13_1⟩ : TreeL).t)[k]).toNat : Int) = 58 := u8_is rfl
        have hx13_2 : k < (frX ((⟨r13_1, A13_1, c13_1, L13_1⟩ : TreeL)).t).length := (by first | omega | (simp; omega))
        refine ov 8 [] (s := Vn .u8 ((((frX ((⟨r13_1, A13_1, c13_1, L13_1⟩ : TreeL)).t)[k]'hx13_2).toNat : Int))) (a := by exact cv (Ru.sindex (k) hx13_2 Tryd.underlying9 rfl rfl (by omega) (by omega)) rfl) (b := ?_)
        refine cd 2 [] (fun c38 => ?_) (fun c38 => ?_)
        · rw [if_pos (d40.2 c38)] at e40
          refine ov 2 [] (a := kaddN (cnt 40 ((frX (⟨r13_1, A13_1, c13_1, L13_1⟩ : TreeL).t).take k) + 1)) (b := ?_)
          have hx15_2 : k < (frX ((⟨r13_1, A13_1, c13_1, L13_1⟩ : TreeL)).t).length := (by first | omega | (simp; omega))
          refine ov 7 [] (s := Vn .u8 ((((frX ((⟨r13_1, A13_1, c13_1, L13_1⟩ : TreeL)).t)[k]'hx15_2).toNat : Int))) (a := by exact cv (Ru.sindex (k) hx15_2 Tryd.underlying9 rfl rfl (by omega) (by omega)) rfl) (b := ?_)
          refine cd 2 [] (fun c44 => ?_) (fun c44 => ?_)
          · rw [if_pos (d41.2 c44)] at e41
            refine ov 2 [] (a := kaddN (cnt 41 ((frX (⟨r13_1, A13_1, c13_1, L13_1⟩ : TreeL).t).take k) + 1)) (b := ?_)
            have hx17_2 : k < (frX ((⟨r13_1, A13_1, c13_1, L13_1⟩ : TreeL)).t).length := (by first | omega | (simp; omega))
            refine ov 6 [] (s := Vn .u8 ((((frX ((⟨r13_1, A13_1, c13_1, L13_1⟩ : TreeL)).t)[k]'hx17_2).toNat : Int))) (a := by exact cv (Ru.sindex (k) hx17_2 Tryd.underlying9 rfl rfl (by omega) (by omega)) rfl) (b := ?_)
            refine cd 2 [] (fun c50 => ?_) (fun c50 => ?_)
            · rw [if_pos (d58.2 c50)] at e58
              refine ov 2 [] (a := kaddN (cnt 58 ((frX (⟨r13_1, A13_1, c13_1, L13_1⟩ : TreeL).t).take k) + 1)) (b := ?_)
              refine ov 4 [] (a := kaddN (k + 1)) (b := ?_)
              exact le1 2 [] (k + 1) [0, 1] (hL := by exact (Has.cons (I_congr (by omega)) (Has.cons (I_congr (by omega)) (Has.cons (I_congr (by omega)) (Has.cons (I_congr (by first | rfl | omega | (simp; omega) | simp)) Has.nil))))) (h := by exact ⟨(by (try dsimp only); omega), (by (try dsimp only); omega)⟩)
            · rw [if_neg (fun h => c50 (d58.1 h))] at e58
              refine ov 3 [] (a := kaddN (k + 1)) (b := ?_)
              exact le1 2 [] (k + 1) [0, 1] (hL := by exact (Has.cons (I_congr (by omega)) (Has.cons (I_congr (by omega)) (Has.cons (I_congr (by omega)) (Has.cons (I_congr (by first | rfl | omega | (simp; omega) | simp)) Has.nil))))) (h := by exact ⟨(by (try dsimp only); omega), (by (try dsimp only); omega)⟩)
          · rw [if_neg (fun h => c44 (d41.1 h))] at e41
            have hx17_2 : k < (frX ((⟨r13_1, A13_1, c13_1, L13_1⟩ : TreeL)).t).length := (by first | omega | (simp; omega))
            refine ov 5 [] (s := Vn .u8 ((((frX ((⟨r13_1, A13_1, c13_1, L13_1⟩ : TreeL)).t)[k]'hx17_2).toNat : Int))) (a := by exact cv (Ru.sindex (k) hx17_2 Tryd.underlying9 rfl rfl (by omega) (by omega)) rfl) (b := ?_)
            refine cd 2 [] (fun c50 => ?_) (fun c50 => ?_)
            · rw [if_pos (d58.2 c50)] at e58
              refine ov 2 [] (a := kaddN (cnt 58 ((frX (⟨r13_1, A13_1, c13_1, L13_1⟩ : TreeL).t).take k) + 1)) (b := ?_)
              refine ov 4 [] (a := kaddN (k + 1)) (b := ?_)
              exact le1 2 [] (k + 1) [0, 1] (hL := by exact (Has.cons (I_congr (by omega)) (Has.cons (I_congr (by omega)) (Has.cons (I_congr (by omega)) (Has.cons (I_congr (by first | rfl | omega | (simp; omega) | simp)) Has.nil))))) (h := by exact ⟨(by (try dsimp only); omega), (by (try dsimp only); omega)⟩)
            · rw [if_neg (fun h => c50 (d58.1 h))] at e58
              refine ov 3 [] (a := kaddN (k + 1)) (b := ?_)
              exact le1 2 [] (k + 1) [0, 1] (hL := by exact (Has.cons (I_congr (by omega)) (Has.cons (I_congr (by omega)) (Has.cons (I_congr (by omega)) (Has.cons (I_congr (by first | rfl | omega | (simp; omega) | simp)) Has.nil))))) (h := by exact ⟨(by (try dsimp only); omega), (by (try dsimp only); omega)⟩)
        · rw [if_neg (fun h => c38 (d40.1 h))] at e40
          have hx15_2 : k < (frX ((⟨r13_1, A13_1, c13_1, L13_1⟩ : TreeL)).t).length := (by first | omega | (simp; omega))
          refine ov 6 [] (s := Vn .u8 ((((frX ((⟨r13_1, A13_1, c13_1, L13_1⟩ : TreeL)).t)[k]'hx15_2).toNat : Int))) (a := by exact cv (Ru.sindex (k) hx15_2 Tryd.underlying9 rfl rfl (by omega) (by omega)) rfl) (b := ?_)
          refine cd 2 [] (fun c44 => ?_) (fun c44 => ?_)
          · rw [if_pos (d41.2 c44)] at e41
            refine ov 2 [] (a := kaddN (cnt 41 ((frX (⟨r13_1, A13_1, c13_1, L13_1⟩ : TreeL).t).take k) + 1)) (b := ?_)
            have hx17_2 : k < (frX ((⟨r13_1, A13_1, c13_1, L13_1⟩ : TreeL)).t).length := (by first | omega | (simp; omega))
            refine ov 6 [] (s := Vn .u8 ((((frX ((⟨r13_1, A13_1, c13_1, L13_1⟩ : TreeL)).t)[k]'hx17_2).toNat : Int))) (a := by exact cv (Ru.sindex (k) hx17_2 Tryd.underlying9 rfl rfl (by omega) (by omega)) rfl) (b := ?_)
            refine cd 2 [] (fun c50 => ?_) (fun c50 => ?_)
            · rw [if_pos (d58.2 c50)] at e58
              refine ov 2 [] (a := kaddN (cnt 58 ((frX (⟨r13_1, A13_1, c13_1, L13_1⟩ : TreeL).t).take k) + 1)) (b := ?_)
              refine ov 4 [] (a := kaddN (k + 1)) (b := ?_)
              exact le1 2 [] (k + 1) [0, 1] (hL := by exact (Has.cons (I_congr (by omega)) (Has.cons (I_congr (by omega)) (Has.cons (I_congr (by omega)) (Has.cons (I_congr (by first | rfl | omega | (simp; omega) | simp)) Has.nil))))) (h := by exact ⟨(by (try dsimp only); omega), (by (try dsimp only); omega)⟩)
            · rw [if_neg (fun h => c50 (d58.1 h))] at e58
              refine ov 3 [] (a := kaddN (k + 1)) (b := ?_)
              exact le1 2 [] (k + 1) [0, 1] (hL := by exact (Has.cons (I_congr (by omega)) (Has.cons (I_congr (by omega)) (Has.cons (I_congr (by omega)) (Has.cons (I_congr (by first | rfl | omega | (simp; omega) | simp)) Has.nil))))) (h := by exact ⟨(by (try dsimp only); omega), (by (try dsimp only); omega)⟩)
          · rw [if_neg (fun h => c44 (d41.1 h))] at e41
            have hx17_2 : k < (frX ((⟨r13_1, A13_1, c13_1, L13_1⟩ : TreeL)).t).length := (by first | omega | (simp; omega))
            refine ov 5 [] (s := Vn .u8 ((((frX ((⟨r13_1, A13_1, c13_1, L13_1⟩ : TreeL)).t)[k]'hx17_2).toNat : Int))) (a := by exact cv (Ru.sindex (k) hx17_2 Tryd.underlying9 rfl rfl (by omega) (by omega)) rfl) (b := ?_)
            refine cd 2 [] (fun c50 => ?_) (fun c50 => ?_)
            · rw [if_pos (d58.2 c50)] at e58
              refine ov 2 [] (a := kaddN (cnt 58 ((frX (⟨r13_1, A13_1, c13_1, L13_1⟩ : TreeL).t).take k) + 1)) (b := ?_)
              refine ov 4 [] (a := kaddN (k + 1)) (b := ?_)
              exact le1 2 [] (k + 1) [0, 1] (hL := by exact (Has.cons (I_congr (by omega)) (Has.cons (I_congr (by omega)) (Has.cons (I_congr (by omega)) (Has.cons (I_congr (by first | rfl | omega | (simp; omega) | simp)) Has.nil))))) (h := by exact ⟨(by (try dsimp only); omega), (by (try dsimp only); omega)⟩)
            · rw [if_neg (fun h => c50 (d58.1 h))] at e58
              refine ov 3 [] (a := kaddN (k + 1)) (b := ?_)
              exact le1 2 [] (k + 1) [0, 1] (hL := by exact (Has.cons (I_congr (by omega)) (Has.cons (I_congr (by omega)) (Has.cons (I_congr (by omega)) (Has.cons (I_congr (by first | rfl | omega | (simp; omega) | simp)) Has.nil))))) (h := by exact ⟨(by (try dsimp only); omega), (by (try dsimp only); omega)⟩)
      · have hke : (frX (⟨r13_1, A13_1, c13_1, L13_1⟩ : TreeL).t).take k = frX (⟨r13_1, A13_1, c13_1, L13_1⟩ : TreeL).t := take_all (by omega)
        rw [hke] at hi1_l11
        refine any 2 [] 22 [0, 1] fun w19a hM19a => ?_
        refine av [0, 1] [] 2 (s := Vb (true)) (a := by exact fun w2 hw2 => cv (Ru.congr (v := .bool (decide (((cnt 40 ((frX (⟨r13_1, A13_1, c13_1, L13_1⟩ : TreeL).t).take k) : Nat) : Int) = ((cnt 41 ((frX (⟨r13_1, A13_1, c13_1, L13_1⟩ : TreeL).t).take k) : Nat) : Int)))) (v' := .bool (true)) (Ru.eql rfl rfl) ((congrArg Value.bool (decide_eq_true (by rw [hke]; omega))))) rfl) (b := ?_)
        refine aO [3, 4, 5, 6, 7, 8] [0, 0] 9 ?_
        refine cq 0 [] (b := LeavesOf_fn (⟨r13_1, A13_1, c13_1, L13_1⟩ : TreeL) w19a ⟨(hG3_1 _ (Mem.gownT hM19a 1 rfl)).1, (hG3_1 _ (Mem.gownT hM19a 1 rfl)).2⟩ (by exact hz3_1)) (c := ?_)
        rintro _ w19_9 ⟨A119_9, c119_9, rfl, hR19_9⟩
        have hM19_9 := hM19a.cl 0 hR19_9
        have hcr19_9_0 := (hM19_9.cap 0 rfl).1
        refine os 0 [] [1, 2] ?_
        refine av [10] [] 11 (a := by exact fun _ hw2 => ksub (h := by (rw [hli]; omega))) (b := ?_)
        refine av [] [] 12 (s := Vb (true)) (a := by exact fun w2 hw2 => cv (Ru.congr (v := .bool (decide (((cnt 40 ((frX (⟨r13_1, A13_1, c13_1, L13_1⟩ : TreeL).t).take k) : Nat) : Int) = ((((L13_1).length : Nat) : Int) - ((((leavesI ((⟨r13_1, A13_1, c13_1, L13_1⟩ : TreeL)).t)).length : Nat) : Int))))) (v' := .bool (true)) (Ru.eql rfl rfl) ((congrArg Value.bool (decide_eq_true (by rw [hke, hli]; omega))))) rfl) (b := ?_)
        refine aO [13, 14, 15, 16] [0] 17 ?_
        refine cq 0 [] (b := PairsOf_fn (⟨r13_1, A13_1, c13_1, L13_1⟩ : TreeL) w19_9 ⟨(hG3_1 _ (Mem.gownT hM19_9 2 rfl)).1, (hG3_1 _ (Mem.gownT hM19_9 2 rfl)).2⟩ (by exact hz3_1)) (c := ?_)
        rintro _ w19_17 ⟨A119_17, c119_17, rfl, hR19_17⟩
        have hM19_17 := hM19_9.cl 0 hR19_17
        have hcr19_17_0 := (hM19_17.cap 0 rfl).1
        refine os 0 [] [2, 3] ?_
        refine av [18] [] 19 (s := Vb (true)) (a := by exact fun w2 hw2 => cv (Ru.congr (v := .bool (decide (((cnt 58 ((frX (⟨r13_1, A13_1, c13_1, L13_1⟩ : TreeL).t).take k) : Nat) : Int) = ((((pairsI ((⟨r13_1, A13_1, c13_1, L13_1⟩ : TreeL)).t)).length : Nat) : Int)))) (v' := .bool (true)) (Ru.eql rfl rfl) ((congrArg Value.bool (decide_eq_true (by rw [hke, hpi]; omega))))) rfl) (b := ?_)
        refine an [20, 21] [] ?_
        refine E1 1 [] (.bool (true)) ?_
        exact ⟨rfl, (Mem.none hM19_17)⟩
end Go.Proofs.YtemejgglbhjodaaDoor
namespace Go.Proofs.YtemejgglbhjodaaDoor.fnTreeText
open Go.ChangeShapes Go.WideShapes Go.ChangeAt Go.RowKit Go.Px
open Go.ChangeMaps (open_string shut_string)
set_option linter.unusedVariables false
theorem own : ownKnob Tryd.prog.godebug = none := by kernel_rfl
theorem laidOut : laidOutB Tryd.prog = true := by kernel_rfl
theorem Lay.tab_laid {W : World} (h : laidMetH Tryd.prog Rows.fnTreeTextRow.laid W) : TAB W := by
  rw [MakeChecks.laidMetH_plain _ _ _ (by kernel_rfl)] at h
  obtain ⟨ps, ⟨g0, t0, cs0, f0, p0, q0, _, _, _, _, ⟨g1, t1, cs1, f1, p1, q1, _, _, _, _, ⟨g, t, cs, fuel, p, q, hg, ht, hvar, hd, _, _⟩, _⟩, _⟩, _⟩ := h
  have hg' : Tryd.prog.globalNamed tabN = some 0 := by kernel_rfl
  obtain rfl := Option.some.inj (hg'.symm.trans (show Tryd.prog.globalNamed tabN = some g from hg))
  have hty : (Tryd.prog.globals[0]?).map (·.type) = some 123 := by kernel_rfl
  obtain rfl := Option.some.inj (hty.symm.trans ht)
  unfold TAB Lib.TabIs
  rw [show W.var? Tryd.prog tabN = some cs from hvar, ← Lib.cells_of_tab (zs := Lib.pow10Tab) Tryd.underlying123 Tryd.underlying106 (by kernel_rfl) (by kernel_rfl) hd]
theorem door_met (os : Os) (args : Array Value) : laidMetH Tryd.prog Rows.fnTreeTextRow.laid ((World.doorLaid Tryd.prog 400 os).forCall (fun _ _ => 0) ⟨#[], args, []⟩).memory :=
  laidMetH_of_parts3 (fuel := 8) (laidMet_of_run' 8 (by kernel_rfl) (by kernel_rfl)) (by kernel_rfl) (by kernel_rfl)
set_option maxRecDepth 100000 in
theorem lifted (os : Os) (started : os.Started) (H : Type) (enc : TypeId × Value → H) :
    ReturnsInHanded {} Tryd.checked os 3 .any (fun w args => (Rows.fnTreeTextSpec.pre enc Tryd.prog Tryd.f3 [] false w args ∧ laidMetH Tryd.prog Rows.fnTreeTextRow.laid w) ∧ sizedMet enc Tryd.prog Tryd.f3 (OpenSpec.ofChange Rows.fnTreeTextSpec) false w args) (Rows.fnTreeTextSpec.post enc Tryd.prog Tryd.f3 false true false false) := by
  refine returnsInHanded_of_change_and (C := Tryd.checked) (X := fun w _ => laidMetH Tryd.prog Rows.fnTreeTextRow.laid w) (fun _ _ _ hh h => h.of_heap hh) own started (by kernel_rfl) Tryd.func3
    (ChangeSpec.witness_shaped (enc := enc) (C := Tryd.checked) (os := os) (X := fun w _ => laidMetH Tryd.prog Rows.fnTreeTextRow.laid w) false (World.doorLaid Tryd.prog 400 os) #[.slice none 0 0] 8 rfl (World.shaped_of_RefB (by kernel_rfl) (by kernel_rfl)) (by kernel_rfl) (by kernel_rfl) (by kernel_rfl) (door_met os _)) ?_
  intro W base args ds gs before hval0 hW _ _ hL _
  have hval : ∀ (j : Nat) t v, Tryd.f3.params[j]? = some t → args[j]? = some v → Value.okWide Tryd.prog W .any base t v := hval0
  have hW' := hW
  obtain ⟨p, q, hA0, hV, rfl, hfz, hnd⟩ := hW'
  have hW' := hW
  have hA : DataW.TrodAll enc Tryd.prog W 0 (fun _ => true) true Tryd.f3.params.toList args.toList ds p := hA0
  rw [Tryd.params3] at hA hval
  obtain ⟨v0, vs0, d0, ds0, p0, q0, hargs, rfl, rfl, h0, r0⟩ := trodAll_cons hA
  obtain ⟨rfl, rfl, rfl⟩ := trodAll_nil r0
  obtain rfl : args = #[v0] := by cases args; simp_all
  obtain ⟨rfl, rfl⟩ := trodVars_none hV
  have k0 := h0
  have lt0 : ∀ x ∈ p0, x.block < W.heap.size := by obtain ⟨m, hm⟩ := k0; exact DataW.trod_lt m _ _ _ hm
  obtain ⟨a0, len0, cap0, rfl⟩ := okWide_slice Tryd.underlying22 (hval 0 22 v0 rfl rfl)
  have kk0 := k0
  obtain ⟨fuel0, hf0⟩ := kk0
  obtain ⟨z0, rfl, hz0, hc0, hw0, hRd0⟩ := slice_in (α := UInt8) (f := fun a : UInt8 => [byteV a]) (c := 1) Tryd.underlying22 (by kernel_rfl) (fun _ => rfl) (byte_el Tryd.underlying5) hf0
  rw [flat_one] at hRd0
  have hTab := Lay.tab_laid hL
  clear hA0 hval0
  refine (FnTreeText_fn a0 cap0 z0 W hRd0 hz0 hc0 hTab).out.mono fun e W' ⟨v, he, hv, hg⟩ => ?_
  subst he hv
  have bel : Below W.heap.size W W' := ⟨hg.os, hg.tape, hg.output, hg.size, fun k hk => hg.block k hk (by simp)⟩
  exact ⟨_, rfl, _, _, _, [], _, [], hW', trodAll_mk1 (shut_bool Tryd.underlying4 _), (trodAll_cons_mk (Below.trod laidOut (by kernel_rfl) (of_decide_eq_true (by kernel_rfl)) k0 bel lt0) trodAll_mk0), rfl, bel.frame _, fun h => by cases h⟩
theorem named_ : Tryd.prog.funcNamed Rows.fnTreeTextRow.func = some 3 := by kernel_rfl
theorem closed : joinedFacts Tryd.prog 3 Tryd.f3 Rows.fnTreeTextSpec Rows.fnTreeTextRow = true := by kernel_rfl
theorem inst_ : Tryd.f3.isInstance Tryd.prog Rows.fnTreeTextRow.origin Rows.fnTreeTextRow.targs := of_decide_eq_true (by kernel_rfl)
theorem wrap_ : Tryd.f3.isWrapper Tryd.prog Rows.fnTreeTextRow.wrapper Rows.fnTreeTextRow.mainSum := by
  unfold Func.isWrapper
  rw [if_neg (by decide +kernel)]
  exact ⟨rfl, rfl⟩
theorem over : Rows.fnTreeTextRow.holds Tryd.pinned (OpenSpec.ofChange Rows.fnTreeTextSpec) :=
  OpenClaim.holds_of_wide 3 Tryd.f3 rfl rfl rfl rfl rfl rfl rfl ⟨rfl, rfl, rfl, rfl, rfl⟩ rfl rfl rfl rfl rfl named_ Tryd.func3 closed inst_ wrap_
    (fun os started H enc _ => lifted os started H enc)
theorem proved : Rows.FnTreeTextCardSaid :=
  Claim7.holds_tied_plain_at .later [] [.data, .data, .data] true (true, "db42fd2b3fa81203b1d2532c6e3b330a02431683d6399b1d8445e706a7f18807") false over (fun _ h => by cases h) (by kernel_rfl) (fun _ h => by cases h) fnTreeText_row_tie rfl ⟨rfl, rfl⟩ (by kernel_rfl) rfl
    (fun f fn hf hfn => by
      obtain rfl : f = 3 := Option.some.inj (named_.symm.trans hf) |>.symm
      obtain rfl : fn = Tryd.f3 := (Option.some.inj (Tryd.func3.symm.trans hfn)).symm
      exact ⟨by kernel_rfl, fun j t ht => by
        rw [Tryd.params3] at ht
        have hm : t ∈ [22] := by simpa using Array.mem_of_getElem? ht
        have hall : ([22].all fun u => !Tryd.prog.wantsStandIn u) = true := by kernel_rfl
        exact (show Tryd.prog.wantsStandIn t = false by simpa using List.all_eq_true.1 hall t hm)⟩)
    (by kernel_rfl)
end Go.Proofs.YtemejgglbhjodaaDoor.fnTreeText
