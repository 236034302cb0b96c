/- The statement Rows.FnRowTextCardSaid: the Go function laws.FnRowText returns true for every input, and each argument reads afterwards as it read before; the tied card. Condition: the listed package-level variables read as the card ties them to the program's text. -/
import Derived.Test.YtfdlmimgooeioaaDoorRows
import Derived.Test.YtfdlmimgooeioaaDoorCards
import Derived.Test.YtfdlmimgooeioaaDoorTie
import Derived.Test.YtfdlmimgooeioaaDoorPxO
import Derived.Test.YtfdlmimgooeioaaDoorEH
import Derived.WalkKit
import Derived.ProofKit
import Derived.OpenShut
import Derived.ShutString
import Derived.ChangeOld
import Derived.SliceStrings
import Derived.Deep.Slices
import Derived.Deep.Fields
import Derived.ChangeSame
import Derived.Below
import Derived.LaidMore
import Derived.Stop.Joined
import Derived.SevenTiedAt
import Derived.MakeChecks
set_option linter.unusedVariables false
set_option linter.unusedSimpArgs false
namespace Go.Proofs.YtfdlmimgooeioaaDoor
open Go.Px
set_option linter.unusedVariables false
theorem FnRowText_fn (A : Option Addr) (c : Nat) (l : List UInt8) (w : World) (hA : Rd w A ((l).map byteV)) (hl : l.length ≤ 9223372036854775807) (hc : l.length ≤ c) (htab : TAB w) :
    Does Tryd.prog 4 [.slice (A) ((l).length) (c)] w (fun v w1 => v = .bool (true) ∧ Mem w w1 [] []) := by
  have hM : Mem w w [] [] := Mem.refl
  refine Does.enter1 Tryd.func4 rfl Tryd.results4 Tryd.ntmps4 rfl ?_
  refine C.seq ?_
  refine C.region ?_
  refine O.val (v := .bool (false)) rfl (Ru.assign rfl) rfl ?_
  refine O.nil ?_
  refine C.seq ?_
  refine C.seq ?_
  refine C.region ?_
  refine O.val (v := .slice (A) ((l).length) (c)) rfl (Ru.move rfl) rfl ?_
  refine O.val (v := I ((((l).length : Nat) : Int))) rfl (Ru.blenSlice Tryd.underlying29 rfl) rfl ?_
  refine O.val (v := .bool (decide ((((l).length : Nat) : Int) > 1048576))) rfl (Ru.gtr rfl rfl) rfl ?_
  refine O.nil ?_
  refine C.cond (p := (((l).length : Nat) : Int) > 1048576) rfl (fun c10 => ?_) (fun c10 => ?_)
  · refine C.seq ?_
    refine C.region ?_
    refine O.val (v := .bool (true)) rfl (Ru.assign rfl) rfl ?_
    refine O.nil ?_
    refine C.ret ?_
    refine P1 (v := .bool (true)) rfl ?_
    exact ⟨rfl, (Mem.none hM)⟩
  · refine C.skip ?_
    refine C.seq ?_
    refine C.region ?_
    refine O.val (v := .slice (A) ((l).length) (c)) rfl (Ru.move rfl) rfl ?_
    refine O.callg [.slice (A) ((l).length) (c)] rfl en18 rfl rfl (DrawFormatRow_fn A c l w (hA.at hM) (by first | omega | assumption | (simp; omega) | simp | (intros; omega)) (by first | omega | assumption | (simp; omega) | simp | (intros; omega))) ?_
    rintro _ w3_1 ⟨l13_1, A13_1, c13_1, rfl, hl3_1, hR3_1⟩
    have hM3_1 : Mem w w3_1 [] [[⟨.slice (A13_1) ((l13_1).length) (c13_1), 61, 2, ((l13_1).length), (l13_1).flatMap encP⟩]] := Mem.call (Ma := []) hM hR3_1 rfl
    have hcr3_1_0 := (hM3_1.cap 0 rfl).1
    refine O.val (v := .slice (A13_1) ((l13_1).length) (c13_1)) rfl (Ru.assign rfl) rfl ?_
    refine O.nil ?_
    refine C.seq ?_
    refine C.region ?_
    refine O.val (v := .slice (A13_1) ((l13_1).length) (c13_1)) rfl (Ru.move rfl) rfl ?_
    refine O.callg [.slice (A13_1) ((l13_1).length) (c13_1)] rfl en16 rfl rfl (FormatRow_fn A13_1 c13_1 l13_1 w3_1 (hM3_1.rd 0 rfl) (by omega) (tab_at htab hM3_1)) ?_
    rintro _ w4_1 ⟨rfl, hR4_1⟩
    have hM4_1 : Mem w w4_1 [] [[⟨.slice (A13_1) ((l13_1).length) (c13_1), 61, 2, ((l13_1).length), (l13_1).flatMap encP⟩]] := Mem.call (Ma := []) hM3_1 hR4_1 rfl
    refine O.val (v := S (fmtR l13_1)) rfl (Ru.assign rfl) rfl ?_
    refine O.nil ?_
    refine C.seq ?_
    refine C.seq ?_
    refine C.region ?_
    refine O.val (v := S (fmtR l13_1)) rfl (Ru.move rfl) rfl ?_
    refine O.val (v := .slice (A13_1) ((l13_1).length) (c13_1)) rfl (Ru.move rfl) rfl ?_
    refine O.callg [.slice (A13_1) ((l13_1).length) (c13_1)] rfl en14 rfl rfl (sFormatRow_fn A13_1 c13_1 l13_1 w4_1 (hM4_1.rd 0 rfl) (by omega)) ?_
    rintro _ w5_2 ⟨rfl, hR5_2⟩
    have hM5_2 : Mem w w5_2 [] [[⟨.slice (A13_1) ((l13_1).length) (c13_1), 61, 2, ((l13_1).length), (l13_1).flatMap encP⟩]] := Mem.call (Ma := []) hM4_1 hR5_2 rfl
    refine O.val (v := .bool (false)) rfl (Ru.congr (v := .bool (decide (fmtR l13_1 ≠ fmtR l13_1))) (v' := .bool (false)) (Ru.sneq rfl rfl) ((congrArg Value.bool (decide_eq_false (by simp))))) rfl ?_
    refine O.val (v := .bool (false)) rfl (Ru.move rfl) rfl ?_
    refine O.val (v := S (fmtR l13_1)) rfl (Ru.move rfl) rfl ?_
    refine O.val (v := .bool (decide (fmtR l13_1 = []))) rfl (Ru.seql rfl rfl) rfl ?_
    refine O.val (v := .bool (decide (fmtR l13_1 = []))) rfl (Ru.pickF rfl rfl) rfl ?_
    refine O.nil ?_
    refine C.cond (p := fmtR l13_1 = []) rfl (fun c22 => ?_) (fun c22 => ?_)
    · refine C.seq ?_
      refine C.region ?_
      refine O.val (v := S (fmtR l13_1)) rfl (Ru.move rfl) rfl ?_
      refine O.val (v := .slice (A13_1) ((l13_1).length) (c13_1)) rfl (Ru.move rfl) rfl ?_
      refine O.callg [.slice (A13_1) ((l13_1).length) (c13_1)] rfl en14 rfl rfl (sFormatRow_fn A13_1 c13_1 l13_1 w5_2 (hM5_2.rd 0 rfl) (by omega)) ?_
      rintro _ w6_2 ⟨rfl, hR6_2⟩
      have hM6_2 : Mem w w6_2 [] [[⟨.slice (A13_1) ((l13_1).length) (c13_1), 61, 2, ((l13_1).length), (l13_1).flatMap encP⟩]] := Mem.call (Ma := []) hM5_2 hR6_2 rfl
      refine O.val (v := .bool (true)) rfl (Ru.congr (v := .bool (decide (fmtR l13_1 = fmtR l13_1))) (v' := .bool (true)) (Ru.seql rfl rfl) ((congrArg Value.bool (decide_eq_true rfl)))) rfl ?_
      refine O.val (v := .bool (true)) rfl (Ru.assign rfl) rfl ?_
      refine O.nil ?_
      refine C.ret ?_
      refine P1 (v := .bool (true)) rfl ?_
      exact ⟨rfl, (Mem.none hM6_2)⟩
    · have hne : fmtR l13_1 ≠ [] := by simp_all
      have hv : validR l13_1 = true := by cases hh : validR l13_1 with | true => rfl | false => exact absurd (fmtR_no hh) hne
      have hfy := fmtR_yes hv
      have hcn := cnt_fmtL (l := l13_1) l13_1.length (Nat.le_refl _)
      rw [List.take_length, ← hfy] at hcn
      have hfl := fmtL_len (l := l13_1) l13_1.length (valid_small hv) (Nat.le_refl _)
      rw [List.take_length, ← hfy] at hfl
      have h24 := validR_len hv
      have hl0 : 1 ≤ l13_1.length := by rcases Nat.eq_zero_or_pos l13_1.length with h | h; exact absurd (by rw [hfy, List.eq_nil_of_length_eq_zero h]; rfl) hne; exact h
      refine C.skip ?_
      refine C.seq ?_
      refine C.region ?_
      refine O.val (v := I (0)) rfl (Ru.assign rfl) rfl ?_
      refine O.nil ?_
      refine C.seq ?_
      refine C.region ?_
      refine O.val (v := I (0)) rfl (Ru.assign rfl) rfl ?_
      refine O.nil ?_
      refine C.seq ?_
      refine C.seq ?_
      refine C.region ?_
      refine O.val (v := I (0)) rfl (Ru.assign rfl) rfl ?_
      refine O.nil ?_
      refine C.block ?_
      refine C.loop (ι := Nat) (fun k => ([(3, .slice (A13_1) ((l13_1).length) (c13_1)), (4, S (fmtR l13_1)), (5, I (((cnt 58 ((fmtR l13_1).take k) : Nat) : Int))), (6, I (((cnt 44 ((fmtR l13_1).take k) : Nat) : Int))), (7, I (((k : Nat) : Int)))] : List (Nat × Value))) (fun k w_ => (k ≤ (fmtR l13_1).length) ∧ (cnt 58 ((fmtR l13_1).take k) ≤ k ∧ cnt 44 ((fmtR l13_1).take k) ≤ k) ∧ (Mem w w_ [] [[⟨.slice (A13_1) ((l13_1).length) (c13_1), 61, 2, ((l13_1).length), (l13_1).flatMap encP⟩]])) (fun k => (fmtR l13_1).length - k) (0) (Has.cons rfl (Has.cons rfl (Has.cons (I_congr (by simp [cnt])) (Has.cons (I_congr (by simp [cnt])) (Has.cons (I_congr (by first | rfl | omega | (simp; omega) | simp)) Has.nil))))) ⟨(Nat.zero_le _), (by (try dsimp only); simp [cnt]), (hM5_2.pick [0] (by decide) rfl)⟩ (fun k σ w_l10 hI => ?_)
      try dsimp only at hI
      obtain ⟨hi0_l10, hi1_l10, hM_l10⟩ := hI
      have hcl0_l10 := (hM_l10.cap 0 rfl).1
      refine C.seq ?_
      refine C.seq ?_
      refine C.region ?_
      refine O.val (v := I (((k : Nat) : Int))) rfl (Ru.move rfl) rfl ?_
      refine O.val (v := S (fmtR l13_1)) rfl (Ru.move rfl) rfl ?_
      refine O.val (v := I (((fmtR l13_1).length : Int))) rfl (Ru.slen Tryd.underlying9 rfl) rfl ?_
      refine O.val (v := .bool (decide (((k : Nat) : Int) < ((fmtR l13_1).length : Int)))) rfl (Ru.lss rfl rfl) rfl ?_
      refine O.nil ?_
      refine C.cond (p := ((k : Nat) : Int) < ((fmtR l13_1).length : Int)) rfl (fun c30 => ?_) (fun c30 => ?_)
      · have hkl : k < (fmtR l13_1).length := by omega
        have e58 := cnt_take (b := 58) hkl
        have e44 := cnt_take (b := 44) hkl
        have d58 : (fmtR l13_1)[k] = 58 ↔ (((fmtR l13_1)[k]).toNat : Int) = 58 := u8_is rfl
        have d44 : (fmtR l13_1)[k] = 44 ↔ (((fmtR l13_1)[k]).toNat : Int) = 44 := u8_is rfl
        refine C.skip ?_
        refine C.seq ?_
        refine C.block ?_
        refine C.seq ?_
        refine C.seq ?_
        refine C.region ?_
        refine O.val (v := S (fmtR l13_1)) rfl (Ru.move rfl) rfl ?_
        refine O.val (v := I (((k : Nat) : Int))) rfl (Ru.move rfl) rfl ?_
        have hx12_2 : k < (fmtR l13_1).length := (by first | omega | (simp; omega))
        refine O.val (v := .int .u8 ((((fmtR l13_1)[k]'hx12_2).toNat : Int))) rfl (Ru.sindex (k) hx12_2 Tryd.underlying9 rfl rfl (by omega) (by omega)) rfl ?_
        refine O.val (v := .bool (decide ((((fmtR l13_1)[k]'hx12_2).toNat : Int) = 58))) rfl (Ru.eql rfl rfl) rfl ?_
        refine O.nil ?_
        refine C.cond (p := (((fmtR l13_1)[k]'hx12_2).toNat : Int) = 58) rfl (fun c36 => ?_) (fun c36 => ?_)
        · rw [if_pos (d58.2 c36)] at e58
          refine C.region ?_
          refine O.val (v := I (((cnt 58 ((fmtR l13_1).take k) : Nat) : Int))) rfl (Ru.move rfl) rfl ?_
          refine O.val (v := I ((((cnt 58 ((fmtR l13_1).take k) + 1) : Nat) : Int))) rfl (Ru.congr (v := I ((((cnt 58 ((fmtR l13_1).take k) : Nat) : Int) + 1))) (v' := I ((((cnt 58 ((fmtR l13_1).take k) + 1) : Nat) : Int))) (Ru.add rfl rfl (by omega)) (I_congr (by first | omega | simp))) rfl ?_
          refine O.val (v := I ((((cnt 58 ((fmtR l13_1).take k) + 1) : Nat) : Int))) rfl (Ru.assign rfl) rfl ?_
          refine O.nil ?_
          refine C.seq ?_
          refine C.region ?_
          refine O.val (v := S (fmtR l13_1)) rfl (Ru.move rfl) rfl ?_
          refine O.val (v := I (((k : Nat) : Int))) rfl (Ru.move rfl) rfl ?_
          have hx14_2 : k < (fmtR l13_1).length := (by first | omega | (simp; omega))
          refine O.val (v := .int .u8 ((((fmtR l13_1)[k]'hx14_2).toNat : Int))) rfl (Ru.sindex (k) hx14_2 Tryd.underlying9 rfl rfl (by omega) (by omega)) rfl ?_
          refine O.val (v := .bool (decide ((((fmtR l13_1)[k]'hx14_2).toNat : Int) = 44))) rfl (Ru.eql rfl rfl) rfl ?_
          refine O.nil ?_
          refine C.cond (p := (((fmtR l13_1)[k]'hx14_2).toNat : Int) = 44) rfl (fun c42 => ?_) (fun c42 => ?_)
          · rw [if_pos (d44.2 c42)] at e44
            refine C.region ?_
            refine O.val (v := I (((cnt 44 ((fmtR l13_1).take k) : Nat) : Int))) rfl (Ru.move rfl) rfl ?_
            refine O.val (v := I ((((cnt 44 ((fmtR l13_1).take k) + 1) : Nat) : Int))) rfl (Ru.congr (v := I ((((cnt 44 ((fmtR l13_1).take k) : Nat) : Int) + 1))) (v' := I ((((cnt 44 ((fmtR l13_1).take k) + 1) : Nat) : Int))) (Ru.add rfl rfl (by omega)) (I_congr (by first | omega | simp))) rfl ?_
            refine O.val (v := I ((((cnt 44 ((fmtR l13_1).take k) + 1) : Nat) : Int))) rfl (Ru.assign rfl) rfl ?_
            refine O.nil ?_
            refine C.region ?_
            refine O.val (v := I (((k : Nat) : Int))) rfl (Ru.move rfl) rfl ?_
            refine O.val (v := I ((((k + 1) : Nat) : Int))) rfl (Ru.congr (v := I ((((k : Nat) : Int) + 1))) (v' := I ((((k + 1) : Nat) : Int))) (Ru.add rfl rfl (by omega)) (I_congr (by first | omega | simp))) rfl ?_
            refine O.val (v := I ((((k + 1) : Nat) : Int))) rfl (Ru.assign rfl) rfl ?_
            refine O.nil ?_
            exact loopEnd (k + 1) (by (try dsimp only); omega) (Has.cons rfl (Has.cons rfl (Has.cons (I_congr (by omega)) (Has.cons (I_congr (by omega)) (Has.cons (I_congr (by first | rfl | omega | (simp; omega) | simp)) Has.nil))))) ⟨(by (try dsimp only); omega), (by (try dsimp only); omega), (hM_l10.pick [0] (by decide) rfl)⟩
          · rw [if_neg (fun h => c42 (d44.1 h))] at e44
            refine C.skip ?_
            refine C.region ?_
            refine O.val (v := I (((k : Nat) : Int))) rfl (Ru.move rfl) rfl ?_
            refine O.val (v := I ((((k + 1) : Nat) : Int))) rfl (Ru.congr (v := I ((((k : Nat) : Int) + 1))) (v' := I ((((k + 1) : Nat) : Int))) (Ru.add rfl rfl (by omega)) (I_congr (by first | omega | simp))) rfl ?_
            refine O.val (v := I ((((k + 1) : Nat) : Int))) rfl (Ru.assign rfl) rfl ?_
            refine O.nil ?_
            exact loopEnd (k + 1) (by (try dsimp only); omega) (Has.cons rfl (Has.cons rfl (Has.cons (I_congr (by omega)) (Has.cons (I_congr (by omega)) (Has.cons (I_congr (by first | rfl | omega | (simp; omega) | simp)) Has.nil))))) ⟨(by (try dsimp only); omega), (by (try dsimp only); omega), (hM_l10.pick [0] (by decide) rfl)⟩
        · rw [if_neg (fun h => c36 (d58.1 h))] at e58
          refine C.skip ?_
          refine C.seq ?_
          refine C.region ?_
          refine O.val (v := S (fmtR l13_1)) rfl (Ru.move rfl) rfl ?_
          refine O.val (v := I (((k : Nat) : Int))) rfl (Ru.move rfl) rfl ?_
          have hx14_2 : k < (fmtR l13_1).length := (by first | omega | (simp; omega))
          refine O.val (v := .int .u8 ((((fmtR l13_1)[k]'hx14_2).toNat : Int))) rfl (Ru.sindex (k) hx14_2 Tryd.underlying9 rfl rfl (by omega) (by omega)) rfl ?_
          refine O.val (v := .bool (decide ((((fmtR l13_1)[k]'hx14_2).toNat : Int) = 44))) rfl (Ru.eql rfl rfl) rfl ?_
          refine O.nil ?_
          refine C.cond (p := (((fmtR l13_1)[k]'hx14_2).toNat : Int) = 44) rfl (fun c42 => ?_) (fun c42 => ?_)
          · rw [if_pos (d44.2 c42)] at e44
            refine C.region ?_
            refine O.val (v := I (((cnt 44 ((fmtR l13_1).take k) : Nat) : Int))) rfl (Ru.move rfl) rfl ?_
            refine O.val (v := I ((((cnt 44 ((fmtR l13_1).take k) + 1) : Nat) : Int))) rfl (Ru.congr (v := I ((((cnt 44 ((fmtR l13_1).take k) : Nat) : Int) + 1))) (v' := I ((((cnt 44 ((fmtR l13_1).take k) + 1) : Nat) : Int))) (Ru.add rfl rfl (by omega)) (I_congr (by first | omega | simp))) rfl ?_
            refine O.val (v := I ((((cnt 44 ((fmtR l13_1).take k) + 1) : Nat) : Int))) rfl (Ru.assign rfl) rfl ?_
            refine O.nil ?_
            refine C.region ?_
            refine O.val (v := I (((k : Nat) : Int))) rfl (Ru.move rfl) rfl ?_
            refine O.val (v := I ((((k + 1) : Nat) : Int))) rfl (Ru.congr (v := I ((((k : Nat) : Int) + 1))) (v' := I ((((k + 1) : Nat) : Int))) (Ru.add rfl rfl (by omega)) (I_congr (by first | omega | simp))) rfl ?_
            refine O.val (v := I ((((k + 1) : Nat) : Int))) rfl (Ru.assign rfl) rfl ?_
            refine O.nil ?_
            exact loopEnd (k + 1) (by (try dsimp only); omega) (Has.cons rfl (Has.cons rfl (Has.cons (I_congr (by omega)) (Has.cons (I_congr (by omega)) (Has.cons (I_congr (by first | rfl | omega | (simp; omega) | simp)) Has.nil))))) ⟨(by (try dsimp only); omega), (by (try dsimp only); omega), (hM_l10.pick [0] (by decide) rfl)⟩
          · rw [if_neg (fun h => c42 (d44.1 h))] at e44
            refine C.skip ?_
            refine C.region ?_
            refine O.val (v := I (((k : Nat) : Int))) rfl (Ru.move rfl) rfl ?_
            refine O.val (v := I ((((k + 1) : Nat) : Int))) rfl (Ru.congr (v := I ((((k : Nat) : Int) + 1))) (v' := I ((((k + 1) : Nat) : Int))) (Ru.add rfl rfl (by omega)) (I_congr (by first | omega | simp))) rfl ?_
            refine O.val (v := I ((((k + 1) : Nat) : Int))) rfl (Ru.assign rfl) rfl ?_
            refine O.nil ?_
            exact loopEnd (k + 1) (by (try dsimp only); omega) (Has.cons rfl (Has.cons rfl (Has.cons (I_congr (by omega)) (Has.cons (I_congr (by omega)) (Has.cons (I_congr (by first | rfl | omega | (simp; omega) | simp)) Has.nil))))) ⟨(by (try dsimp only); omega), (by (try dsimp only); omega), (hM_l10.pick [0] (by decide) rfl)⟩
      · refine C.exit ?_
        refine C.seq ?_
        refine C.region ?_
        refine O.val (v := I (((cnt 58 ((fmtR l13_1).take k) : Nat) : Int))) rfl (Ru.move rfl) rfl ?_
        refine O.val (v := .slice (A13_1) ((l13_1).length) (c13_1)) rfl (Ru.move rfl) rfl ?_
        refine O.val (v := I ((((l13_1).length : Nat) : Int))) rfl (Ru.blenSlice Tryd.underlying25 rfl) rfl ?_
        refine O.val (v := .bool (true)) rfl (Ru.congr (v := .bool (decide (((cnt 58 ((fmtR l13_1).take k) : Nat) : Int) = (((l13_1).length : Nat) : Int)))) (v' := .bool (true)) (Ru.eql rfl rfl) ((congrArg Value.bool (decide_eq_true (by rw [take_all (by omega)]; omega))))) rfl ?_
        refine O.val (v := .bool (true)) rfl (Ru.move rfl) rfl ?_
        refine O.val (v := I (((cnt 44 ((fmtR l13_1).take k) : Nat) : Int))) rfl (Ru.move rfl) rfl ?_
        refine O.val (v := .slice (A13_1) ((l13_1).length) (c13_1)) rfl (Ru.move rfl) rfl ?_
        refine O.val (v := I ((((l13_1).length : Nat) : Int))) rfl (Ru.blenSlice Tryd.underlying25 rfl) rfl ?_
        refine O.val (v := I (((((l13_1).length : Nat) : Int) - 1))) rfl (Ru.sub rfl rfl (by omega)) rfl ?_
        refine O.val (v := .bool (true)) rfl (Ru.congr (v := .bool (decide (((cnt 44 ((fmtR l13_1).take k) : Nat) : Int) = ((((l13_1).length : Nat) : Int) - 1)))) (v' := .bool (true)) (Ru.eql rfl rfl) ((congrArg Value.bool (decide_eq_true (by rw [take_all (by omega)]; omega))))) rfl ?_
        refine O.val (v := .bool (true)) rfl (Ru.pickT rfl rfl) rfl ?_
        refine O.val (v := .bool (true)) rfl (Ru.assign rfl) rfl ?_
        refine O.nil ?_
        refine C.ret ?_
        refine P1 (v := .bool (true)) rfl ?_
        exact ⟨rfl, (Mem.none hM_l10)⟩
end Go.Proofs.YtfdlmimgooeioaaDoor
namespace Go.Proofs.YtfdlmimgooeioaaDoor.fnRowText
open Go.ChangeShapes Go.WideShapes Go.ChangeAt Go.RowKit Go.Px
open Go.ChangeMaps (open_string shut_string)
set_option linter.unusedVariables false

theorem own : ownKnob Tryd.prog.godebug = none := by kernel_rfl
theorem laidOut : laidOutB Tryd.prog = true := by kernel_rfl
theorem Lay.tab_laid {W : World} (h : laidMetH Tryd.prog Rows.fnRowTextRow.laid W) : TAB W := by
  rw [MakeChecks.laidMetH_plain _ _ _ (by kernel_rfl)] at h
  obtain ⟨ps, ⟨g0, t0, cs0, f0, p0, q0, _, _, _, _, ⟨g1, t1, cs1, f1, p1, q1, _, _, _, _, ⟨g, t, cs, fuel, p, q, hg, ht, hvar, hd, _, _⟩, _⟩, _⟩, _⟩ := h
  have hg' : Tryd.prog.globalNamed tabN = some 0 := by kernel_rfl
  obtain rfl := Option.some.inj (hg'.symm.trans (show Tryd.prog.globalNamed tabN = some g from hg))
  have hty : (Tryd.prog.globals[0]?).map (·.type) = some 159 := by kernel_rfl
  obtain rfl := Option.some.inj (hty.symm.trans ht)
  unfold TAB Lib.TabIs
  rw [show W.var? Tryd.prog tabN = some cs from hvar, ← Lib.cells_of_tab (zs := Lib.pow10Tab) Tryd.underlying159 Tryd.underlying139 (by kernel_rfl) (by kernel_rfl) hd]

theorem door_met (os : Os) (args : Array Value) : laidMetH Tryd.prog Rows.fnRowTextRow.laid ((World.doorLaid Tryd.prog 400 os).forCall (fun _ _ => 0) ⟨#[], args, []⟩).memory :=
  laidMetH_of_parts3 (fuel := 8) (laidMet_of_run' 8 (by kernel_rfl) (by kernel_rfl)) (by kernel_rfl) (by kernel_rfl)
set_option maxRecDepth 100000 in
theorem lifted (os : Os) (started : os.Started) (H : Type) (enc : TypeId × Value → H) :
    ReturnsInHanded {} Tryd.checked os 4 .any (fun w args => (Rows.fnRowTextSpec.pre enc Tryd.prog Tryd.f4 [] false w args ∧ laidMetH Tryd.prog Rows.fnRowTextRow.laid w) ∧ sizedMet enc Tryd.prog Tryd.f4 (OpenSpec.ofChange Rows.fnRowTextSpec) false w args) (Rows.fnRowTextSpec.post enc Tryd.prog Tryd.f4 false true false false) := by
  refine returnsInHanded_of_change_and (C := Tryd.checked) (X := fun w _ => laidMetH Tryd.prog Rows.fnRowTextRow.laid w) (fun _ _ _ hh h => h.of_heap hh) own started (by kernel_rfl) Tryd.func4
    (ChangeSpec.witness_shaped (enc := enc) (C := Tryd.checked) (os := os) (X := fun w _ => laidMetH Tryd.prog Rows.fnRowTextRow.laid w) false (World.doorLaid Tryd.prog 400 os) #[.slice none 0 0] 8 rfl (World.shaped_of_RefB (by kernel_rfl) (by kernel_rfl)) (by kernel_rfl) (by kernel_rfl) (by kernel_rfl) (door_met os _)) ?_
  intro W base args ds gs before hval0 hW _ _ hL _
  have hval : ∀ (j : Nat) t v, Tryd.f4.params[j]? = some t → args[j]? = some v → Value.okWide Tryd.prog W .any base t v := hval0
  have hW' := hW
  obtain ⟨p, q, hA0, hV, rfl, hfz, hnd⟩ := hW'
  have hW' := hW
  have hA : DataW.TrodAll enc Tryd.prog W 0 (fun _ => true) true Tryd.f4.params.toList args.toList ds p := hA0
  rw [Tryd.params4] at hA hval
  obtain ⟨v0, vs0, d0, ds0, p0, q0, hargs, rfl, rfl, h0, r0⟩ := trodAll_cons hA
  obtain ⟨rfl, rfl, rfl⟩ := trodAll_nil r0
  obtain rfl : args = #[v0] := by cases args; simp_all
  obtain ⟨rfl, rfl⟩ := trodVars_none hV
  have k0 := h0
  have lt0 : ∀ x ∈ p0, x.block < W.heap.size := by obtain ⟨m, hm⟩ := k0; exact DataW.trod_lt m _ _ _ hm
  obtain ⟨a0, len0, cap0, rfl⟩ := okWide_slice Tryd.underlying29 (hval 0 29 v0 rfl rfl)
  have kk0 := k0
  obtain ⟨fuel0, hf0⟩ := kk0
  obtain ⟨z0, rfl, hz0, hc0, hw0, hRd0⟩ := slice_in (α := UInt8) (f := fun a : UInt8 => [byteV a]) (c := 1) Tryd.underlying29 (by kernel_rfl) (fun _ => rfl) (byte_el Tryd.underlying5) hf0
  rw [flat_one] at hRd0
  have hTab := Lay.tab_laid hL
  clear hA0 hval0
  refine (FnRowText_fn a0 cap0 z0 W hRd0 hz0 hc0 hTab).out.mono fun e W' ⟨v, he, hv, hg⟩ => ?_
  subst he hv
  have bel : Below W.heap.size W W' := ⟨hg.os, hg.tape, hg.output, hg.size, fun k hk => hg.block k hk (by simp)⟩
  exact ⟨_, rfl, _, _, _, [], _, [], hW', trodAll_mk1 (shut_bool Tryd.underlying4 _), (trodAll_cons_mk (Below.trod laidOut (by kernel_rfl) (of_decide_eq_true (by kernel_rfl)) k0 bel lt0) trodAll_mk0), rfl, bel.frame _, fun h => by cases h⟩

theorem named_ : Tryd.prog.funcNamed Rows.fnRowTextRow.func = some 4 := by kernel_rfl
theorem closed : joinedFacts Tryd.prog 4 Tryd.f4 Rows.fnRowTextSpec Rows.fnRowTextRow = true := by kernel_rfl
theorem inst_ : Tryd.f4.isInstance Tryd.prog Rows.fnRowTextRow.origin Rows.fnRowTextRow.targs := of_decide_eq_true (by kernel_rfl)
theorem wrap_ : Tryd.f4.isWrapper Tryd.prog Rows.fnRowTextRow.wrapper Rows.fnRowTextRow.mainSum := by
  unfold Func.isWrapper
  rw [if_neg (by decide +kernel)]
  exact ⟨rfl, rfl⟩
theorem over : Rows.fnRowTextRow.holds Tryd.pinned (OpenSpec.ofChange Rows.fnRowTextSpec) :=
  OpenClaim.holds_of_wide 4 Tryd.f4 rfl rfl rfl rfl rfl rfl rfl ⟨rfl, rfl, rfl, rfl, rfl⟩ rfl rfl rfl rfl rfl named_ Tryd.func4 closed inst_ wrap_
    (fun os started H enc _ => lifted os started H enc)
theorem proved : Rows.FnRowTextCardSaid :=
  Claim7.holds_tied_plain_at .later [] [.data, .data, .data] true (true, "124a393d7e7933ca6a4c65599ee55d0bdb73d00978c952e65eea3ed228b91ce8") true over (fun _ h => by cases h) (by kernel_rfl) (fun _ h => by cases h) fnRowText_row_tie rfl ⟨rfl, rfl⟩ (by kernel_rfl) rfl
    (fun f fn hf hfn => by
      obtain rfl : f = 4 := Option.some.inj (named_.symm.trans hf) |>.symm
      obtain rfl : fn = Tryd.f4 := (Option.some.inj (Tryd.func4.symm.trans hfn)).symm
      exact ⟨by kernel_rfl, fun j t ht => by
        rw [Tryd.params4] at ht
        have hm : t ∈ [29] := by simpa using Array.mem_of_getElem? ht
        have hall : ([29].all fun u => !Tryd.prog.wantsStandIn u) = true := by kernel_rfl
        exact (show Tryd.prog.wantsStandIn t = false by simpa using List.all_eq_true.1 hall t hm)⟩)
    (by kernel_rfl)
end Go.Proofs.YtfdlmimgooeioaaDoor.fnRowText
