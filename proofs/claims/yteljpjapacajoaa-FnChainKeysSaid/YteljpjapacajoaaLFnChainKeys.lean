/- The statement Rows.FnChainKeysSaid: the Go function laws.FnChainKeys returns true for every input, and each argument reads afterwards as it read before. No conditions. -/
import Derived.Test.YteljpjapacajoaaRows
import Derived.Test.YteljpjapacajoaaPxO
import Derived.Test.YteljpjapacajoaaDZ
import Derived.Test.YteljpjapacajoaaH0
import Derived.WalkKit
import Derived.ProofKit
import Derived.OpenShut
import Derived.ShutString
import Derived.ChangeOld
import Derived.SliceStrings
import Derived.Deep.Slices
import Derived.Deep.Fields
import Derived.ChangeSame
import Derived.Below
set_option linter.unusedVariables false
set_option linter.unusedSimpArgs false
namespace Go.Proofs.Yteljpjapacajoaa
open Go.Px
set_option linter.unusedVariables false
theorem FnChainKeys_fn (A : Option Addr) (c : Nat) (l : List UInt8) (w : World) (hA : Rd w A ((l).map byteV)) (hl : l.length ≤ 9223372036854775807) (hc : l.length ≤ c) :
    Does Try.prog 6 [.slice (A) ((l).length) (c)] w (fun v w1 => v = .bool (true) ∧ Mem w w1 [] []) := by
  have hM : Mem w w [] [] := Mem.refl
  refine Does.enter1 Try.func6 rfl Try.results6 Try.ntmps6 rfl ?_
  refine C.seq ?_
  refine C.region ?_
  refine O.val (v := .bool (false)) rfl (Ru.assign rfl) rfl ?_
  refine O.nil ?_
  refine C.seq ?_
  refine C.seq ?_
  refine C.region ?_
  refine O.val (v := .slice (A) ((l).length) (c)) rfl (Ru.move rfl) rfl ?_
  refine O.val (v := I ((((l).length : Nat) : Int))) rfl (Ru.blenSlice Try.underlying22 rfl) rfl ?_
  refine O.val (v := .bool (decide ((((l).length : Nat) : Int) > 1048576))) rfl (Ru.gtr rfl rfl) rfl ?_
  refine O.nil ?_
  refine C.cond (p := (((l).length : Nat) : Int) > 1048576) rfl (fun c9 => ?_) (fun c9 => ?_)
  · refine C.seq ?_
    refine C.region ?_
    refine O.val (v := .bool (true)) rfl (Ru.assign rfl) rfl ?_
    refine O.nil ?_
    refine C.ret ?_
    refine P1 (v := .bool (true)) rfl ?_
    exact ⟨rfl, (Mem.none hM)⟩
  · refine C.skip ?_
    refine C.seq ?_
    refine C.region ?_
    refine O.val (v := .slice (A) ((l).length) (c)) rfl (Ru.move rfl) rfl ?_
    refine O.callg [.slice (A) ((l).length) (c)] rfl en23 rfl rfl (DrawChainKeys_fn A c l w (hA.at hM) (by first | omega | assumption | (simp; omega) | simp | (intros; omega)) (by first | omega | assumption | (simp; omega) | simp | (intros; omega))) ?_
    rintro _ w3_1 ⟨l13_1, A13_1, c13_1, G3_1, rfl, hl3_1, hk3_1, hG3_1, hcp3_1, hR3_1⟩
    have hM3_1 : Mem w w3_1 [] [[⟨.slice (A13_1) ((l13_1).length) (c13_1), 28, 3, ((l13_1).length), (l13_1).flatMap encL⟩], G3_1] := Mem.call (Ma := []) hM hR3_1 rfl
    have hcr3_1_0 := (hM3_1.cap 0 rfl).1
    refine O.val (v := .slice (A13_1) ((l13_1).length) (c13_1)) rfl (Ru.assign rfl) rfl ?_
    refine O.nil ?_
    refine C.seq ?_
    refine C.region ?_
    refine O.val (v := .slice (A13_1) ((l13_1).length) (c13_1)) rfl (Ru.move rfl) rfl ?_
    refine O.callg [.slice (A13_1) ((l13_1).length) (c13_1)] rfl en24 rfl rfl (ChainKeys_fn A13_1 c13_1 l13_1 w3_1 (hM3_1.rd 0 rfl) (hG3_1 _ (Mem.gown hM3_1 1 rfl)) (by first | omega | assumption | (simp; omega) | simp | (intros; omega))) ?_
    rintro _ w4_1 ⟨A14_1, c14_1, rfl, hR4_1⟩
    have hM4_1 : Mem w w4_1 [] [[⟨.slice (A14_1) ((keysC (tsL l13_1)).length) (c14_1), 3, 1, ((keysC (tsL l13_1)).length), (keysC (tsL l13_1)).map I⟩], [⟨.slice (A13_1) ((l13_1).length) (c13_1), 28, 3, ((l13_1).length), (l13_1).flatMap encL⟩], G3_1] := Mem.call (Ma := []) hM3_1 hR4_1 rfl
    have hcr4_1_0 := (hM4_1.cap 0 rfl).1
    have hkl := validK_len (keys_valid (l := tsL l13_1))
    refine O.val (v := .slice (A14_1) ((keysC (tsL l13_1)).length) (c14_1)) rfl (Ru.assign rfl) rfl ?_
    refine O.nil ?_
    refine C.seq ?_
    refine C.seq ?_
    refine C.region ?_
    refine O.val (v := .slice (A14_1) ((keysC (tsL l13_1)).length) (c14_1)) rfl (Ru.move rfl) rfl ?_
    refine O.val (v := .slice (A13_1) ((l13_1).length) (c13_1)) rfl (Ru.move rfl) rfl ?_
    refine O.callg [.slice (A13_1) ((l13_1).length) (c13_1)] rfl en26 rfl rfl (sChainKeys_fn A13_1 c13_1 l13_1 w4_1 (hM4_1.rd 1 rfl) (hG3_1 _ (Mem.gown hM4_1 2 rfl)) (by first | omega | assumption | (simp; omega) | simp | (intros; omega))) ?_
    rintro _ w5_2 ⟨A15_2, c15_2, rfl, hR5_2⟩
    have hM5_2 : Mem w w5_2 [] [[⟨.slice (A15_2) ((keysC (tsL l13_1)).length) (c15_2), 3, 1, ((keysC (tsL l13_1)).length), (keysC (tsL l13_1)).map I⟩], [⟨.slice (A14_1) ((keysC (tsL l13_1)).length) (c14_1), 3, 1, ((keysC (tsL l13_1)).length), (keysC (tsL l13_1)).map I⟩], [⟨.slice (A13_1) ((l13_1).length) (c13_1), 28, 3, ((l13_1).length), (l13_1).flatMap encL⟩], G3_1] := Mem.call (Ma := []) hM4_1 hR5_2 rfl
    have hcr5_2_0 := (hM5_2.cap 0 rfl).1
    refine O.callg [.slice (A14_1) ((keysC (tsL l13_1)).length) (c14_1), .slice (A15_2) ((keysC (tsL l13_1)).length) (c15_2)] rfl en25 rfl rfl (equalInts_fn A14_1 c14_1 (keysC (tsL l13_1)) A15_2 c15_2 (keysC (tsL l13_1)) w5_2 (hM5_2.rd 1 rfl) (hM5_2.rd 0 rfl) (by omega)) ?_
    rintro _ w5_3 ⟨hv5_3, hR5_3⟩
    obtain rfl : _ = Value.bool true := hv5_3.trans (by simp)
    have hM5_3 : Mem w w5_3 [] [[⟨.slice (A15_2) ((keysC (tsL l13_1)).length) (c15_2), 3, 1, ((keysC (tsL l13_1)).length), (keysC (tsL l13_1)).map I⟩], [⟨.slice (A14_1) ((keysC (tsL l13_1)).length) (c14_1), 3, 1, ((keysC (tsL l13_1)).length), (keysC (tsL l13_1)).map I⟩], [⟨.slice (A13_1) ((l13_1).length) (c13_1), 28, 3, ((l13_1).length), (l13_1).flatMap encL⟩], G3_1] := Mem.call (Ma := []) hM5_2 hR5_3 rfl
    refine O.val (v := .bool (false)) rfl (Ru.not (b := true) rfl) rfl ?_
    refine O.val (v := .bool (false)) rfl (Ru.move rfl) rfl ?_
    refine O.val (v := .slice (A13_1) ((l13_1).length) (c13_1)) rfl (Ru.move rfl) rfl ?_
    refine O.callg [.slice (A13_1) ((l13_1).length) (c13_1)] rfl en18 rfl rfl (ValidChain_fn A13_1 c13_1 l13_1 w5_3 (hM5_3.rd 2 rfl) (hG3_1 _ (Mem.gown hM5_3 3 rfl)) (by first | omega | assumption | (simp; omega) | simp | (intros; omega))) ?_
    rintro _ w5_7 ⟨rfl, hR5_7⟩
    have hM5_7 : Mem w w5_7 [] [[⟨.slice (A15_2) ((keysC (tsL l13_1)).length) (c15_2), 3, 1, ((keysC (tsL l13_1)).length), (keysC (tsL l13_1)).map I⟩], [⟨.slice (A14_1) ((keysC (tsL l13_1)).length) (c14_1), 3, 1, ((keysC (tsL l13_1)).length), (keysC (tsL l13_1)).map I⟩], [⟨.slice (A13_1) ((l13_1).length) (c13_1), 28, 3, ((l13_1).length), (l13_1).flatMap encL⟩], G3_1] := Mem.call (Ma := []) hM5_3 hR5_7 rfl
    refine O.val (v := .bool (!(validC (tsL l13_1)))) rfl (Ru.not rfl) rfl ?_
    refine O.val (v := .bool (!(validC (tsL l13_1)))) rfl (Ru.pickF rfl rfl) rfl ?_
    refine O.nil ?_
    refine C.condn (b := (validC (tsL l13_1))) rfl (fun c23 => ?_) (fun c23 => ?_)
    · refine C.seq ?_
      refine C.region ?_
      refine O.val (v := .slice (A14_1) ((keysC (tsL l13_1)).length) (c14_1)) rfl (Ru.move rfl) rfl ?_
      refine O.val (v := .slice (A13_1) ((l13_1).length) (c13_1)) rfl (Ru.move rfl) rfl ?_
      refine O.callg [.slice (A13_1) ((l13_1).length) (c13_1)] rfl en26 rfl rfl (sChainKeys_fn A13_1 c13_1 l13_1 w5_7 (hM5_7.rd 2 rfl) (hG3_1 _ (Mem.gown hM5_7 3 rfl)) (by first | omega | assumption | (simp; omega) | simp | (intros; omega))) ?_
      rintro _ w6_2 ⟨A16_2, c16_2, rfl, hR6_2⟩
      have hM6_2 : Mem w w6_2 [] [[⟨.slice (A16_2) ((keysC (tsL l13_1)).length) (c16_2), 3, 1, ((keysC (tsL l13_1)).length), (keysC (tsL l13_1)).map I⟩], [⟨.slice (A15_2) ((keysC (tsL l13_1)).length) (c15_2), 3, 1, ((keysC (tsL l13_1)).length), (keysC (tsL l13_1)).map I⟩], [⟨.slice (A14_1) ((keysC (tsL l13_1)).length) (c14_1), 3, 1, ((keysC (tsL l13_1)).length), (keysC (tsL l13_1)).map I⟩], [⟨.slice (A13_1) ((l13_1).length) (c13_1), 28, 3, ((l13_1).length), (l13_1).flatMap encL⟩], G3_1] := Mem.call (Ma := []) hM5_7 hR6_2 rfl
      have hcr6_2_0 := (hM6_2.cap 0 rfl).1
      refine O.callg [.slice (A14_1) ((keysC (tsL l13_1)).length) (c14_1), .slice (A16_2) ((keysC (tsL l13_1)).length) (c16_2)] rfl en25 rfl rfl (equalInts_fn A14_1 c14_1 (keysC (tsL l13_1)) A16_2 c16_2 (keysC (tsL l13_1)) w6_2 (hM6_2.rd 2 rfl) (hM6_2.rd 0 rfl) (by omega)) ?_
      rintro _ w6_3 ⟨hv6_3, hR6_3⟩
      obtain rfl : _ = Value.bool true := hv6_3.trans (by simp)
      have hM6_3 : Mem w w6_3 [] [[⟨.slice (A16_2) ((keysC (tsL l13_1)).length) (c16_2), 3, 1, ((keysC (tsL l13_1)).length), (keysC (tsL l13_1)).map I⟩], [⟨.slice (A15_2) ((keysC (tsL l13_1)).length) (c15_2), 3, 1, ((keysC (tsL l13_1)).length), (keysC (tsL l13_1)).map I⟩], [⟨.slice (A14_1) ((keysC (tsL l13_1)).length) (c14_1), 3, 1, ((keysC (tsL l13_1)).length), (keysC (tsL l13_1)).map I⟩], [⟨.slice (A13_1) ((l13_1).length) (c13_1), 28, 3, ((l13_1).length), (l13_1).flatMap encL⟩], G3_1] := Mem.call (Ma := []) hM6_2 hR6_3 rfl
      refine O.val (v := .bool (true)) rfl (Ru.assign rfl) rfl ?_
      refine O.nil ?_
      refine C.ret ?_
      refine P1 (v := .bool (true)) rfl ?_
      exact ⟨(by first | rfl | simp), (Mem.none hM6_3)⟩
    · have hv : validC (tsL l13_1) = true := by simp_all
      have hsm := keys_sum hv
      refine C.skip ?_
      refine C.seq ?_
      refine C.region ?_
      refine O.val (v := I (0)) rfl (Ru.assign rfl) rfl ?_
      refine O.nil ?_
      refine C.seq ?_
      refine C.seq ?_
      refine C.region ?_
      refine O.val (v := I (0)) rfl (Ru.assign rfl) rfl ?_
      refine O.nil ?_
      refine C.block ?_
      refine C.loop (ι := Nat) (fun i => ([(3, .slice (A13_1) ((l13_1).length) (c13_1)), (4, .slice (A14_1) ((keysC (tsL l13_1)).length) (c14_1)), (5, I (((sumK ((tsL l13_1).take i) : Nat) : Int))), (6, I (((i : Nat) : Int)))] : List (Nat × Value))) (fun i w_ => (i ≤ l13_1.length) ∧ (sumK ((tsL l13_1).take i) ≤ 4 * i) ∧ (Mem w w_ [] [[⟨.slice (A15_2) ((keysC (tsL l13_1)).length) (c15_2), 3, 1, ((keysC (tsL l13_1)).length), (keysC (tsL l13_1)).map I⟩], [⟨.slice (A14_1) ((keysC (tsL l13_1)).length) (c14_1), 3, 1, ((keysC (tsL l13_1)).length), (keysC (tsL l13_1)).map I⟩], [⟨.slice (A13_1) ((l13_1).length) (c13_1), 28, 3, ((l13_1).length), (l13_1).flatMap encL⟩], G3_1])) (fun i => l13_1.length - i) (0) (Has.cons rfl (Has.cons rfl (Has.cons (I_congr (by simp [sumK])) (Has.cons (I_congr (by first | rfl | omega | (simp; omega) | simp)) Has.nil)))) ⟨(Nat.zero_le _), (by (try dsimp only); simp [sumK]), (hM5_7.pick [0, 1, 2, 3] (by decide) rfl)⟩ (fun i σ w_l9 hI => ?_)
      try dsimp only at hI
      obtain ⟨hi0_l9, hi1_l9, hM_l9⟩ := hI
      have hcl0_l9 := (hM_l9.cap 0 rfl).1
      have hcl1_l9 := (hM_l9.cap 1 rfl).1
      have hcl2_l9 := (hM_l9.cap 2 rfl).1
      refine C.seq ?_
      refine C.seq ?_
      refine C.region ?_
      refine O.val (v := I (((i : Nat) : Int))) rfl (Ru.move rfl) rfl ?_
      refine O.val (v := .slice (A13_1) ((l13_1).length) (c13_1)) rfl (Ru.move rfl) rfl ?_
      refine O.val (v := I ((((l13_1).length : Nat) : Int))) rfl (Ru.blenSlice Try.underlying23 rfl) rfl ?_
      refine O.val (v := .bool (decide (((i : Nat) : Int) < (((l13_1).length : Nat) : Int)))) rfl (Ru.lss rfl rfl) rfl ?_
      refine O.nil ?_
      refine C.cond (p := ((i : Nat) : Int) < (((l13_1).length : Nat) : Int)) rfl (fun c31 => ?_) (fun c31 => ?_)
      · refine C.skip ?_
        refine C.seq ?_
        refine C.block ?_
        refine C.region ?_
        refine O.val (v := I (((sumK ((tsL l13_1).take i) : Nat) : Int))) rfl (Ru.move rfl) rfl ?_
        refine O.val (v := .slice (A13_1) ((l13_1).length) (c13_1)) rfl (Ru.move rfl) rfl ?_
        refine O.val (v := I (((i : Nat) : Int))) rfl (Ru.move rfl) rfl ?_
        have hx11_3 : i < (l13_1).length := (by first | omega | (simp; omega))
        refine O.val (v := .pointer (ofs (A13_1) (i * 3))) rfl (Ru.indexA (j := i) Try.underlying23 el28 rfl rfl (smf encL_len (hM_l9.rd 2 rfl) hx11_3 rfl) (by omega) (by first | omega | (simp; omega))) rfl ?_
        refine O.val (v := .pointer (ofs (A13_1) (i * 3 + 0))) rfl (Ru.fieldA fl28_0 rfl (smf encL_len (hM_l9.rd 2 rfl) hx11_3 rfl)) rfl ?_
        refine O.val rfl (Ru.load1 el26 rfl (ldf encL_len (hM_l9.rd 2 rfl) hx11_3 rfl)) rfl ?_
        refine O.val (v := I (((((l13_1)[i]'hx11_3).t.keys.length : Nat) : Int))) rfl (Ru.blenSlice Try.underlying26 rfl) rfl ?_
        refine O.val (v := I ((((sumK ((tsL l13_1).take i) + ((l13_1)[i]'hx11_3).t.keys.length) : Nat) : Int))) rfl (Ru.congr (v := I ((((sumK ((tsL l13_1).take i) : Nat) : Int) + ((((l13_1)[i]'hx11_3).t.keys.length : Nat) : Int)))) (v' := I ((((sumK ((tsL l13_1).take i) + ((l13_1)[i]'hx11_3).t.keys.length) : Nat) : Int))) (Ru.add rfl rfl (by have := (valid_all hv _ (List.getElem_mem hx11_3)).1; omega)) (I_congr (by first | omega | simp))) rfl ?_
        refine O.val (v := I ((((sumK ((tsL l13_1).take i) + ((l13_1)[i]'hx11_3).t.keys.length) : Nat) : Int))) rfl (Ru.assign rfl) rfl ?_
        refine O.nil ?_
        refine C.region ?_
        refine O.val (v := I (((i : Nat) : Int))) rfl (Ru.move rfl) rfl ?_
        refine O.val (v := I ((((i + 1) : Nat) : Int))) rfl (Ru.congr (v := I ((((i : Nat) : Int) + 1))) (v' := I ((((i + 1) : Nat) : Int))) (Ru.add rfl rfl (by omega)) (I_congr (by first | omega | simp))) rfl ?_
        refine O.val (v := I ((((i + 1) : Nat) : Int))) rfl (Ru.assign rfl) rfl ?_
        refine O.nil ?_
        exact loopEnd (i + 1) (by (try dsimp only); omega) (Has.cons rfl (Has.cons rfl (Has.cons (I_congr (by rw [sumK_take (by simp; omega)]; simp)) (Has.cons (I_congr (by first | rfl | omega | (simp; omega) | simp)) Has.nil)))) ⟨(by (try dsimp only); omega), (by (try dsimp only); have := (valid_all hv _ (List.getElem_mem hx11_3)).1; rw [sumK_take (by simp; omega)]; simp; omega), (hM_l9.pick [0, 1, 2, 3] (by decide) rfl)⟩
      · refine C.exit ?_
        refine C.seq ?_
        have hit : (tsL l13_1).take i = tsL l13_1 := take_all (by simp; omega)
        refine C.region ?_
        refine O.val (v := .slice (A14_1) ((keysC (tsL l13_1)).length) (c14_1)) rfl (Ru.move rfl) rfl ?_
        refine O.val (v := I ((((keysC (tsL l13_1)).length : Nat) : Int))) rfl (Ru.blenSlice Try.underlying26 rfl) rfl ?_
        refine O.val (v := I (((sumK ((tsL l13_1).take i) : Nat) : Int))) rfl (Ru.move rfl) rfl ?_
        refine O.val (v := .bool (decide ((((keysC (tsL l13_1)).length : Nat) : Int) = ((sumK ((tsL l13_1).take i) : Nat) : Int)))) rfl (Ru.eql rfl rfl) rfl ?_
        refine O.val (v := .bool (decide ((((keysC (tsL l13_1)).length : Nat) : Int) = ((sumK ((tsL l13_1).take i) : Nat) : Int)))) rfl (Ru.move rfl) rfl ?_
        refine O.partp 46 ((((keysC (tsL l13_1)).length : Nat) : Int) = ((sumK ((tsL l13_1).take i) : Nat) : Int)) rfl (fun g46 => ?_) (fun g46 => ?_)
        · refine O.val (v := .slice (A14_1) ((keysC (tsL l13_1)).length) (c14_1)) rfl (Ru.move rfl) rfl ?_
          refine O.callg [.slice (A14_1) ((keysC (tsL l13_1)).length) (c14_1)] rfl en27 rfl rfl (ValidKeys_fn A14_1 c14_1 (keysC (tsL l13_1)) w_l9 (hM_l9.rd 1 rfl) (by first | omega | assumption | (simp; omega) | simp | (intros; omega))) ?_
          rintro _ w12_6 ⟨rfl, hR12_6⟩
          have hM12_6 : Mem w w12_6 [] [[⟨.slice (A15_2) ((keysC (tsL l13_1)).length) (c15_2), 3, 1, ((keysC (tsL l13_1)).length), (keysC (tsL l13_1)).map I⟩], [⟨.slice (A14_1) ((keysC (tsL l13_1)).length) (c14_1), 3, 1, ((keysC (tsL l13_1)).length), (keysC (tsL l13_1)).map I⟩], [⟨.slice (A13_1) ((l13_1).length) (c13_1), 28, 3, ((l13_1).length), (l13_1).flatMap encL⟩], G3_1] := Mem.call (Ma := []) hM_l9 hR12_6 rfl
          refine O.val (v := .bool (validK (keysC (tsL l13_1)))) rfl (Ru.pickT rfl rfl) rfl ?_
          refine O.val (v := .bool (validK (keysC (tsL l13_1)))) rfl (Ru.assign rfl) rfl ?_
          refine O.nil ?_
          refine C.ret ?_
          refine P1 (v := .bool (validK (keysC (tsL l13_1)))) rfl ?_
          exact ⟨(by first | (rw [keys_valid]; done) | (exfalso; rw [hit] at *; omega) | rfl), (Mem.none hM12_6)⟩
        · refine O.pass rfl rfl rfl rfl rfl ?_
          refine O.pass rfl rfl rfl rfl rfl ?_
          refine O.val (v := .bool (false)) rfl (Ru.pickF rfl rfl) rfl ?_
          refine O.val (v := .bool (false)) rfl (Ru.assign rfl) rfl ?_
          refine O.nil ?_
          refine C.ret ?_
          refine P1 (v := .bool (false)) rfl ?_
          exact ⟨(by first | (rw [keys_valid]; done) | (exfalso; rw [hit] at *; omega) | rfl), (Mem.none hM_l9)⟩
end Go.Proofs.Yteljpjapacajoaa
namespace Go.Proofs.Yteljpjapacajoaa.fnChainKeys
open Go.ChangeShapes Go.WideShapes Go.ChangeAt Go.RowKit Go.Px
open Go.ChangeMaps (open_string shut_string)
set_option linter.unusedVariables false

theorem own : ownKnob Try.prog.godebug = none := by kernel_rfl
theorem laidOut : laidOutB Try.prog = true := by kernel_rfl

set_option maxRecDepth 100000 in
theorem lifted (os : Os) (started : os.Started) (H : Type) (enc : TypeId × Value → H) :
    ReturnsInHanded {} Try.checked os 6 .any (Rows.fnChainKeysSpec.pre6 enc Try.prog Try.f6 Rows.fnChainKeysRow.domain false) (Rows.fnChainKeysSpec.post enc Try.prog Try.f6 false true false false) := by
  refine returnsInHanded_of_change (C := Try.checked) own started (by kernel_rfl) Try.func6
    (ChangeSpec.witness6 (enc := enc) (C := Try.checked) false ⟨#[], #[.slice none 0 0], []⟩ 8 (by kernel_rfl) (by kernel_rfl) (by kernel_rfl) (by kernel_rfl)) ?_
  intro W base args ds gs before hval0 hW hcnd _
  have hval : ∀ (j : Nat) t v, Try.f6.params[j]? = some t → args[j]? = some v → Value.okWide Try.prog W .any base t v := hval0
  have hW' := hW
  obtain ⟨p, q, hA0, hV, rfl, hfz, hnd⟩ := hW
  have hA : DataW.TrodAll enc Try.prog W 0 (fun _ => true) true Try.f6.params.toList args.toList ds p := hA0
  rw [Try.params6] at hA hval
  obtain ⟨v0, vs0, d0, ds0, p0, q0, hargs, rfl, rfl, h0, r0⟩ := trodAll_cons hA
  obtain ⟨rfl, rfl, rfl⟩ := trodAll_nil r0
  obtain rfl : args = #[v0] := by cases args; simp_all
  obtain ⟨rfl, rfl⟩ := trodVars_none hV
  have k0 := h0
  have lt0 : ∀ x ∈ p0, x.block < W.heap.size := by obtain ⟨m, hm⟩ := k0; exact DataW.trod_lt m _ _ _ hm
  obtain ⟨a0, len0, cap0, rfl⟩ := okWide_slice Try.underlying22 (hval 0 22 v0 rfl rfl)
  have kk0 := k0
  obtain ⟨fuel0, hf0⟩ := kk0
  obtain ⟨z0, rfl, hz0, hc0, hw0, hRd0⟩ := slice_in (α := UInt8) (f := fun a : UInt8 => [byteV a]) (c := 1) Try.underlying22 (by kernel_rfl) (fun _ => rfl) (byte_el Try.underlying5) hf0
  rw [flat_one] at hRd0
  clear hA0 hval0
  refine (FnChainKeys_fn a0 cap0 z0 W hRd0 hz0 hc0).out.mono fun e W' ⟨v, he, hv, hg⟩ => ?_
  subst he hv
  have bel : Below W.heap.size W W' := ⟨hg.os, hg.tape, hg.output, hg.size, fun k hk => hg.block k hk (by simp)⟩
  exact ⟨_, rfl, _, _, _, [], _, [], hW', trodAll_mk1 (shut_bool Try.underlying4 _), (trodAll_cons_mk (Below.trod laidOut (by kernel_rfl) (of_decide_eq_true (by kernel_rfl)) k0 bel lt0) trodAll_mk0), rfl, bel.frame _, fun h => by cases h⟩

theorem named_ : Try.prog.funcNamed Rows.fnChainKeysRow.func = some 6 := by kernel_rfl
theorem closed : joinedFacts Try.prog 6 Try.f6 Rows.fnChainKeysSpec Rows.fnChainKeysRow = true := by
  unfold joinedFacts
  rw [enter_, lifts_, made_]
  kernel_rfl
theorem inst_ : Try.f6.isInstance Try.prog Rows.fnChainKeysRow.origin Rows.fnChainKeysRow.targs := of_decide_eq_true (by kernel_rfl)
theorem wrap_ : Try.f6.isWrapper Try.prog Rows.fnChainKeysRow.wrapper Rows.fnChainKeysRow.mainSum := by
  unfold Func.isWrapper
  rw [if_neg (by decide +kernel)]
  exact ⟨rfl, rfl⟩
theorem over : Rows.fnChainKeysRow.holds Try.pinned (OpenSpec.ofChange Rows.fnChainKeysSpec) :=
  OpenClaim.holds_of_wide 6 Try.f6 rfl rfl rfl rfl rfl rfl rfl ⟨rfl, rfl, rfl, rfl, rfl⟩ rfl rfl rfl rfl rfl named_ Try.func6 closed inst_ wrap_
    (fun os started H enc _ => lifted os started H enc)
theorem proved : Rows.FnChainKeysSaid := over
end Go.Proofs.Yteljpjapacajoaa.fnChainKeys
