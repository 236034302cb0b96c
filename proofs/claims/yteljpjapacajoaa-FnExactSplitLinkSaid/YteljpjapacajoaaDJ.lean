/- Own layer: part of this seat (DJ). Plain theorems; no conditions. -/
import Derived.Test.YteljpjapacajoaaDI
import Derived.Test.YteljpjapacajoaaCA
set_option linter.unusedVariables false
set_option linter.unusedSimpArgs false
namespace Go.Proofs.Yteljpjapacajoaa
open Go.Px
theorem equalChains_fn (A : Option Addr) (c : Nat) (a : List LnkL) (B : Option Addr) (d : Nat) (b : List LnkL) (w : World) (hA : Rd w A ((a).flatMap encL)) (hNA : Nst w a) (hB : Rd w B ((b).flatMap encL)) (hNB : Nst w b) (ha : a.length ≤ 1048576) (hka : ∀ x ∈ a, x.t.keys.length ≤ 1048576) :
    Does Try.prog 37 [.slice (A) ((a).length) (c), .slice (B) ((b).length) (d)] w (fun v w1 => v = .bool (decide (tsL a = tsL b)) ∧ Mem w w1 [] []) := by
  have hM : Mem w w [] [] := Mem.refl
  refine Does.enter1 Try.func37 rfl Try.results37 Try.ntmps37 rfl ?_
  refine C.seq ?_
  refine C.region ?_
  refine O.val (v := .bool (false)) rfl (Ru.assign rfl) rfl ?_
  refine O.nil ?_
  refine C.seq ?_
  refine C.seq ?_
  refine C.region ?_
  refine O.val (v := .slice (A) ((a).length) (c)) rfl (Ru.move rfl) rfl ?_
  refine O.val (v := I ((((a).length : Nat) : Int))) rfl (Ru.blenSlice Try.underlying23 rfl) rfl ?_
  refine O.val (v := .slice (B) ((b).length) (d)) rfl (Ru.move rfl) rfl ?_
  refine O.val (v := I ((((b).length : Nat) : Int))) rfl (Ru.blenSlice Try.underlying23 rfl) rfl ?_
  refine O.val (v := .bool (decide ((((a).length : Nat) : Int) ≠ (((b).length : Nat) : Int)))) rfl (Ru.neq rfl rfl) rfl ?_
  refine O.nil ?_
  refine C.cond (p := (((a).length : Nat) : Int) ≠ (((b).length : Nat) : Int)) rfl (fun c10 => ?_) (fun c10 => ?_)
  · refine C.seq ?_
    refine C.region ?_
    refine O.val (v := .bool (false)) rfl (Ru.assign rfl) rfl ?_
    refine O.nil ?_
    refine C.ret ?_
    refine P1 (v := .bool (false)) rfl ?_
    exact ⟨(by rw [ts_nl (by omega)]), (Mem.none hM)⟩
  · refine C.skip ?_
    refine C.seq ?_
    refine C.seq ?_
    refine C.region ?_
    refine O.val (v := I (0)) rfl (Ru.assign rfl) rfl ?_
    refine O.nil ?_
    refine C.block ?_
    refine C.loop (ι := Nat) (fun k => ([(0, .slice (A) ((a).length) (c)), (1, .slice (B) ((b).length) (d)), (5, I (((k : Nat) : Int)))] : List (Nat × Value))) (fun k w_ => (k ≤ a.length) ∧ ((tsL a).take k = (tsL b).take k) ∧ (Mem w w_ [] [])) (fun k => a.length - k) (0) (Has.cons rfl (Has.cons rfl (Has.cons (I_congr (by first | rfl | omega | (simp; omega) | simp)) Has.nil))) ⟨(Nat.zero_le _), (by (try dsimp only); simp), (hM.pick [] (by decide) rfl)⟩ (fun k σ w_l4 hI => ?_)
    try dsimp only at hI
    obtain ⟨hi0_l4, hi1_l4, hM_l4⟩ := hI
    refine C.seq ?_
    refine C.seq ?_
    refine C.region ?_
    refine O.val (v := I (((k : Nat) : Int))) rfl (Ru.move rfl) rfl ?_
    refine O.val (v := .slice (A) ((a).length) (c)) rfl (Ru.move rfl) rfl ?_
    refine O.val (v := I ((((a).length : Nat) : Int))) rfl (Ru.blenSlice Try.underlying23 rfl) rfl ?_
    refine O.val (v := .bool (decide (((k : Nat) : Int) < (((a).length : Nat) : Int)))) rfl (Ru.lss rfl rfl) rfl ?_
    refine O.nil ?_
    refine C.cond (p := ((k : Nat) : Int) < (((a).length : Nat) : Int)) rfl (fun c14 => ?_) (fun c14 => ?_)
    · refine C.skip ?_
      refine C.seq ?_
      refine C.block ?_
      refine C.seq ?_
      refine C.draws (fun w2 => Mem w w2 [] []) mixed (by kernel_rfl) (hM_l4.ext (kdrawn _)) ?_
      refine QO.val (v := .slice (A) ((a).length) (c)) rfl (fun w2 hw2 => Ru.move rfl) rfl ?_
      refine QO.val (v := I (((k : Nat) : Int))) rfl (fun w2 hw2 => Ru.move rfl) rfl ?_
      have hx6_2 : k < (a).length := (by first | omega | (simp; omega))
      refine QO.val (v := .pointer (ofs (A) (k * 3))) rfl (fun w2 hw2 => Ru.indexA (j := k) Try.underlying23 el28 rfl rfl (smf encL_len (hA.at hw2) hx6_2 rfl) (by omega) (by first | omega | (simp; omega))) rfl ?_
      refine QO.val (v := .pointer (ofs (A) (k * 3 + 0))) rfl (fun w2 hw2 => Ru.fieldA fl28_0 rfl (smf encL_len (hA.at hw2) hx6_2 rfl)) rfl ?_
      refine QO.val rfl (fun w2 hw2 => Ru.load1 el26 rfl (ldf encL_len (hA.at hw2) hx6_2 rfl)) rfl ?_
      refine QO.val (v := .slice (B) ((b).length) (d)) rfl (fun w2 hw2 => Ru.move rfl) rfl ?_
      refine QO.val (v := I (((k : Nat) : Int))) rfl (fun w2 hw2 => Ru.move rfl) rfl ?_
      have hx6_7 : k < (b).length := (by first | omega | (simp; omega))
      refine QO.val (v := .pointer (ofs (B) (k * 3))) rfl (fun w2 hw2 => Ru.indexA (j := k) Try.underlying23 el28 rfl rfl (smf encL_len (hB.at hw2) hx6_7 rfl) (by omega) (by first | omega | (simp; omega))) rfl ?_
      refine QO.val (v := .pointer (ofs (B) (k * 3 + 0))) rfl (fun w2 hw2 => Ru.fieldA fl28_0 rfl (smf encL_len (hB.at hw2) hx6_7 rfl)) rfl ?_
      refine QO.val rfl (fun w2 hw2 => Ru.load1 el26 rfl (ldf encL_len (hB.at hw2) hx6_7 rfl)) rfl ?_
      refine QO.callg (v := .bool (decide ((((a)[k]'hx6_2).t.keys) = (((b)[k]'hx6_7).t.keys)))) [.slice (((a)[k]'hx6_2).A) (((a)[k]'hx6_2).t.keys.length) (((a)[k]'hx6_2).cp), .slice (((b)[k]'hx6_7).A) (((b)[k]'hx6_7).t.keys.length) (((b)[k]'hx6_7).cp)] rfl en25 rfl rfl (fun w2 hw2 => (equalInts_fn (((a)[k]'hx6_2).A) (((a)[k]'hx6_2).cp) (((a)[k]'hx6_2).t.keys) (((b)[k]'hx6_7).A) (((b)[k]'hx6_7).cp) (((b)[k]'hx6_7).t.keys) w2 ((hNA.at hw2).get hx6_2) ((hNB.at hw2).get hx6_7) (by exact hka _ (List.getElem_mem hx6_2))).mono fun _ _ h => ⟨h.1, Mem.call0 hw2 h.2⟩) ?_
      refine QO.val (v := .bool (!(decide ((((a)[k]'hx6_2).t.keys) = (((b)[k]'hx6_7).t.keys))))) rfl (fun w2 hw2 => Ru.not rfl) rfl ?_
      refine QO.val (v := .bool (!(decide ((((a)[k]'hx6_2).t.keys) = (((b)[k]'hx6_7).t.keys))))) rfl (fun w2 hw2 => Ru.move rfl) rfl ?_
      refine QO.part 29 (!(decide ((((a)[k]'hx6_2).t.keys) = (((b)[k]'hx6_7).t.keys)))) rfl (fun g29 => ?_) (fun g29 => ?_)
      · refine QO.pass rfl rfl rfl rfl rfl ?_
        refine QO.pass rfl rfl rfl rfl rfl ?_
        refine QO.pass rfl rfl rfl rfl rfl ?_
        refine QO.pass rfl rfl rfl rfl rfl ?_
        refine QO.pass rfl rfl rfl rfl rfl ?_
        refine QO.pass rfl rfl rfl rfl rfl ?_
        refine QO.pass rfl rfl rfl rfl rfl ?_
        refine QO.pass rfl rfl rfl rfl rfl ?_
        refine QO.pass rfl rfl rfl rfl rfl ?_
        refine QO.pass rfl rfl rfl rfl rfl ?_
        refine QO.pass rfl rfl rfl rfl rfl ?_
        refine QO.val (v := .bool (true)) rfl (fun w2 hw2 => Ru.pickT rfl rfl) rfl ?_
        refine QO.val (v := .bool (true)) rfl (fun w2 hw2 => Ru.move rfl) rfl ?_
        refine QO.pass rfl rfl rfl rfl rfl ?_
        refine QO.pass rfl rfl rfl rfl rfl ?_
        refine QO.pass rfl rfl rfl rfl rfl ?_
        refine QO.pass rfl rfl rfl rfl rfl ?_
        refine QO.pass rfl rfl rfl rfl rfl ?_
        refine QO.pass rfl rfl rfl rfl rfl ?_
        refine QO.pass rfl rfl rfl rfl rfl ?_
        refine QO.pass rfl rfl rfl rfl rfl ?_
        refine QO.pass rfl rfl rfl rfl rfl ?_
        refine QO.pass rfl rfl rfl rfl rfl ?_
        refine QO.pass rfl rfl rfl rfl rfl ?_
        refine QO.val (v := .bool (true)) rfl (fun w2 hw2 => Ru.pickT rfl rfl) rfl ?_
        refine QO.nil ?_
        intro w6d hM6d
        refine C.condT rfl ?_
        refine C.seq ?_
        refine C.region ?_
        refine O.val (v := .bool (false)) rfl (Ru.assign rfl) rfl ?_
        refine O.nil ?_
        refine C.ret ?_
        refine P1 (v := .bool (false)) rfl ?_
        exact ⟨(by rw [ts_ne3 hx6_2 hx6_7 (by simp_all)]), (Mem.none hM6d)⟩
      · refine QO.val (v := .slice (A) ((a).length) (c)) rfl (fun w2 hw2 => Ru.move rfl) rfl ?_
        refine QO.val (v := I (((k : Nat) : Int))) rfl (fun w2 hw2 => Ru.move rfl) rfl ?_
        have hx6_15 : k < (a).length := (by first | omega | (simp; omega))
        refine QO.val (v := .pointer (ofs (A) (k * 3))) rfl (fun w2 hw2 => Ru.indexA (j := k) Try.underlying23 el28 rfl rfl (smf encL_len (hA.at hw2) hx6_15 rfl) (by omega) (by first | omega | (simp; omega))) rfl ?_
        refine QO.val (v := .pointer (ofs (A) (k * 3 + 1))) rfl (fun w2 hw2 => Ru.fieldA fl28_1 rfl (smf encL_len (hA.at hw2) hx6_15 rfl)) rfl ?_
        refine QO.val rfl (fun w2 hw2 => Ru.load1 el3 rfl (ldf encL_len (hA.at hw2) hx6_15 rfl)) rfl ?_
        refine QO.val (v := .slice (B) ((b).length) (d)) rfl (fun w2 hw2 => Ru.move rfl) rfl ?_
        refine QO.val (v := I (((k : Nat) : Int))) rfl (fun w2 hw2 => Ru.move rfl) rfl ?_
        have hx6_20 : k < (b).length := (by first | omega | (simp; omega))
        refine QO.val (v := .pointer (ofs (B) (k * 3))) rfl (fun w2 hw2 => Ru.indexA (j := k) Try.underlying23 el28 rfl rfl (smf encL_len (hB.at hw2) hx6_20 rfl) (by omega) (by first | omega | (simp; omega))) rfl ?_
        refine QO.val (v := .pointer (ofs (B) (k * 3 + 1))) rfl (fun w2 hw2 => Ru.fieldA fl28_1 rfl (smf encL_len (hB.at hw2) hx6_20 rfl)) rfl ?_
        refine QO.val rfl (fun w2 hw2 => Ru.load1 el3 rfl (ldf encL_len (hB.at hw2) hx6_20 rfl)) rfl ?_
        refine QO.val (v := .bool (decide (((a)[k]'hx6_15).t.high ≠ ((b)[k]'hx6_20).t.high))) rfl (fun w2 hw2 => Ru.neq rfl rfl) rfl ?_
        refine QO.val (v := .bool (decide (((a)[k]'hx6_15).t.high ≠ ((b)[k]'hx6_20).t.high))) rfl (fun w2 hw2 => Ru.pickF rfl rfl) rfl ?_
        refine QO.val (v := .bool (decide (((a)[k]'hx6_15).t.high ≠ ((b)[k]'hx6_20).t.high))) rfl (fun w2 hw2 => Ru.move rfl) rfl ?_
        refine QO.partp 42 (((a)[k]'hx6_15).t.high ≠ ((b)[k]'hx6_20).t.high) rfl (fun g42 => ?_) (fun g42 => ?_)
        · refine QO.pass rfl rfl rfl rfl rfl ?_
          refine QO.pass rfl rfl rfl rfl rfl ?_
          refine QO.pass rfl rfl rfl rfl rfl ?_
          refine QO.pass rfl rfl rfl rfl rfl ?_
          refine QO.pass rfl rfl rfl rfl rfl ?_
          refine QO.pass rfl rfl rfl rfl rfl ?_
          refine QO.pass rfl rfl rfl rfl rfl ?_
          refine QO.pass rfl rfl rfl rfl rfl ?_
          refine QO.pass rfl rfl rfl rfl rfl ?_
          refine QO.pass rfl rfl rfl rfl rfl ?_
          refine QO.pass rfl rfl rfl rfl rfl ?_
          refine QO.val (v := .bool (true)) rfl (fun w2 hw2 => Ru.pickT rfl rfl) rfl ?_
          refine QO.nil ?_
          intro w6d hM6d
          refine C.condT rfl ?_
          refine C.seq ?_
          refine C.region ?_
          refine O.val (v := .bool (false)) rfl (Ru.assign rfl) rfl ?_
          refine O.nil ?_
          refine C.ret ?_
          refine P1 (v := .bool (false)) rfl ?_
          exact ⟨(by rw [ts_ne3 hx6_2 hx6_7 (by simp_all)]), (Mem.none hM6d)⟩
        · refine QO.val (v := .slice (A) ((a).length) (c)) rfl (fun w2 hw2 => Ru.move rfl) rfl ?_
          refine QO.val (v := I (((k : Nat) : Int))) rfl (fun w2 hw2 => Ru.move rfl) rfl ?_
          have hx6_28 : k < (a).length := (by first | omega | (simp; omega))
          refine QO.val (v := .pointer (ofs (A) (k * 3))) rfl (fun w2 hw2 => Ru.indexA (j := k) Try.underlying23 el28 rfl rfl (smf encL_len (hA.at hw2) hx6_28 rfl) (by omega) (by first | omega | (simp; omega))) rfl ?_
          refine QO.val (v := .pointer (ofs (A) (k * 3 + 2))) rfl (fun w2 hw2 => Ru.fieldA fl28_2 rfl (smf encL_len (hA.at hw2) hx6_28 rfl)) rfl ?_
          refine QO.val rfl (fun w2 hw2 => Ru.load1 el3 rfl (ldf encL_len (hA.at hw2) hx6_28 rfl)) rfl ?_
          refine QO.val (v := .slice (B) ((b).length) (d)) rfl (fun w2 hw2 => Ru.move rfl) rfl ?_
          refine QO.val (v := I (((k : Nat) : Int))) rfl (fun w2 hw2 => Ru.move rfl) rfl ?_
          have hx6_33 : k < (b).length := (by first | omega | (simp; omega))
          refine QO.val (v := .pointer (ofs (B) (k * 3))) rfl (fun w2 hw2 => Ru.indexA (j := k) Try.underlying23 el28 rfl rfl (smf encL_len (hB.at hw2) hx6_33 rfl) (by omega) (by first | omega | (simp; omega))) rfl ?_
          refine QO.val (v := .pointer (ofs (B) (k * 3 + 2))) rfl (fun w2 hw2 => Ru.fieldA fl28_2 rfl (smf encL_len (hB.at hw2) hx6_33 rfl)) rfl ?_
          refine QO.val rfl (fun w2 hw2 => Ru.load1 el3 rfl (ldf encL_len (hB.at hw2) hx6_33 rfl)) rfl ?_
          refine QO.val (v := .bool (decide (((a)[k]'hx6_28).t.right ≠ ((b)[k]'hx6_33).t.right))) rfl (fun w2 hw2 => Ru.neq rfl rfl) rfl ?_
          refine QO.val (v := .bool (decide (((a)[k]'hx6_28).t.right ≠ ((b)[k]'hx6_33).t.right))) rfl (fun w2 hw2 => Ru.pickF rfl rfl) rfl ?_
          refine QO.nil ?_
          intro w6d hM6d
          refine C.cond (p := ((a)[k]'hx6_28).t.right ≠ ((b)[k]'hx6_33).t.right) rfl (fun c54 => ?_) (fun c54 => ?_)
          · refine C.seq ?_
            refine C.region ?_
            refine O.val (v := .bool (false)) rfl (Ru.assign rfl) rfl ?_
            refine O.nil ?_
            refine C.ret ?_
            refine P1 (v := .bool (false)) rfl ?_
            exact ⟨(by rw [ts_ne3 hx6_2 hx6_7 (by simp_all)]), (Mem.none hM6d)⟩
          · refine C.skip ?_
            refine C.region ?_
            refine O.val (v := I (((k : Nat) : Int))) rfl (Ru.move rfl) rfl ?_
            refine O.val (v := I ((((k + 1) : Nat) : Int))) rfl (Ru.congr (v := I ((((k : Nat) : Int) + 1))) (v' := I ((((k + 1) : Nat) : Int))) (Ru.add rfl rfl (by omega)) (I_congr (by first | omega | simp))) rfl ?_
            refine O.val (v := I ((((k + 1) : Nat) : Int))) rfl (Ru.assign rfl) rfl ?_
            refine O.nil ?_
            exact loopEnd (k + 1) (by (try dsimp only); omega) (Has.cons rfl (Has.cons rfl (Has.cons (I_congr (by first | rfl | omega | (simp; omega) | simp)) Has.nil))) ⟨(by (try dsimp only); omega), (ts_step hx6_2 hx6_7 hi1_l4 (lk_eq (by simp_all) (by simp_all) (by simp_all))), (hM6d.pick [] (by decide) rfl)⟩
    · refine C.exit ?_
      refine C.seq ?_
      refine C.region ?_
      refine O.val (v := .bool (true)) rfl (Ru.assign rfl) rfl ?_
      refine O.nil ?_
      refine C.ret ?_
      refine P1 (v := .bool (true)) rfl ?_
      exact ⟨(by rw [ts_all (by omega) (by omega) hi1_l4]), (Mem.none hM_l4)⟩

theorem DrawFindLink_fn (A : Option Addr) (c : Nat) (l : List UInt8) (w : World) (hA : Rd w A ((l).map byteV)) (hl : l.length ≤ 1048576) (hc : l.length ≤ c) :
    Does Try.prog 20 [.slice (A) ((l).length) (c)] w (fun v w1 => ∃ (l1 : List LnkL) (A1 : Option Addr) (c1 : Nat) (G : List FE) (at1 : Int) (k1 : Int), v = .tuple #[.slice (A1) ((l1).length) (c1), I (at1), I (k1)] ∧ (1 ≤ l1.length ∧ l1.length ≤ 17) ∧ (∀ x ∈ l1, x.t.keys.length ≤ 1000) ∧ (∀ w2, (∀ f ∈ G, f.own w2) → Nst w2 l1) ∧ (∀ x ∈ l1, x.t.keys.length ≤ x.cp) ∧ Mem w w1 [] [[⟨.slice (A1) ((l1).length) (c1), 28, 3, ((l1).length), (l1).flatMap encL⟩], G]) := by
  have hM : Mem w w [] [] := Mem.refl
  refine Does.enterG (rs := [.tmp 2, .tmp 3, .tmp 4]) Try.func20 rfl Try.results20 Try.ntmps20 rfl ?_
  refine C.seq ?_
  refine C.region ?_
  refine O.val (v := .slice (none) (0) (0)) rfl (Ru.assign rfl) rfl ?_
  refine O.val (v := I (0)) rfl (Ru.assign rfl) rfl ?_
  refine O.val (v := I (0)) rfl (Ru.assign rfl) rfl ?_
  refine O.nil ?_
  refine C.seq ?_
  refine C.region ?_
  refine O.val (v := .slice (A) ((l).length) (c)) rfl (Ru.move rfl) rfl ?_
  refine O.callg [.slice (A) ((l).length) (c)] rfl en43 rfl rfl (newReader_fn A c l w (hA.at hM) (by first | omega | assumption | (simp; omega) | simp | (intros; omega)) (by first | omega | assumption | (simp; omega) | simp | (intros; omega))) ?_
  rintro _ w1_1 ⟨gr1_1, l11_1, rfl, hl11_1, hlen1_1, hR1_1⟩
  have hM1_1 : Mem w w1_1 [] [[⟨.slice (bl gr1_1) 1 1, 67, 2, 1, [.slice (A) ((l11_1).length) (c), I (((0 : Nat) : Int))]⟩]] := Mem.call (Ma := []) hM hR1_1 rfl
  have hrA : Rd w A (List.map byteV l11_1) := by rcases hl11_1 with h | h <;> rw [h]; exact hA; exact rd_take1 hA
  have hrl := hlen1_1
  refine O.val (v := .pointer (ofs (bl gr1_1) (0))) rfl (Ru.assign rfl) rfl ?_
  refine O.nil ?_
  refine C.seq ?_
  refine C.region ?_
  refine O.val (v := .pointer (ofs (bl gr1_1) (0))) rfl (Ru.move rfl) rfl ?_
  refine O.callg [.pointer (ofs (bl gr1_1) (0))] rfl en42 rfl rfl (anyChain_fn gr1_1 A c l11_1 0 w1_1 (hrA.at hM1_1) (Mem.ng_old hM1_1 hrA 0 rfl) hrl (Mem.focus (Ma := [[⟨.slice (bl gr1_1) 1 1, 67, 2, 1, [.slice (A) ((l11_1).length) (c), I (((0 : Nat) : Int))]⟩]]) (rest := []) hM1_1 rfl) (by first | omega | assumption | (simp; omega) | simp | (intros; omega))) ?_
  rintro _ w2_1 ⟨l12_1, A12_1, c12_1, q12_1, G2_1, rfl, hl2_1, hk2_1, hq2_1, hG2_1, hcp2_1, hR2_1⟩
  have hM2_1 : Mem w w2_1 [] [[⟨.slice (bl gr1_1) 1 1, 67, 2, 1, [.slice (A) ((l11_1).length) (c), I (((q12_1 : Nat) : Int))]⟩], [⟨.slice (A12_1) ((l12_1).length) (c12_1), 28, 3, ((l12_1).length), (l12_1).flatMap encL⟩], G2_1] := Mem.call (Ma := [[⟨.slice (bl gr1_1) 1 1, 67, 2, 1, [.slice (A) ((l11_1).length) (c), I (((0 : Nat) : Int))]⟩]]) hM1_1 hR2_1 rfl
  have hcr2_1_1 := (hM2_1.cap 1 rfl).1
  refine O.val (v := .slice (A12_1) ((l12_1).length) (c12_1)) rfl (Ru.assign rfl) rfl ?_
  refine O.nil ?_
  refine C.seq ?_
  refine C.region ?_
  refine O.val (v := .pointer (ofs (bl gr1_1) (0))) rfl (Ru.move rfl) rfl ?_
  refine O.val (v := .pointer (ofs (bl gr1_1) (0))) rfl (Ru.move rfl) rfl ?_
  refine O.val (v := .slice (A12_1) ((l12_1).length) (c12_1)) rfl (Ru.move rfl) rfl ?_
  refine O.val (v := I ((((l12_1).length : Nat) : Int))) rfl (Ru.blenSlice Try.underlying23 rfl) rfl ?_
  refine O.callg [.pointer (ofs (bl gr1_1) (0)), I ((((l12_1).length : Nat) : Int))] rfl en46 rfl rfl (pick_fn gr1_1 A c l11_1 q12_1 (((l12_1).length : Nat) : Int) w2_1 (hrA.at hM2_1) (Mem.ng_old hM2_1 hrA 0 rfl) hrl (Mem.focus (Ma := [[⟨.slice (bl gr1_1) 1 1, 67, 2, 1, [.slice (A) ((l11_1).length) (c), I (((q12_1 : Nat) : Int))]⟩]]) (rest := [[⟨.slice (A12_1) ((l12_1).length) (c12_1), 28, 3, ((l12_1).length), (l12_1).flatMap encL⟩], G2_1]) hM2_1 rfl) (by first | omega | assumption | (simp; omega) | simp | (intros; omega))) ?_
  rintro _ w3_4 ⟨k3_4, rfl, hk3_4, hR3_4⟩
  have hM3_4 : Mem w w3_4 [] [[⟨.slice (bl gr1_1) 1 1, 67, 2, 1, [.slice (A) ((l11_1).length) (c), I (((q12_1 + 1 : Nat) : Int))]⟩], [⟨.slice (A12_1) ((l12_1).length) (c12_1), 28, 3, ((l12_1).length), (l12_1).flatMap encL⟩], G2_1] := Mem.call (Ma := [[⟨.slice (bl gr1_1) 1 1, 67, 2, 1, [.slice (A) ((l11_1).length) (c), I (((q12_1 : Nat) : Int))]⟩]]) hM2_1 hR3_4 rfl
  refine O.val (v := .pointer (ofs (bl gr1_1) (0))) rfl (Ru.move rfl) rfl ?_
  refine O.val (v := .slice (A12_1) ((l12_1).length) (c12_1)) rfl (Ru.move rfl) rfl ?_
  refine O.val (v := I ((((l12_1).length : Nat) : Int))) rfl (Ru.blenSlice Try.underlying23 rfl) rfl ?_
  refine O.callg [.pointer (ofs (bl gr1_1) (0)), I ((((l12_1).length : Nat) : Int))] rfl en46 rfl rfl (pick_fn gr1_1 A c l11_1 (q12_1 + 1) (((l12_1).length : Nat) : Int) w3_4 (hrA.at hM3_4) (Mem.ng_old hM3_4 hrA 0 rfl) hrl (Mem.focus (Ma := [[⟨.slice (bl gr1_1) 1 1, 67, 2, 1, [.slice (A) ((l11_1).length) (c), I (((q12_1 + 1 : Nat) : Int))]⟩]]) (rest := [[⟨.slice (A12_1) ((l12_1).length) (c12_1), 28, 3, ((l12_1).length), (l12_1).flatMap encL⟩], G2_1]) hM3_4 rfl) (by first | omega | assumption | (simp; omega) | simp | (intros; omega))) ?_
  rintro _ w3_8 ⟨k3_8, rfl, hk3_8, hR3_8⟩
  have hM3_8 : Mem w w3_8 [] [[⟨.slice (bl gr1_1) 1 1, 67, 2, 1, [.slice (A) ((l11_1).length) (c), I ((((q12_1 + 1) + 1 : Nat) : Int))]⟩], [⟨.slice (A12_1) ((l12_1).length) (c12_1), 28, 3, ((l12_1).length), (l12_1).flatMap encL⟩], G2_1] := Mem.call (Ma := [[⟨.slice (bl gr1_1) 1 1, 67, 2, 1, [.slice (A) ((l11_1).length) (c), I (((q12_1 + 1 : Nat) : Int))]⟩]]) hM3_4 hR3_8 rfl
  refine O.val (v := .slice (A12_1) ((l12_1).length) (c12_1)) rfl (Ru.move rfl) rfl ?_
  refine O.val (v := I ((((l12_1).length : Nat) : Int))) rfl (Ru.blenSlice Try.underlying23 rfl) rfl ?_
  refine O.mlit (sz := 1) (cs := [I (0), I (k3_4), I (k3_8), I ((-1)), I ((((l12_1).length : Nat) : Int))]) hM3_8 rfl Try.underlying26 el3 rfl rfl rfl (by kernel_rfl) (by kernel_rfl) rfl rfl (fun w3_11 b3_11 hb3_11 (hM3_11 : Mem w w3_11 [] [[⟨.slice (bl b3_11) (5) (5), 3, 1, 5, ([0, k3_4, k3_8, (-1), (((l12_1).length : Nat) : Int)]).map I⟩], [⟨.slice (bl gr1_1) 1 1, 67, 2, 1, [.slice (A) ((l11_1).length) (c), I ((((q12_1 + 1) + 1 : Nat) : Int))]⟩], [⟨.slice (A12_1) ((l12_1).length) (c12_1), 28, 3, ((l12_1).length), (l12_1).flatMap encL⟩], G2_1]) => ?_)
  have hMf3_12 : Mem w w3_11 [] [[⟨.slice (bl gr1_1) 1 1, 67, 2, 1, [.slice (A) ((l11_1).length) (c), I ((((q12_1 + 1) + 1 : Nat) : Int))]⟩], [⟨.slice (bl b3_11) (5) (5), 3, 1, 5, ([0, k3_4, k3_8, (-1), (((l12_1).length : Nat) : Int)]).map I⟩], [⟨.slice (A12_1) ((l12_1).length) (c12_1), 28, 3, ((l12_1).length), (l12_1).flatMap encL⟩], G2_1] := hM3_11.pick [1, 0, 2, 3] (by decide) rfl
  refine O.callg [.pointer (ofs (bl gr1_1) (0)), .slice (bl b3_11) (([0, k3_4, k3_8, (-1), (((l12_1).length : Nat) : Int)]).length) (5)] rfl en45 (by first | rfl | (rw [show ([0, k3_4, k3_8, (-1), (((l12_1).length : Nat) : Int)]).length = 5 from (by first | rfl | (simp; done) | omega | (simp; omega))]; rfl)) rfl (one_fn gr1_1 A c l11_1 ((q12_1 + 1) + 1) (bl b3_11) 5 [0, k3_4, k3_8, (-1), (((l12_1).length : Nat) : Int)] w3_11 (hrA.at hMf3_12) (Mem.ng_old hMf3_12 hrA 0 rfl) hrl (hMf3_12.rd 1 rfl) (Off.of_ng (hMf3_12.ng 1 0 (by decide) rfl rfl)) (Mem.focus (Ma := [[⟨.slice (bl gr1_1) 1 1, 67, 2, 1, [.slice (A) ((l11_1).length) (c), I ((((q12_1 + 1) + 1 : Nat) : Int))]⟩]]) (rest := [[⟨.slice (bl b3_11) (5) (5), 3, 1, 5, ([0, k3_4, k3_8, (-1), (((l12_1).length : Nat) : Int)]).map I⟩], [⟨.slice (A12_1) ((l12_1).length) (c12_1), 28, 3, ((l12_1).length), (l12_1).flatMap encL⟩], G2_1]) hMf3_12 rfl) (by first | omega | assumption | (simp; omega) | simp | (intros; omega)) (by simp) (by simp)) ?_
  rintro _ w3_12 ⟨k3_12, rfl, hk3_12, hR3_12⟩
  have hM3_12 : Mem w w3_12 [] [[⟨.slice (bl gr1_1) 1 1, 67, 2, 1, [.slice (A) ((l11_1).length) (c), I (((((q12_1 + 1) + 1) + 1 : Nat) : Int))]⟩], [⟨.slice (bl b3_11) (5) (5), 3, 1, 5, ([0, k3_4, k3_8, (-1), (((l12_1).length : Nat) : Int)]).map I⟩], [⟨.slice (A12_1) ((l12_1).length) (c12_1), 28, 3, ((l12_1).length), (l12_1).flatMap encL⟩], G2_1] := Mem.call (Ma := [[⟨.slice (bl gr1_1) 1 1, 67, 2, 1, [.slice (A) ((l11_1).length) (c), I ((((q12_1 + 1) + 1 : Nat) : Int))]⟩]]) hMf3_12 hR3_12 rfl
  refine O.val (v := I (k3_12)) rfl (Ru.assign rfl) rfl ?_
  refine O.nil ?_
  refine C.seq ?_
  refine C.region ?_
  refine O.val (v := .slice (A12_1) ((l12_1).length) (c12_1)) rfl (Ru.move rfl) rfl ?_
  refine O.val (v := I (k3_12)) rfl (Ru.move rfl) rfl ?_
  refine O.val (v := .pointer (ofs (bl gr1_1) (0))) rfl (Ru.move rfl) rfl ?_
  refine O.val (v := .pointer (ofs (bl gr1_1) (0))) rfl (Ru.move rfl) rfl ?_
  refine O.callg [.pointer (ofs (bl gr1_1) (0)), I (100)] rfl en46 rfl rfl (pick_fn gr1_1 A c l11_1 (((q12_1 + 1) + 1) + 1) 100 w3_12 (hrA.at hM3_12) (Mem.ng_old hM3_12 hrA 0 rfl) hrl (Mem.focus (Ma := [[⟨.slice (bl gr1_1) 1 1, 67, 2, 1, [.slice (A) ((l11_1).length) (c), I (((((q12_1 + 1) + 1) + 1 : Nat) : Int))]⟩]]) (rest := [[⟨.slice (bl b3_11) (5) (5), 3, 1, 5, ([0, k3_4, k3_8, (-1), (((l12_1).length : Nat) : Int)]).map I⟩], [⟨.slice (A12_1) ((l12_1).length) (c12_1), 28, 3, ((l12_1).length), (l12_1).flatMap encL⟩], G2_1]) hM3_12 rfl) (by first | omega | assumption | (simp; omega) | simp | (intros; omega))) ?_
  rintro _ w4_4 ⟨k4_4, rfl, hk4_4, hR4_4⟩
  have hM4_4 : Mem w w4_4 [] [[⟨.slice (bl gr1_1) 1 1, 67, 2, 1, [.slice (A) ((l11_1).length) (c), I ((((((q12_1 + 1) + 1) + 1) + 1 : Nat) : Int))]⟩], [⟨.slice (bl b3_11) (5) (5), 3, 1, 5, ([0, k3_4, k3_8, (-1), (((l12_1).length : Nat) : Int)]).map I⟩], [⟨.slice (A12_1) ((l12_1).length) (c12_1), 28, 3, ((l12_1).length), (l12_1).flatMap encL⟩], G2_1] := Mem.call (Ma := [[⟨.slice (bl gr1_1) 1 1, 67, 2, 1, [.slice (A) ((l11_1).length) (c), I (((((q12_1 + 1) + 1) + 1 : Nat) : Int))]⟩]]) hM3_12 hR4_4 rfl
  refine O.val (v := .pointer (ofs (bl gr1_1) (0))) rfl (Ru.move rfl) rfl ?_
  refine O.callg [.pointer (ofs (bl gr1_1) (0)), I (100)] rfl en46 rfl rfl (pick_fn gr1_1 A c l11_1 ((((q12_1 + 1) + 1) + 1) + 1) 100 w4_4 (hrA.at hM4_4) (Mem.ng_old hM4_4 hrA 0 rfl) hrl (Mem.focus (Ma := [[⟨.slice (bl gr1_1) 1 1, 67, 2, 1, [.slice (A) ((l11_1).length) (c), I ((((((q12_1 + 1) + 1) + 1) + 1 : Nat) : Int))]⟩]]) (rest := [[⟨.slice (bl b3_11) (5) (5), 3, 1, 5, ([0, k3_4, k3_8, (-1), (((l12_1).length : Nat) : Int)]).map I⟩], [⟨.slice (A12_1) ((l12_1).length) (c12_1), 28, 3, ((l12_1).length), (l12_1).flatMap encL⟩], G2_1]) hM4_4 rfl) (by first | omega | assumption | (simp; omega) | simp | (intros; omega))) ?_
  rintro _ w4_6 ⟨k4_6, rfl, hk4_6, hR4_6⟩
  have hM4_6 : Mem w w4_6 [] [[⟨.slice (bl gr1_1) 1 1, 67, 2, 1, [.slice (A) ((l11_1).length) (c), I (((((((q12_1 + 1) + 1) + 1) + 1) + 1 : Nat) : Int))]⟩], [⟨.slice (bl b3_11) (5) (5), 3, 1, 5, ([0, k3_4, k3_8, (-1), (((l12_1).length : Nat) : Int)]).map I⟩], [⟨.slice (A12_1) ((l12_1).length) (c12_1), 28, 3, ((l12_1).length), (l12_1).flatMap encL⟩], G2_1] := Mem.call (Ma := [[⟨.slice (bl gr1_1) 1 1, 67, 2, 1, [.slice (A) ((l11_1).length) (c), I ((((((q12_1 + 1) + 1) + 1) + 1 : Nat) : Int))]⟩]]) hM4_4 hR4_6 rfl
  refine O.mlit (sz := 1) (cs := [I (k4_4), I (k4_6), I (0), I (99), I (100), I ((-1))]) hM4_6 rfl Try.underlying26 el3 rfl rfl rfl (by kernel_rfl) (by kernel_rfl) rfl rfl (fun w4_7 b4_7 hb4_7 (hM4_7 : Mem w w4_7 [] [[⟨.slice (bl b4_7) (6) (6), 3, 1, 6, ([k4_4, k4_6, 0, 99, 100, (-1)]).map I⟩], [⟨.slice (bl gr1_1) 1 1, 67, 2, 1, [.slice (A) ((l11_1).length) (c), I (((((((q12_1 + 1) + 1) + 1) + 1) + 1 : Nat) : Int))]⟩], [⟨.slice (bl b3_11) (5) (5), 3, 1, 5, ([0, k3_4, k3_8, (-1), (((l12_1).length : Nat) : Int)]).map I⟩], [⟨.slice (A12_1) ((l12_1).length) (c12_1), 28, 3, ((l12_1).length), (l12_1).flatMap encL⟩], G2_1]) => ?_)
  have hMf4_8 : Mem w w4_7 [] [[⟨.slice (bl gr1_1) 1 1, 67, 2, 1, [.slice (A) ((l11_1).length) (c), I (((((((q12_1 + 1) + 1) + 1) + 1) + 1 : Nat) : Int))]⟩], [⟨.slice (bl b4_7) (6) (6), 3, 1, 6, ([k4_4, k4_6, 0, 99, 100, (-1)]).map I⟩], [⟨.slice (bl b3_11) (5) (5), 3, 1, 5, ([0, k3_4, k3_8, (-1), (((l12_1).length : Nat) : Int)]).map I⟩], [⟨.slice (A12_1) ((l12_1).length) (c12_1), 28, 3, ((l12_1).length), (l12_1).flatMap encL⟩], G2_1] := hM4_7.pick [1, 0, 2, 3, 4] (by decide) rfl
  refine O.callg [.pointer (ofs (bl gr1_1) (0)), .slice (bl b4_7) (([k4_4, k4_6, 0, 99, 100, (-1)]).length) (6)] rfl en45 (by first | rfl | (rw [show ([k4_4, k4_6, 0, 99, 100, (-1)]).length = 6 from (by first | rfl | (simp; done) | omega | (simp; omega))]; rfl)) rfl (one_fn gr1_1 A c l11_1 (((((q12_1 + 1) + 1) + 1) + 1) + 1) (bl b4_7) 6 [k4_4, k4_6, 0, 99, 100, (-1)] w4_7 (hrA.at hMf4_8) (Mem.ng_old hMf4_8 hrA 0 rfl) hrl (hMf4_8.rd 1 rfl) (Off.of_ng (hMf4_8.ng 1 0 (by decide) rfl rfl)) (Mem.focus (Ma := [[⟨.slice (bl gr1_1) 1 1, 67, 2, 1, [.slice (A) ((l11_1).length) (c), I (((((((q12_1 + 1) + 1) + 1) + 1) + 1 : Nat) : Int))]⟩]]) (rest := [[⟨.slice (bl b4_7) (6) (6), 3, 1, 6, ([k4_4, k4_6, 0, 99, 100, (-1)]).map I⟩], [⟨.slice (bl b3_11) (5) (5), 3, 1, 5, ([0, k3_4, k3_8, (-1), (((l12_1).length : Nat) : Int)]).map I⟩], [⟨.slice (A12_1) ((l12_1).length) (c12_1), 28, 3, ((l12_1).length), (l12_1).flatMap encL⟩], G2_1]) hMf4_8 rfl) (by first | omega | assumption | (simp; omega) | simp | (intros; omega)) (by simp) (by simp)) ?_
  rintro _ w4_8 ⟨k4_8, rfl, hk4_8, hR4_8⟩
  have hM4_8 : Mem w w4_8 [] [[⟨.slice (bl gr1_1) 1 1, 67, 2, 1, [.slice (A) ((l11_1).length) (c), I ((((((((q12_1 + 1) + 1) + 1) + 1) + 1) + 1 : Nat) : Int))]⟩], [⟨.slice (bl b4_7) (6) (6), 3, 1, 6, ([k4_4, k4_6, 0, 99, 100, (-1)]).map I⟩], [⟨.slice (bl b3_11) (5) (5), 3, 1, 5, ([0, k3_4, k3_8, (-1), (((l12_1).length : Nat) : Int)]).map I⟩], [⟨.slice (A12_1) ((l12_1).length) (c12_1), 28, 3, ((l12_1).length), (l12_1).flatMap encL⟩], G2_1] := Mem.call (Ma := [[⟨.slice (bl gr1_1) 1 1, 67, 2, 1, [.slice (A) ((l11_1).length) (c), I (((((((q12_1 + 1) + 1) + 1) + 1) + 1 : Nat) : Int))]⟩]]) hMf4_8 hR4_8 rfl
  refine O.val (v := .slice (A12_1) ((l12_1).length) (c12_1)) rfl (Ru.assign rfl) rfl ?_
  refine O.val (v := I (k3_12)) rfl (Ru.assign rfl) rfl ?_
  refine O.val (v := I (k4_8)) rfl (Ru.assign rfl) rfl ?_
  refine O.nil ?_
  refine C.ret ?_
  refine PG (vs := [.slice (A12_1) ((l12_1).length) (c12_1), I (k3_12), I (k4_8)]) (ResV.tmp rfl (ResV.tmp rfl (ResV.tmp rfl ResV.nil))) ?_
  exact ⟨l12_1, A12_1, c12_1, G2_1, k3_12, k4_8, (by first | rfl | exact sl_congr (by first | omega | (simp; done) | (simp; omega)) | (simp; done)), hl2_1, hk2_1, hG2_1, hcp2_1, (hM4_8.pick [3, 4] (by decide) rfl)⟩

theorem DrawSplitLink_fn (A : Option Addr) (c : Nat) (l : List UInt8) (w : World) (hA : Rd w A ((l).map byteV)) (hl : l.length ≤ 1048576) (hc : l.length ≤ c) :
    Does Try.prog 36 [.slice (A) ((l).length) (c)] w (fun v w1 => ∃ (l1 : List LnkL) (A1 : Option Addr) (c1 : Nat) (G : List FE) (at1 : Int), v = .tuple #[.slice (A1) ((l1).length) (c1), I (at1)] ∧ (1 ≤ l1.length ∧ l1.length ≤ 17) ∧ (∀ x ∈ l1, x.t.keys.length ≤ 1000) ∧ (∀ w2, (∀ f ∈ G, f.own w2) → Nst w2 l1) ∧ (∀ x ∈ l1, x.t.keys.length ≤ x.cp) ∧ Mem w w1 [] [[⟨.slice (A1) ((l1).length) (c1), 28, 3, ((l1).length), (l1).flatMap encL⟩], G]) := by
  have hM : Mem w w [] [] := Mem.refl
  refine Does.enter2 Try.func36 rfl Try.results36 Try.ntmps36 rfl ?_
  refine C.seq ?_
  refine C.region ?_
  refine O.val (v := .slice (none) (0) (0)) rfl (Ru.assign rfl) rfl ?_
  refine O.val (v := I (0)) rfl (Ru.assign rfl) rfl ?_
  refine O.nil ?_
  refine C.seq ?_
  refine C.region ?_
  refine O.val (v := .slice (A) ((l).length) (c)) rfl (Ru.move rfl) rfl ?_
  refine O.callg [.slice (A) ((l).length) (c)] rfl en20 rfl rfl (DrawFindLink_fn A c l w (hA.at hM) (by first | omega | assumption | (simp; omega) | simp | (intros; omega)) (by first | omega | assumption | (simp; omega) | simp | (intros; omega))) ?_
  rintro _ w1_1 ⟨l11_1, A11_1, c11_1, G1_1, at11_1, k11_1, rfl, hl1_1, hk1_1, hG1_1, hcp1_1, hR1_1⟩
  have hM1_1 : Mem w w1_1 [] [[⟨.slice (A11_1) ((l11_1).length) (c11_1), 28, 3, ((l11_1).length), (l11_1).flatMap encL⟩], G1_1] := Mem.call (Ma := []) hM hR1_1 rfl
  have hcr1_1_0 := (hM1_1.cap 0 rfl).1
  refine O.val (v := .tuple #[.slice (A11_1) ((l11_1).length) (c11_1), I (at11_1), I (k11_1)]) rfl (Ru.move rfl) rfl ?_
  refine O.val (v := .slice (A11_1) ((l11_1).length) (c11_1)) rfl (Ru.extract rfl rfl) rfl ?_
  refine O.val (v := I (at11_1)) rfl (Ru.extract rfl rfl) rfl ?_
  refine O.val (v := I (k11_1)) rfl (Ru.extract rfl rfl) rfl ?_
  refine O.val (v := .slice (A11_1) ((l11_1).length) (c11_1)) rfl (Ru.assign rfl) rfl ?_
  refine O.val (v := I (at11_1)) rfl (Ru.assign rfl) rfl ?_
  refine O.val (v := I (k11_1)) rfl (Ru.assign rfl) rfl ?_
  refine O.nil ?_
  refine C.seq ?_
  refine C.region ?_
  refine O.val (v := .slice (A11_1) ((l11_1).length) (c11_1)) rfl (Ru.move rfl) rfl ?_
  refine O.val (v := I (at11_1)) rfl (Ru.move rfl) rfl ?_
  refine O.val (v := .slice (A11_1) ((l11_1).length) (c11_1)) rfl (Ru.assign rfl) rfl ?_
  refine O.val (v := I (at11_1)) rfl (Ru.assign rfl) rfl ?_
  refine O.nil ?_
  refine C.ret ?_
  refine P2 (v := .slice (A11_1) ((l11_1).length) (c11_1)) (v' := I (at11_1)) rfl rfl ?_
  exact ⟨l11_1, A11_1, c11_1, G1_1, at11_1, (by first | rfl | exact sl_congr (by first | omega | (simp; done) | (simp; omega)) | (simp; done)), hl1_1, hk1_1, hG1_1, hcp1_1, (hM1_1.pick [0, 1] (by decide) rfl)⟩

theorem DrawPutLink_fn (A : Option Addr) (c : Nat) (l : List UInt8) (w : World) (hA : Rd w A ((l).map byteV)) (hl : l.length ≤ 1048576) (hc : l.length ≤ c) :
    Does Try.prog 38 [.slice (A) ((l).length) (c)] w (fun v w1 => ∃ (l1 : List LnkL) (A1 : Option Addr) (c1 : Nat) (G : List FE) (k1 : Int), v = .tuple #[.slice (A1) ((l1).length) (c1), I (k1)] ∧ (1 ≤ l1.length ∧ l1.length ≤ 17) ∧ (∀ x ∈ l1, x.t.keys.length ≤ 1000) ∧ (∀ w2, (∀ f ∈ G, f.own w2) → Nst w2 l1) ∧ (∀ x ∈ l1, x.t.keys.length ≤ x.cp) ∧ Mem w w1 [] [[⟨.slice (A1) ((l1).length) (c1), 28, 3, ((l1).length), (l1).flatMap encL⟩], G]) := by
  have hM : Mem w w [] [] := Mem.refl
  refine Does.enter2 Try.func38 rfl Try.results38 Try.ntmps38 rfl ?_
  refine C.seq ?_
  refine C.region ?_
  refine O.val (v := .slice (none) (0) (0)) rfl (Ru.assign rfl) rfl ?_
  refine O.val (v := I (0)) rfl (Ru.assign rfl) rfl ?_
  refine O.nil ?_
  refine C.seq ?_
  refine C.region ?_
  refine O.val (v := .slice (A) ((l).length) (c)) rfl (Ru.move rfl) rfl ?_
  refine O.callg [.slice (A) ((l).length) (c)] rfl en20 rfl rfl (DrawFindLink_fn A c l w (hA.at hM) (by first | omega | assumption | (simp; omega) | simp | (intros; omega)) (by first | omega | assumption | (simp; omega) | simp | (intros; omega))) ?_
  rintro _ w1_1 ⟨l11_1, A11_1, c11_1, G1_1, at11_1, k11_1, rfl, hl1_1, hk1_1, hG1_1, hcp1_1, hR1_1⟩
  have hM1_1 : Mem w w1_1 [] [[⟨.slice (A11_1) ((l11_1).length) (c11_1), 28, 3, ((l11_1).length), (l11_1).flatMap encL⟩], G1_1] := Mem.call (Ma := []) hM hR1_1 rfl
  have hcr1_1_0 := (hM1_1.cap 0 rfl).1
  refine O.val (v := .tuple #[.slice (A11_1) ((l11_1).length) (c11_1), I (at11_1), I (k11_1)]) rfl (Ru.move rfl) rfl ?_
  refine O.val (v := .slice (A11_1) ((l11_1).length) (c11_1)) rfl (Ru.extract rfl rfl) rfl ?_
  refine O.val (v := I (at11_1)) rfl (Ru.extract rfl rfl) rfl ?_
  refine O.val (v := I (k11_1)) rfl (Ru.extract rfl rfl) rfl ?_
  refine O.val (v := .slice (A11_1) ((l11_1).length) (c11_1)) rfl (Ru.assign rfl) rfl ?_
  refine O.val (v := I (at11_1)) rfl (Ru.assign rfl) rfl ?_
  refine O.val (v := I (k11_1)) rfl (Ru.assign rfl) rfl ?_
  refine O.nil ?_
  refine C.seq ?_
  refine C.region ?_
  refine O.val (v := .slice (A11_1) ((l11_1).length) (c11_1)) rfl (Ru.move rfl) rfl ?_
  refine O.val (v := I (k11_1)) rfl (Ru.move rfl) rfl ?_
  refine O.val (v := .slice (A11_1) ((l11_1).length) (c11_1)) rfl (Ru.assign rfl) rfl ?_
  refine O.val (v := I (k11_1)) rfl (Ru.assign rfl) rfl ?_
  refine O.nil ?_
  refine C.ret ?_
  refine P2 (v := .slice (A11_1) ((l11_1).length) (c11_1)) (v' := I (k11_1)) rfl rfl ?_
  exact ⟨l11_1, A11_1, c11_1, G1_1, k11_1, (by first | rfl | exact sl_congr (by first | omega | (simp; done) | (simp; omega)) | (simp; done)), hl1_1, hk1_1, hG1_1, hcp1_1, (hM1_1.pick [0, 1] (by decide) rfl)⟩
end Go.Proofs.Yteljpjapacajoaa
