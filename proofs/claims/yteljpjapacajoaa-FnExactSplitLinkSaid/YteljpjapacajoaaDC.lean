/- Own layer: part of this seat (DC). Plain theorems; no conditions. -/
import Derived.Test.YteljpjapacajoaaDB
set_option linter.unusedVariables false
set_option linter.unusedSimpArgs false
namespace Go.Proofs.Yteljpjapacajoaa
open Go.Px
set_option maxHeartbeats 2000000 in
theorem svalidChain_fn (A : Option Addr) (c : Nat) (l : List LnkL) (w : World) (hA : Rd w A ((l).flatMap encL)) (hNA : Nst w l) (hl : l.length ≤ 1048576) :
    Does Try.prog 44 [.slice (A) ((l).length) (c)] w (fun v w1 => v = .bool (validC (tsL l)) ∧ Mem w w1 [] []) := by
  have hM : Mem w w [] [] := Mem.refl
  refine Does.enter1 Try.func44 rfl Try.results44 Try.ntmps44 rfl ?_
  refine C.seq ?_
  refine C.region ?_
  refine O.val (v := .bool (false)) rfl (Ru.assign rfl) rfl ?_
  refine O.nil ?_
  refine C.seq ?_
  refine C.region ?_
  refine O.mlit (sz := 1) (cs := []) hM rfl Try.underlying26 el3 rfl rfl rfl (by kernel_rfl) (by kernel_rfl) rfl rfl (fun w1_0 b1_0 hb1_0 (hM1_0 : Mem w w1_0 [] [[⟨.slice (bl b1_0) (0) (0), 3, 1, 0, ([]).map I⟩]]) => ?_)
  refine O.val (v := .slice (bl b1_0) (0) (0)) rfl (Ru.assign rfl) rfl ?_
  refine O.nil ?_
  refine C.seq ?_
  refine C.region ?_
  refine O.val (v := I (0)) rfl (Ru.assign rfl) rfl ?_
  refine O.nil ?_
  refine C.seq ?_
  refine C.region ?_
  refine O.val (v := I (0)) rfl (Ru.assign rfl) rfl ?_
  refine O.nil ?_
  refine C.seq ?_
  refine C.seq ?_
  refine C.region ?_
  refine O.val (v := I (0)) rfl (Ru.assign rfl) rfl ?_
  refine O.nil ?_
  refine C.block ?_
  have hq1 : ([] : List Int) = ([] : List Int) := (by first | rfl | simp | (simp; omega))
  have hMn1 : Mem w w1_0 [] [[⟨.slice (bl b1_0) ((([] : List Int)).length) (0), 3, 1, ((([] : List Int)).length), (([] : List Int)).map I⟩]] := hM1_0.relen 0 (n' := (([] : List Int)).length) (xs' := (([] : List Int)).map I) rfl (by first | rfl | exact congrArg List.length hq1 | (have hqq := congrArg List.length hq1; first | omega | (simp at hqq ⊢; omega)) | (simp; done) | (simp; omega)) (congrArg (fun z_ => (z_).map I) hq1) rfl
  refine C.loop (ι := Nat × Int × Int × (List Int) × (Option Addr) × Nat) (fun x_ => ([(0, .slice (A) ((l).length) (c)), (3, .slice (x_.2.2.2.2.1) ((x_.2.2.2.1).length) (x_.2.2.2.2.2)), (4, I (x_.2.1)), (5, I (x_.2.2.1)), (6, I (((x_.1 : Nat) : Int)))] : List (Nat × Value))) (fun x_ w_ => (x_.1 ≤ l.length ∧ (0 ≤ x_.2.1 ∧ (x_.2.1 < l.length ∨ l.length = 0)) ∧ 0 ≤ x_.2.2.1 ∧ x_.2.2.1 ≤ 100 ∧ x_.2.2.2.1.length ≤ x_.1) ∧ ((vcA (tsL l) (l.length - x_.1) x_.2.2.2.1 x_.2.1 x_.2.2.1 && decide (l.length ≤ 16)) = validC (tsL l)) ∧ (Mem w w_ [] [[⟨.slice (x_.2.2.2.2.1) ((x_.2.2.2.1).length) (x_.2.2.2.2.2), 3, 1, ((x_.2.2.2.1).length), (x_.2.2.2.1).map I⟩]])) (fun x_ => l.length - x_.1) (0, 0, 0, ([] : List Int), bl b1_0, 0) (Has.cons rfl (Has.cons (sl_congr (by first | rfl | omega | (simp; done) | (simp; omega) | exact congrArg List.length hq1 | (simp [← hq1]; done) | (simp [← hq1]; omega))) (Has.cons rfl (Has.cons rfl (Has.cons (I_congr (by first | rfl | omega | (simp; omega) | simp)) Has.nil))))) ⟨(by (try dsimp only); refine ⟨by omega, ⟨by omega, by omega⟩, by omega, by omega, by simp⟩), (by (try dsimp only); rw [validC_run2 (l := tsL l)]; simp), (hMn1.pick [0] (by decide) rfl)⟩ (fun ⟨t, ap, low, seen, A2, c2⟩ σ w_l5 hI => ?_)
  try dsimp only at hI
  obtain ⟨hi0_l5, hi1_l5, hM_l5⟩ := hI
  have hcl0_l5 := (hM_l5.cap 0 rfl).1
  refine C.seq ?_
  refine C.seq ?_
  refine C.region ?_
  refine O.val (v := I (((t : Nat) : Int))) rfl (Ru.move rfl) rfl ?_
  refine O.val (v := .slice (A) ((l).length) (c)) rfl (Ru.move rfl) rfl ?_
  refine O.val (v := I ((((l).length : Nat) : Int))) rfl (Ru.blenSlice Try.underlying23 rfl) rfl ?_
  refine O.val (v := .bool (decide (((t : Nat) : Int) < (((l).length : Nat) : Int)))) rfl (Ru.lss rfl rfl) rfl ?_
  refine O.nil ?_
  refine C.cond (p := ((t : Nat) : Int) < (((l).length : Nat) : Int)) rfl (fun c12 => ?_) (fun c12 => ?_)
  · have hja : (ap).toNat < l.length := by omega
    refine C.skip ?_
    refine C.seq ?_
    refine C.block ?_
    refine C.seq ?_
    refine C.region ?_
    refine O.val (v := .slice (A) ((l).length) (c)) rfl (Ru.move rfl) rfl ?_
    refine O.val (v := I (ap)) rfl (Ru.move rfl) rfl ?_
    have hx7_2 : (ap).toNat < (l).length := (by first | omega | (simp; omega))
    refine O.val (v := .pointer (ofs (A) (((ap).toNat) * 3))) rfl (Ru.indexA (j := (ap).toNat) Try.underlying23 el28 rfl rfl (smf encL_len (hA.at hM_l5) hx7_2 rfl) (by omega) (by omega)) rfl ?_
    have hgl := gL_ts hx7_2
    refine O.val rfl (Ru.loadN (vs := [.slice (((l)[(ap).toNat]'hx7_2).A) (((l)[(ap).toNat]'hx7_2).t.keys.length) (((l)[(ap).toNat]'hx7_2).cp), I (((l)[(ap).toNat]'hx7_2).t.high), I (((l)[(ap).toNat]'hx7_2).t.right)]) el28 rfl rfl (smf encL_len (hA.at hM_l5) hx7_2 rfl) (ldn encL_len (hA.at hM_l5) hx7_2)) rfl ?_
    refine O.malloc (k := 3) hM_l5 rfl rfl el28 rfl (fun w7_4 b7_4 hb7_4 (hM7_4 : Mem w w7_4 [] [[⟨.slice (bl b7_4) 1 1, 28, 3, 1, [.slice (none) (0) (0), I (0), I (0)]⟩], [⟨.slice (A2) ((seen).length) (c2), 3, 1, ((seen).length), (seen).map I⟩]]) => ?_)
    refine O.mstore (vs := [.slice (((l)[(ap).toNat]'hx7_2).A) (((l)[(ap).toNat]'hx7_2).t.keys.length) (((l)[(ap).toNat]'hx7_2).cp), I (((l)[(ap).toNat]'hx7_2).t.high), I (((l)[(ap).toNat]'hx7_2).t.right)]) (xs' := [.slice (((l)[(ap).toNat]'hx7_2).A) (((l)[(ap).toNat]'hx7_2).t.keys.length) (((l)[(ap).toNat]'hx7_2).cp), I (((l)[(ap).toNat]'hx7_2).t.high), I (((l)[(ap).toNat]'hx7_2).t.right)]) 0 0 hM7_4 rfl rfl rfl el28 rfl rfl rfl rfl rfl (by simp) (by simp) rfl rfl (fun w7_5 (hM7_5 : Mem w w7_5 [] [[⟨.slice (bl b7_4) 1 1, 28, 3, 1, [.slice (((l)[(ap).toNat]'hx7_2).A) (((l)[(ap).toNat]'hx7_2).t.keys.length) (((l)[(ap).toNat]'hx7_2).cp), I (((l)[(ap).toNat]'hx7_2).t.high), I (((l)[(ap).toNat]'hx7_2).t.right)]⟩], [⟨.slice (A2) ((seen).length) (c2), 3, 1, ((seen).length), (seen).map I⟩]]) => ?_)
    refine O.nil ?_
    refine C.seq ?_
    refine C.seq ?_
    refine C.region ?_
    refine O.val (v := .slice (A2) ((seen).length) (c2)) rfl (Ru.move rfl) rfl ?_
    refine O.val (v := I (ap)) rfl (Ru.move rfl) rfl ?_
    refine O.callg [.slice (A2) ((seen).length) (c2), I (ap)] rfl en60 rfl rfl (isIn_fn A2 c2 seen ap w7_5 (hM7_5.rd 1 rfl) (by omega)) ?_
    rintro _ w8_2 ⟨rfl, hR8_2⟩
    have hM8_2 : Mem w w8_2 [] [[⟨.slice (bl b7_4) 1 1, 28, 3, 1, [.slice (((l)[(ap).toNat]'hx7_2).A) (((l)[(ap).toNat]'hx7_2).t.keys.length) (((l)[(ap).toNat]'hx7_2).cp), I (((l)[(ap).toNat]'hx7_2).t.high), I (((l)[(ap).toNat]'hx7_2).t.right)]⟩], [⟨.slice (A2) ((seen).length) (c2), 3, 1, ((seen).length), (seen).map I⟩]] := Mem.call (Ma := []) hM7_5 hR8_2 rfl
    refine O.val (v := .bool (decide (ap ∈ seen))) rfl (Ru.move rfl) rfl ?_
    refine O.part 22 (decide (ap ∈ seen)) rfl (fun g22 => ?_) (fun g22 => ?_)
    · refine O.pass rfl rfl rfl rfl rfl ?_
      refine O.pass rfl rfl rfl rfl rfl ?_
      refine O.pass rfl rfl rfl rfl rfl ?_
      refine O.pass rfl rfl rfl rfl rfl ?_
      refine O.pass rfl rfl rfl rfl rfl ?_
      refine O.val (v := .bool (true)) rfl (Ru.pickT rfl rfl) rfl ?_
      refine O.val (v := .bool (true)) rfl (Ru.move rfl) rfl ?_
      refine O.pass rfl rfl rfl rfl rfl ?_
      refine O.pass rfl rfl rfl rfl rfl ?_
      refine O.pass rfl rfl rfl rfl rfl ?_
      refine O.pass rfl rfl rfl rfl rfl ?_
      refine O.val (v := .bool (true)) rfl (Ru.pickT rfl rfl) rfl ?_
      refine O.val (v := .bool (true)) rfl (Ru.move rfl) rfl ?_
      refine O.pass rfl rfl rfl rfl rfl ?_
      refine O.pass rfl rfl rfl rfl rfl ?_
      refine O.pass rfl rfl rfl rfl rfl ?_
      refine O.pass rfl rfl rfl rfl rfl ?_
      refine O.val (v := .bool (true)) rfl (Ru.pickT rfl rfl) rfl ?_
      refine O.val (v := .bool (true)) rfl (Ru.move rfl) rfl ?_
      refine O.pass rfl rfl rfl rfl rfl ?_
      refine O.pass rfl rfl rfl rfl rfl ?_
      refine O.pass rfl rfl rfl rfl rfl ?_
      refine O.pass rfl rfl rfl rfl rfl ?_
      refine O.pass rfl rfl rfl rfl rfl ?_
      refine O.pass rfl rfl rfl rfl rfl ?_
      refine O.pass rfl rfl rfl rfl rfl ?_
      refine O.pass rfl rfl rfl rfl rfl ?_
      refine O.val (v := .bool (true)) rfl (Ru.pickT rfl rfl) rfl ?_
      refine O.nil ?_
      refine C.condT rfl ?_
      refine C.seq ?_
      refine C.region ?_
      refine O.val (v := .bool (false)) rfl (Ru.assign rfl) rfl ?_
      refine O.nil ?_
      refine C.ret ?_
      refine P1 (v := .bool (false)) rfl ?_
      exact ⟨(by rw [← hi1_l5, show l.length - t = l.length - (t + 1) + 1 by omega]; first | (rw [vc_seen (of_decide_eq_true g22)]; rfl) | (rw [vc_range3 hgl g29]; rfl) | (rw [vc_len hgl g35]; rfl) | (rw [vc_valid hgl g41]; rfl) | (rw [vc_keys hgl c50]; rfl)), (Mem.none hM8_2)⟩
    · refine O.val (v := .pointer (ofs (bl b7_4) (1))) rfl (Ru.fieldA fl28_1 rfl rfl) rfl ?_
      refine O.val rfl (Ru.load1 el3 rfl ((hM8_2.rd 0 rfl).ld rfl)) rfl ?_
      refine O.val (v := I (low)) rfl (Ru.move rfl) rfl ?_
      refine O.callg [I (((l)[(ap).toNat]'hx7_2).t.high), I (low), I (100)] rfl en48 rfl rfl (inRange_fn (((l)[(ap).toNat]'hx7_2).t.high) low 100 w8_2 ) ?_
      rintro _ w8_7 ⟨rfl, hR8_7⟩
      have hM8_7 : Mem w w8_7 [] [[⟨.slice (bl b7_4) 1 1, 28, 3, 1, [.slice (((l)[(ap).toNat]'hx7_2).A) (((l)[(ap).toNat]'hx7_2).t.keys.length) (((l)[(ap).toNat]'hx7_2).cp), I (((l)[(ap).toNat]'hx7_2).t.high), I (((l)[(ap).toNat]'hx7_2).t.right)]⟩], [⟨.slice (A2) ((seen).length) (c2), 3, 1, ((seen).length), (seen).map I⟩]] := Mem.call (Ma := []) hM8_2 hR8_7 rfl
      refine O.val (v := .bool (!(decide (low ≤ (((l)[(ap).toNat]'hx7_2).t.high)) && decide ((((l)[(ap).toNat]'hx7_2).t.high) ≤ 100)))) rfl (Ru.not rfl) rfl ?_
      refine O.val (v := .bool (!(decide (low ≤ (((l)[(ap).toNat]'hx7_2).t.high)) && decide ((((l)[(ap).toNat]'hx7_2).t.high) ≤ 100)))) rfl (Ru.pickF rfl rfl) rfl ?_
      refine O.val (v := .bool (!(decide (low ≤ (((l)[(ap).toNat]'hx7_2).t.high)) && decide ((((l)[(ap).toNat]'hx7_2).t.high) ≤ 100)))) rfl (Ru.move rfl) rfl ?_
      refine O.part 29 (!(decide (low ≤ (((l)[(ap).toNat]'hx7_2).t.high)) && decide ((((l)[(ap).toNat]'hx7_2).t.high) ≤ 100))) rfl (fun g29 => ?_) (fun g29 => ?_)
      · refine O.pass rfl rfl rfl rfl rfl ?_
        refine O.pass rfl rfl rfl rfl rfl ?_
        refine O.pass rfl rfl rfl rfl rfl ?_
        refine O.pass rfl rfl rfl rfl rfl ?_
        refine O.val (v := .bool (true)) rfl (Ru.pickT rfl rfl) rfl ?_
        refine O.val (v := .bool (true)) rfl (Ru.move rfl) rfl ?_
        refine O.pass rfl rfl rfl rfl rfl ?_
        refine O.pass rfl rfl rfl rfl rfl ?_
        refine O.pass rfl rfl rfl rfl rfl ?_
        refine O.pass rfl rfl rfl rfl rfl ?_
        refine O.val (v := .bool (true)) rfl (Ru.pickT rfl rfl) rfl ?_
        refine O.val (v := .bool (true)) rfl (Ru.move rfl) rfl ?_
        refine O.pass rfl rfl rfl rfl rfl ?_
        refine O.pass rfl rfl rfl rfl rfl ?_
        refine O.pass rfl rfl rfl rfl rfl ?_
        refine O.pass rfl rfl rfl rfl rfl ?_
        refine O.pass rfl rfl rfl rfl rfl ?_
        refine O.pass rfl rfl rfl rfl rfl ?_
        refine O.pass rfl rfl rfl rfl rfl ?_
        refine O.pass rfl rfl rfl rfl rfl ?_
        refine O.val (v := .bool (true)) rfl (Ru.pickT rfl rfl) rfl ?_
        refine O.nil ?_
        refine C.condT rfl ?_
        refine C.seq ?_
        refine C.region ?_
        refine O.val (v := .bool (false)) rfl (Ru.assign rfl) rfl ?_
        refine O.nil ?_
        refine C.ret ?_
        refine P1 (v := .bool (false)) rfl ?_
        exact ⟨(by rw [← hi1_l5, show l.length - t = l.length - (t + 1) + 1 by omega]; first | (rw [vc_seen (of_decide_eq_true g22)]; rfl) | (rw [vc_range3 hgl g29]; rfl) | (rw [vc_len hgl g35]; rfl) | (rw [vc_valid hgl g41]; rfl) | (rw [vc_keys hgl c50]; rfl)), (Mem.none hM8_7)⟩
      · refine O.val (v := .pointer (ofs (bl b7_4) (0))) rfl (Ru.fieldA fl28_0 rfl rfl) rfl ?_
        refine O.val rfl (Ru.load1 el26 rfl ((hM8_7.rd 0 rfl).ld rfl)) rfl ?_
        refine O.val (v := I (((((l)[(ap).toNat]'hx7_2).t.keys.length : Nat) : Int))) rfl (Ru.blenSlice Try.underlying26 rfl) rfl ?_
        refine O.val (v := .bool (decide (((((l)[(ap).toNat]'hx7_2).t.keys.length : Nat) : Int) > 4))) rfl (Ru.gtr rfl rfl) rfl ?_
        refine O.val (v := .bool (decide (((((l)[(ap).toNat]'hx7_2).t.keys.length : Nat) : Int) > 4))) rfl (Ru.pickF rfl rfl) rfl ?_
        refine O.val (v := .bool (decide (((((l)[(ap).toNat]'hx7_2).t.keys.length : Nat) : Int) > 4))) rfl (Ru.move rfl) rfl ?_
        refine O.partp 35 (((((l)[(ap).toNat]'hx7_2).t.keys.length : Nat) : Int) > 4) rfl (fun g35 => ?_) (fun g35 => ?_)
        · refine O.pass rfl rfl rfl rfl rfl ?_
          refine O.pass rfl rfl rfl rfl rfl ?_
          refine O.pass rfl rfl rfl rfl rfl ?_
          refine O.pass rfl rfl rfl rfl rfl ?_
          refine O.val (v := .bool (true)) rfl (Ru.pickT rfl rfl) rfl ?_
          refine O.val (v := .bool (true)) rfl (Ru.move rfl) rfl ?_
          refine O.pass rfl rfl rfl rfl rfl ?_
          refine O.pass rfl rfl rfl rfl rfl ?_
          refine O.pass rfl rfl rfl rfl rfl ?_
          refine O.pass rfl rfl rfl rfl rfl ?_
          refine O.pass rfl rfl rfl rfl rfl ?_
          refine O.pass rfl rfl rfl rfl rfl ?_
          refine O.pass rfl rfl rfl rfl rfl ?_
          refine O.pass rfl rfl rfl rfl rfl ?_
          refine O.val (v := .bool (true)) rfl (Ru.pickT rfl rfl) rfl ?_
          refine O.nil ?_
          refine C.condT rfl ?_
          refine C.seq ?_
          refine C.region ?_
          refine O.val (v := .bool (false)) rfl (Ru.assign rfl) rfl ?_
          refine O.nil ?_
          refine C.ret ?_
          refine P1 (v := .bool (false)) rfl ?_
          exact ⟨(by rw [← hi1_l5, show l.length - t = l.length - (t + 1) + 1 by omega]; first | (rw [vc_seen (of_decide_eq_true g22)]; rfl) | (rw [vc_range3 hgl g29]; rfl) | (rw [vc_len hgl g35]; rfl) | (rw [vc_valid hgl g41]; rfl) | (rw [vc_keys hgl c50]; rfl)), (Mem.none hM8_7)⟩
        · refine O.val (v := .pointer (ofs (bl b7_4) (0))) rfl (Ru.fieldA fl28_0 rfl rfl) rfl ?_
          refine O.val rfl (Ru.load1 el26 rfl ((hM8_7.rd 0 rfl).ld rfl)) rfl ?_
          refine O.callg [.slice (((l)[(ap).toNat]'hx7_2).A) ((((l)[(ap).toNat]'hx7_2).t.keys).length) (((l)[(ap).toNat]'hx7_2).cp)] rfl en65 (by first | rfl | (rw [show (((l)[(ap).toNat]'hx7_2).t.keys).length = ((l)[(ap).toNat]'hx7_2).t.keys.length from (by first | rfl | (simp; done) | omega | (simp; omega))]; rfl)) rfl (validKeys_fn (((l)[(ap).toNat]'hx7_2).A) (((l)[(ap).toNat]'hx7_2).cp) (((l)[(ap).toNat]'hx7_2).t.keys) w8_7 ((hNA.at hM8_7).get hx7_2) (by omega)) ?_
          rintro _ w8_19 ⟨rfl, hR8_19⟩
          have hM8_19 : Mem w w8_19 [] [[⟨.slice (bl b7_4) 1 1, 28, 3, 1, [.slice (((l)[(ap).toNat]'hx7_2).A) (((l)[(ap).toNat]'hx7_2).t.keys.length) (((l)[(ap).toNat]'hx7_2).cp), I (((l)[(ap).toNat]'hx7_2).t.high), I (((l)[(ap).toNat]'hx7_2).t.right)]⟩], [⟨.slice (A2) ((seen).length) (c2), 3, 1, ((seen).length), (seen).map I⟩]] := Mem.call (Ma := []) hM8_7 hR8_19 rfl
          refine O.val (v := .bool (!(validK (((l)[(ap).toNat]'hx7_2).t.keys)))) rfl (Ru.not rfl) rfl ?_
          refine O.val (v := .bool (!(validK (((l)[(ap).toNat]'hx7_2).t.keys)))) rfl (Ru.pickF rfl rfl) rfl ?_
          refine O.val (v := .bool (!(validK (((l)[(ap).toNat]'hx7_2).t.keys)))) rfl (Ru.move rfl) rfl ?_
          refine O.part 41 (!(validK (((l)[(ap).toNat]'hx7_2).t.keys))) rfl (fun g41 => ?_) (fun g41 => ?_)
          · refine O.pass rfl rfl rfl rfl rfl ?_
            refine O.pass rfl rfl rfl rfl rfl ?_
            refine O.pass rfl rfl rfl rfl rfl ?_
            refine O.pass rfl rfl rfl rfl rfl ?_
            refine O.pass rfl rfl rfl rfl rfl ?_
            refine O.pass rfl rfl rfl rfl rfl ?_
            refine O.pass rfl rfl rfl rfl rfl ?_
            refine O.pass rfl rfl rfl rfl rfl ?_
            refine O.val (v := .bool (true)) rfl (Ru.pickT rfl rfl) rfl ?_
            refine O.nil ?_
            refine C.condT rfl ?_
            refine C.seq ?_
            refine C.region ?_
            refine O.val (v := .bool (false)) rfl (Ru.assign rfl) rfl ?_
            refine O.nil ?_
            refine C.ret ?_
            refine P1 (v := .bool (false)) rfl ?_
            exact ⟨(by rw [← hi1_l5, show l.length - t = l.length - (t + 1) + 1 by omega]; first | (rw [vc_seen (of_decide_eq_true g22)]; rfl) | (rw [vc_range3 hgl g29]; rfl) | (rw [vc_len hgl g35]; rfl) | (rw [vc_valid hgl g41]; rfl) | (rw [vc_keys hgl c50]; rfl)), (Mem.none hM8_19)⟩
          · refine O.val (v := .pointer (ofs (bl b7_4) (0))) rfl (Ru.fieldA fl28_0 rfl rfl) rfl ?_
            refine O.val rfl (Ru.load1 el26 rfl ((hM8_19.rd 0 rfl).ld rfl)) rfl ?_
            refine O.val (v := I (low)) rfl (Ru.move rfl) rfl ?_
            refine O.val (v := .pointer (ofs (bl b7_4) (1))) rfl (Ru.fieldA fl28_1 rfl rfl) rfl ?_
            refine O.val rfl (Ru.load1 el3 rfl ((hM8_19.rd 0 rfl).ld rfl)) rfl ?_
            refine O.val (v := I ((((l)[(ap).toNat]'hx7_2).t.high - 1))) rfl (Ru.sub rfl rfl (by have h9 := g29; simp at h9; omega)) rfl ?_
            refine O.callg [.slice (((l)[(ap).toNat]'hx7_2).A) ((((l)[(ap).toNat]'hx7_2).t.keys).length) (((l)[(ap).toNat]'hx7_2).cp), I (low), I ((((l)[(ap).toNat]'hx7_2).t.high - 1))] rfl en66 (by first | rfl | (rw [show (((l)[(ap).toNat]'hx7_2).t.keys).length = ((l)[(ap).toNat]'hx7_2).t.keys.length from (by first | rfl | (simp; done) | omega | (simp; omega))]; rfl)) rfl (allIn_fn (((l)[(ap).toNat]'hx7_2).A) (((l)[(ap).toNat]'hx7_2).cp) (((l)[(ap).toNat]'hx7_2).t.keys) low (((l)[(ap).toNat]'hx7_2).t.high - 1) w8_19 ((hNA.at hM8_19).get hx7_2) (by omega)) ?_
            rintro _ w8_29 ⟨rfl, hR8_29⟩
            have hM8_29 : Mem w w8_29 [] [[⟨.slice (bl b7_4) 1 1, 28, 3, 1, [.slice (((l)[(ap).toNat]'hx7_2).A) (((l)[(ap).toNat]'hx7_2).t.keys.length) (((l)[(ap).toNat]'hx7_2).cp), I (((l)[(ap).toNat]'hx7_2).t.high), I (((l)[(ap).toNat]'hx7_2).t.right)]⟩], [⟨.slice (A2) ((seen).length) (c2), 3, 1, ((seen).length), (seen).map I⟩]] := Mem.call (Ma := []) hM8_19 hR8_29 rfl
            refine O.val (v := .bool (!((((l)[(ap).toNat]'hx7_2).t.keys).all (fun a => decide (low ≤ a) && decide (a ≤ (((l)[(ap).toNat]'hx7_2).t.high - 1)))))) rfl (Ru.not rfl) rfl ?_
            refine O.val (v := .bool (!((((l)[(ap).toNat]'hx7_2).t.keys).all (fun a => decide (low ≤ a) && decide (a ≤ (((l)[(ap).toNat]'hx7_2).t.high - 1)))))) rfl (Ru.pickF rfl rfl) rfl ?_
            refine O.nil ?_
            refine C.condn (b := ((((l)[(ap).toNat]'hx7_2).t.keys).all (fun a => decide (low ≤ a) && decide (a ≤ (((l)[(ap).toNat]'hx7_2).t.high - 1))))) rfl (fun c50 => ?_) (fun c50 => ?_)
            · refine C.seq ?_
              refine C.region ?_
              refine O.val (v := .bool (false)) rfl (Ru.assign rfl) rfl ?_
              refine O.nil ?_
              refine C.ret ?_
              refine P1 (v := .bool (false)) rfl ?_
              exact ⟨(by rw [← hi1_l5, show l.length - t = l.length - (t + 1) + 1 by omega]; first | (rw [vc_seen (of_decide_eq_true g22)]; rfl) | (rw [vc_range3 hgl g29]; rfl) | (rw [vc_len hgl g35]; rfl) | (rw [vc_valid hgl g41]; rfl) | (rw [vc_keys hgl c50]; rfl)), (Mem.none hM8_29)⟩
            · refine C.skip ?_
              refine C.seq ?_
              have hns : ap ∉ seen := by simp_all
              have hal : ((l)[(ap).toNat]'hx7_2).t.keys.all (fun k => decide (low ≤ k) && decide (k ≤ ((l)[(ap).toNat]'hx7_2).t.high - 1)) = true := by simp_all
              have hhi : low ≤ ((l)[(ap).toNat]'hx7_2).t.high ∧ ((l)[(ap).toNat]'hx7_2).t.high ≤ 100 := by simp_all
              have hok : okLk (gL (tsL l) ap.toNat) low = true := by rw [hgl]; exact ok_yes2 hhi.1 (by omega) (by simp_all) hal
              have hlt2 : ap < ((tsL l).length : Int) := by simp; omega
              refine C.region ?_
              refine O.val (v := .slice (A2) ((seen).length) (c2)) rfl (Ru.move rfl) rfl ?_
              refine O.val (v := I (ap)) rfl (Ru.move rfl) rfl ?_
              refine O.mlit (sz := 1) (cs := [I (ap)]) hM8_29 rfl Try.underlying26 el3 rfl rfl rfl (by kernel_rfl) (by kernel_rfl) rfl rfl (fun w10_2 b10_2 hb10_2 (hM10_2 : Mem w w10_2 [] [[⟨.slice (bl b10_2) (1) (1), 3, 1, 1, ([ap]).map I⟩], [⟨.slice (bl b7_4) 1 1, 28, 3, 1, [.slice (((l)[(ap).toNat]'hx7_2).A) (((l)[(ap).toNat]'hx7_2).t.keys.length) (((l)[(ap).toNat]'hx7_2).cp), I (((l)[(ap).toNat]'hx7_2).t.high), I (((l)[(ap).toNat]'hx7_2).t.right)]⟩], [⟨.slice (A2) ((seen).length) (c2), 3, 1, ((seen).length), (seen).map I⟩]]) => ?_)
              refine O.mappend (sz := 1) (news := ([ap]).map I) (m1 := (seen ++ [ap]).length) (xs1 := (seen ++ [ap]).map I) (M' := fun A10_3 c10_3 => [[⟨.slice (bl b10_2) (1) (1), 3, 1, 1, ([ap]).map I⟩], [⟨.slice (bl b7_4) 1 1, 28, 3, 1, [.slice (((l)[(ap).toNat]'hx7_2).A) (((l)[(ap).toNat]'hx7_2).t.keys.length) (((l)[(ap).toNat]'hx7_2).cp), I (((l)[(ap).toNat]'hx7_2).t.high), I (((l)[(ap).toNat]'hx7_2).t.right)]⟩], [⟨.slice (A10_3) ((seen ++ [ap]).length) (c10_3), 3, 1, ((seen ++ [ap]).length), (seen ++ [ap]).map I⟩]]) 2 0 hM10_2 rfl rfl rfl Try.underlying26 el3 ⟨rfl, by decide⟩ rfl rfl rfl (hM10_2.rd 0 rfl) (by first | (simp; done) | (simp; omega)) (all_map_one (fun _ => rfl) _) (by first | omega | (simp; omega)) (by first | omega | (simp; omega)) (by first | (simp; done) | (simp; omega)) (by simp) (fun _ _ => rfl) (fun w10_3 A10_3 c10_3 hc10_3 hM10_3 => ?_)
              try dsimp only at hM10_3
              refine O.val (v := .slice (A10_3) ((seen ++ [ap]).length) (c10_3)) rfl (Ru.assign rfl) rfl ?_
              refine O.nil ?_
              refine C.seq ?_
              refine C.region ?_
              refine O.val (v := .pointer (ofs (bl b7_4) (1))) rfl (Ru.fieldA fl28_1 rfl rfl) rfl ?_
              refine O.val rfl (Ru.load1 el3 rfl ((hM10_3.rd 1 rfl).ld rfl)) rfl ?_
              refine O.val (v := I (((l)[(ap).toNat]'hx7_2).t.high)) rfl (Ru.assign rfl) rfl ?_
              refine O.nil ?_
              refine C.seq ?_
              refine C.seq ?_
              refine C.region ?_
              refine O.val (v := I (((t : Nat) : Int))) rfl (Ru.move rfl) rfl ?_
              refine O.val (v := .slice (A) ((l).length) (c)) rfl (Ru.move rfl) rfl ?_
              refine O.val (v := I ((((l).length : Nat) : Int))) rfl (Ru.blenSlice Try.underlying23 rfl) rfl ?_
              refine O.val (v := I (((((l).length : Nat) : Int) - 1))) rfl (Ru.sub rfl rfl (by omega)) rfl ?_
              refine O.val (v := .bool (decide (((t : Nat) : Int) = ((((l).length : Nat) : Int) - 1)))) rfl (Ru.eql rfl rfl) rfl ?_
              refine O.nil ?_
              refine C.cond (p := ((t : Nat) : Int) = ((((l).length : Nat) : Int) - 1)) rfl (fun c61 => ?_) (fun c61 => ?_)
              · refine C.seq ?_
                refine C.region ?_
                refine O.val (v := .pointer (ofs (bl b7_4) (2))) rfl (Ru.fieldA fl28_2 rfl rfl) rfl ?_
                refine O.val rfl (Ru.load1 el3 rfl ((hM10_3.rd 1 rfl).ld rfl)) rfl ?_
                refine O.val (v := .bool (decide (((l)[(ap).toNat]'hx7_2).t.right = (-1)))) rfl (Ru.eql rfl rfl) rfl ?_
                refine O.val (v := .bool (decide (((l)[(ap).toNat]'hx7_2).t.right = (-1)))) rfl (Ru.move rfl) rfl ?_
                refine O.partp 65 (((l)[(ap).toNat]'hx7_2).t.right = (-1)) rfl (fun g65 => ?_) (fun g65 => ?_)
                · refine O.val (v := .pointer (ofs (bl b7_4) (1))) rfl (Ru.fieldA fl28_1 rfl rfl) rfl ?_
                  refine O.val rfl (Ru.load1 el3 rfl ((hM10_3.rd 1 rfl).ld rfl)) rfl ?_
                  refine O.val (v := .bool (decide (((l)[(ap).toNat]'hx7_2).t.high = 100))) rfl (Ru.eql rfl rfl) rfl ?_
                  refine O.val (v := .bool (decide (((l)[(ap).toNat]'hx7_2).t.high = 100))) rfl (Ru.pickT rfl rfl) rfl ?_
                  refine O.val (v := .bool (decide (((l)[(ap).toNat]'hx7_2).t.high = 100))) rfl (Ru.move rfl) rfl ?_
                  refine O.partp 70 (((l)[(ap).toNat]'hx7_2).t.high = 100) rfl (fun g70 => ?_) (fun g70 => ?_)
                  · refine O.val (v := .slice (A) ((l).length) (c)) rfl (Ru.move rfl) rfl ?_
                    refine O.val (v := I ((((l).length : Nat) : Int))) rfl (Ru.blenSlice Try.underlying23 rfl) rfl ?_
                    refine O.val (v := .bool (decide ((((l).length : Nat) : Int) ≤ 16))) rfl (Ru.leq rfl rfl) rfl ?_
                    refine O.val (v := .bool (decide ((((l).length : Nat) : Int) ≤ 16))) rfl (Ru.pickT rfl rfl) rfl ?_
                    refine O.val (v := .bool (decide ((((l).length : Nat) : Int) ≤ 16))) rfl (Ru.assign rfl) rfl ?_
                    refine O.nil ?_
                    refine C.ret ?_
                    refine P1 (v := .bool (decide ((((l).length : Nat) : Int) ≤ 16))) rfl ?_
                    exact ⟨(by rw [← hi1_l5, show l.length - t = 1 by omega, vc_last hi0_l5.2.1.1 hlt2 hns hok, hgl]; simp_all <;> omega), (Mem.none hM10_3)⟩
                  · refine O.pass rfl rfl rfl rfl rfl ?_
                    refine O.pass rfl rfl rfl rfl rfl ?_
                    refine O.pass rfl rfl rfl rfl rfl ?_
                    refine O.val (v := .bool (false)) rfl (Ru.pickF rfl rfl) rfl ?_
                    refine O.val (v := .bool (false)) rfl (Ru.assign rfl) rfl ?_
                    refine O.nil ?_
                    refine C.ret ?_
                    refine P1 (v := .bool (false)) rfl ?_
                    exact ⟨(by rw [← hi1_l5, show l.length - t = 1 by omega, vc_last hi0_l5.2.1.1 hlt2 hns hok, hgl]; simp_all <;> omega), (Mem.none hM10_3)⟩
                · refine O.pass rfl rfl rfl rfl rfl ?_
                  refine O.pass rfl rfl rfl rfl rfl ?_
                  refine O.pass rfl rfl rfl rfl rfl ?_
                  refine O.val (v := .bool (false)) rfl (Ru.pickF rfl rfl) rfl ?_
                  refine O.val (v := .bool (false)) rfl (Ru.move rfl) rfl ?_
                  refine O.pass rfl rfl rfl rfl rfl ?_
                  refine O.pass rfl rfl rfl rfl rfl ?_
                  refine O.pass rfl rfl rfl rfl rfl ?_
                  refine O.val (v := .bool (false)) rfl (Ru.pickF rfl rfl) rfl ?_
                  refine O.val (v := .bool (false)) rfl (Ru.assign rfl) rfl ?_
                  refine O.nil ?_
                  refine C.ret ?_
                  refine P1 (v := .bool (false)) rfl ?_
                  exact ⟨(by rw [← hi1_l5, show l.length - t = 1 by omega, vc_last hi0_l5.2.1.1 hlt2 hns hok, hgl]; simp_all <;> omega), (Mem.none hM10_3)⟩
              · refine C.skip ?_
                refine C.seq ?_
                refine C.seq ?_
                refine C.region ?_
                refine O.val (v := .pointer (ofs (bl b7_4) (2))) rfl (Ru.fieldA fl28_2 rfl rfl) rfl ?_
                refine O.val rfl (Ru.load1 el3 rfl ((hM10_3.rd 1 rfl).ld rfl)) rfl ?_
                refine O.val (v := .slice (A) ((l).length) (c)) rfl (Ru.move rfl) rfl ?_
                refine O.val (v := I ((((l).length : Nat) : Int))) rfl (Ru.blenSlice Try.underlying23 rfl) rfl ?_
                refine O.val (v := I (((((l).length : Nat) : Int) - 1))) rfl (Ru.sub rfl rfl (by omega)) rfl ?_
                refine O.callg [I (((l)[(ap).toNat]'hx7_2).t.right), I (0), I (((((l).length : Nat) : Int) - 1))] rfl en48 rfl rfl (inRange_fn (((l)[(ap).toNat]'hx7_2).t.right) 0 ((((l).length : Nat) : Int) - 1) w10_3 ) ?_
                rintro _ w14_5 ⟨rfl, hR14_5⟩
                have hM14_5 : Mem w w14_5 [] [[⟨.slice (bl b10_2) (1) (1), 3, 1, 1, ([ap]).map I⟩], [⟨.slice (bl b7_4) 1 1, 28, 3, 1, [.slice (((l)[(ap).toNat]'hx7_2).A) (((l)[(ap).toNat]'hx7_2).t.keys.length) (((l)[(ap).toNat]'hx7_2).cp), I (((l)[(ap).toNat]'hx7_2).t.high), I (((l)[(ap).toNat]'hx7_2).t.right)]⟩], [⟨.slice (A10_3) ((seen ++ [ap]).length) (c10_3), 3, 1, ((seen ++ [ap]).length), (seen ++ [ap]).map I⟩]] := Mem.call (Ma := []) hM10_3 hR14_5 rfl
                refine O.val (v := .bool (!(decide (0 ≤ (((l)[(ap).toNat]'hx7_2).t.right)) && decide ((((l)[(ap).toNat]'hx7_2).t.right) ≤ ((((l).length : Nat) : Int) - 1))))) rfl (Ru.not rfl) rfl ?_
                refine O.nil ?_
                refine C.condn (b := (decide (0 ≤ (((l)[(ap).toNat]'hx7_2).t.right)) && decide ((((l)[(ap).toNat]'hx7_2).t.right) ≤ ((((l).length : Nat) : Int) - 1)))) rfl (fun c81 => ?_) (fun c81 => ?_)
                · refine C.seq ?_
                  refine C.region ?_
                  refine O.val (v := .bool (false)) rfl (Ru.assign rfl) rfl ?_
                  refine O.nil ?_
                  refine C.ret ?_
                  refine P1 (v := .bool (false)) rfl ?_
                  exact ⟨(by rw [← hi1_l5, show l.length - t = (l.length - (t + 1)) + 1 by omega, vc_next (by omega) hi0_l5.2.1.1 hlt2 hns hok, hgl, vc_out (by have h9 := c81; simp at h9; simp; omega)]; rfl), (Mem.none hM14_5)⟩
                · refine C.skip ?_
                  refine C.region ?_
                  refine O.val (v := .pointer (ofs (bl b7_4) (2))) rfl (Ru.fieldA fl28_2 rfl rfl) rfl ?_
                  refine O.val rfl (Ru.load1 el3 rfl ((hM14_5.rd 1 rfl).ld rfl)) rfl ?_
                  refine O.val (v := I (((l)[(ap).toNat]'hx7_2).t.right)) rfl (Ru.assign rfl) rfl ?_
                  refine O.nil ?_
                  refine C.region ?_
                  refine O.val (v := I (((t : Nat) : Int))) rfl (Ru.move rfl) rfl ?_
                  refine O.val (v := I ((((t + 1) : Nat) : Int))) rfl (Ru.congr (v := I ((((t : Nat) : Int) + 1))) (v' := I ((((t + 1) : Nat) : Int))) (Ru.add rfl rfl (by omega)) (I_congr (by first | omega | simp))) rfl ?_
                  refine O.val (v := I ((((t + 1) : Nat) : Int))) rfl (Ru.assign rfl) rfl ?_
                  refine O.nil ?_
                  have hq2 : (seen ++ [ap] : List Int) = (seen ++ [ap]) := (by first | rfl | simp | (simp; omega))
                  have hMn2 : Mem w w14_5 [] [[⟨.slice (bl b10_2) (1) (1), 3, 1, 1, ([ap]).map I⟩], [⟨.slice (bl b7_4) 1 1, 28, 3, 1, [.slice (((l)[(ap).toNat]'hx7_2).A) (((l)[(ap).toNat]'hx7_2).t.keys.length) (((l)[(ap).toNat]'hx7_2).cp), I (((l)[(ap).toNat]'hx7_2).t.high), I (((l)[(ap).toNat]'hx7_2).t.right)]⟩], [⟨.slice (A10_3) (((seen ++ [ap])).length) (c10_3), 3, 1, (((seen ++ [ap])).length), ((seen ++ [ap])).map I⟩]] := hM14_5.relen 2 (n' := ((seen ++ [ap])).length) (xs' := ((seen ++ [ap])).map I) rfl (by first | rfl | exact congrArg List.length hq2 | (have hqq := congrArg List.length hq2; first | omega | (simp at hqq ⊢; omega)) | (simp; done) | (simp; omega)) (congrArg (fun z_ => (z_).map I) hq2) rfl
                  exact loopEnd ((t + 1), (((l)[(ap).toNat]'hx7_2).t.right), (((l)[(ap).toNat]'hx7_2).t.high), (seen ++ [ap]), A10_3, c10_3) (by (try dsimp only); omega) (Has.cons rfl (Has.cons (sl_congr (by first | rfl | omega | (simp; done) | (simp; omega) | exact congrArg List.length hq2 | (simp [← hq2]; done) | (simp [← hq2]; omega))) (Has.cons rfl (Has.cons rfl (Has.cons rfl Has.nil))))) ⟨(by (try dsimp only); have h9 := c81; simp at h9; simp; omega), (by (try dsimp only); have h9 := vc_next (l := tsL l) (n := l.length - (t + 1)) (seen := seen) (low := low) (by omega) hi0_l5.2.1.1 hlt2 hns hok; rw [hgl] at h9; rw [← hi1_l5, show l.length - t = l.length - (t + 1) + 1 by omega, h9]), (hMn2.pick [2] (by decide) rfl)⟩
  · refine C.exit ?_
    refine C.seq ?_
    refine C.region ?_
    refine O.val (v := .bool (false)) rfl (Ru.assign rfl) rfl ?_
    refine O.nil ?_
    refine C.ret ?_
    refine P1 (v := .bool (false)) rfl ?_
    exact ⟨(by rw [← hi1_l5, show l.length - t = 0 by omega]; rfl), (Mem.none hM_l5)⟩
end Go.Proofs.Yteljpjapacajoaa
