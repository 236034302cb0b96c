/- Own layer: part of this seat (EA). Plain theorems; no conditions. -/
import Derived.Test.YtfdlmimgooeioaaDoorEK
set_option linter.unusedVariables false
set_option linter.unusedSimpArgs false
namespace Go.Proofs.YtfdlmimgooeioaaDoor
open Go.Px
theorem pick_fn (gr : Nat) (rA : Option Addr) (rc : Nat) (rl : List UInt8) (rq : Nat) (n : Int) (w : World) (hrA : Rd w rA (rl.map byteV)) (hro : Off rA (rl.map byteV) [some gr]) (hrl : rl.length ≤ 2000) (hM : Mem w w [some gr] [[⟨.slice (bl gr) 1 1, 105, 2, 1, [.slice (rA) ((rl).length) (rc), I (((rq : Nat) : Int))]⟩]]) (hrq : rq ≤ 1000000000) :
    Does Tryd.prog 78 [.pointer (ofs (bl gr) (0)), I (n)] w (fun v w1 => ∃ (k : Int), v = I (k) ∧ (0 ≤ k ∧ (k < n ∨ k = 0)) ∧ Mem w w1 [some gr] [[⟨.slice (bl gr) 1 1, 105, 2, 1, [.slice (rA) ((rl).length) (rc), I (((rq + 1 : Nat) : Int))]⟩]]) := by
  refine Does.enter1 Tryd.func78 rfl Tryd.results78 Tryd.ntmps78 rfl ?_
  refine C.seq ?_
  refine C.region ?_
  refine O.val (v := I (0)) rfl (Ru.assign rfl) rfl ?_
  refine O.nil ?_
  refine C.seq ?_
  refine C.region ?_
  refine O.val (v := .pointer (ofs (bl gr) (0))) rfl (Ru.move rfl) rfl ?_
  refine O.val (v := .pointer (ofs (bl gr) (0))) rfl (Ru.move rfl) rfl ?_
  refine O.val (v := .pointer (ofs (bl gr) (0))) rfl (Ru.nilc rfl rfl) rfl ?_
  refine O.val (v := .pointer (ofs (bl gr) (1))) rfl (Ru.fieldA fl105_1 rfl rfl) rfl ?_
  refine O.val rfl (Ru.load1 el3 rfl ((hM.rd 0 rfl).ld rfl)) rfl ?_
  refine O.val (v := I ((((rq + 1) : Nat) : Int))) rfl (Ru.congr (v := I ((((rq : Nat) : Int) + 1))) (v' := I ((((rq + 1) : Nat) : Int))) (Ru.add rfl rfl (by omega)) (I_congr (by first | omega | simp))) rfl ?_
  refine O.val (v := .pointer (ofs (bl gr) (0))) rfl (Ru.nilc rfl rfl) rfl ?_
  refine O.val (v := .pointer (ofs (bl gr) (1))) rfl (Ru.fieldA fl105_1 rfl rfl) rfl ?_
  refine O.mstore (vs := [I ((((rq + 1) : Nat) : Int))]) (xs' := [.slice (rA) ((rl).length) (rc), I ((((rq + 1) : Nat) : Int))]) 0 0 hM rfl rfl rfl el3 rfl rfl rfl rfl rfl (by simp) (by simp) rfl rfl (fun w1_8 (hM1_8 : Mem w w1_8 [some gr] [[⟨.slice (bl gr) 1 1, 105, 2, 1, [.slice (rA) ((rl).length) (rc), I ((((rq + 1) : Nat) : Int))]⟩]]) => ?_)
  refine O.nil ?_
  refine C.seq ?_
  refine C.seq ?_
  refine C.region ?_
  refine O.val (v := I (n)) rfl (Ru.move rfl) rfl ?_
  refine O.val (v := .bool (decide (n < 1))) rfl (Ru.lss rfl rfl) rfl ?_
  refine O.val (v := .bool (decide (n < 1))) rfl (Ru.move rfl) rfl ?_
  refine O.partp 17 (n < 1) rfl (fun g17 => ?_) (fun g17 => ?_)
  · refine O.pass rfl rfl rfl rfl rfl ?_
    refine O.pass rfl rfl rfl rfl rfl ?_
    refine O.pass rfl rfl rfl rfl rfl ?_
    refine O.pass rfl rfl rfl rfl rfl ?_
    refine O.pass rfl rfl rfl rfl rfl ?_
    refine O.pass rfl rfl rfl rfl rfl ?_
    refine O.val (v := .bool (true)) rfl (Ru.pickT rfl rfl) rfl ?_
    refine O.nil ?_
    refine C.condT rfl ?_
    refine C.seq ?_
    refine C.region ?_
    refine O.val (v := I (0)) rfl (Ru.assign rfl) rfl ?_
    refine O.nil ?_
    refine C.ret ?_
    refine P1 (v := I (0)) rfl ?_
    exact ⟨0, (by first | rfl | exact sl_congr (by first | omega | (simp; done) | (simp; omega)) | (simp; done)), ⟨by decide, .inr rfl⟩, (hM1_8.pick [0] (by decide) rfl)⟩
  · refine O.val (v := .pointer (ofs (bl gr) (0))) rfl (Ru.move rfl) rfl ?_
    refine O.val (v := .pointer (ofs (bl gr) (0))) rfl (Ru.nilc rfl rfl) rfl ?_
    refine O.val (v := .pointer (ofs (bl gr) (0))) rfl (Ru.fieldA fl105_0 rfl rfl) rfl ?_
    refine O.val rfl (Ru.load1 el29 rfl ((hM1_8.rd 0 rfl).ld rfl)) rfl ?_
    refine O.val (v := I ((((rl).length : Nat) : Int))) rfl (Ru.blenSlice Tryd.underlying29 rfl) rfl ?_
    refine O.val (v := .bool (decide ((((rl).length : Nat) : Int) = 0))) rfl (Ru.eql rfl rfl) rfl ?_
    refine O.val (v := .bool (decide ((((rl).length : Nat) : Int) = 0))) rfl (Ru.pickF rfl rfl) rfl ?_
    refine O.nil ?_
    refine C.cond (p := (((rl).length : Nat) : Int) = 0) rfl (fun c24 => ?_) (fun c24 => ?_)
    · refine C.seq ?_
      refine C.region ?_
      refine O.val (v := I (0)) rfl (Ru.assign rfl) rfl ?_
      refine O.nil ?_
      refine C.ret ?_
      refine P1 (v := I (0)) rfl ?_
      exact ⟨0, (by first | rfl | exact sl_congr (by first | omega | (simp; done) | (simp; omega)) | (simp; done)), ⟨by decide, .inr rfl⟩, (hM1_8.pick [0] (by decide) rfl)⟩
    · refine C.skip ?_
      refine C.seq ?_
      refine C.region ?_
      refine O.val (v := .pointer (ofs (bl gr) (0))) rfl (Ru.move rfl) rfl ?_
      refine O.val (v := .pointer (ofs (bl gr) (0))) rfl (Ru.nilc rfl rfl) rfl ?_
      refine O.val (v := .pointer (ofs (bl gr) (1))) rfl (Ru.fieldA fl105_1 rfl rfl) rfl ?_
      refine O.val rfl (Ru.load1 el3 rfl ((hM1_8.rd 0 rfl).ld rfl)) rfl ?_
      refine O.val (v := I (((rq : Nat) : Int))) rfl (Ru.congr (v := I (((((rq + 1) : Nat) : Int) - 1))) (v' := I (((rq : Nat) : Int))) (Ru.sub rfl rfl (by omega)) (I_congr (by omega))) rfl ?_
      refine O.val (v := I (((rq : Nat) : Int))) rfl (Ru.assign rfl) rfl ?_
      refine O.nil ?_
      refine C.seq ?_
      refine C.seq ?_
      refine C.region ?_
      refine O.val (v := I (((rq : Nat) : Int))) rfl (Ru.move rfl) rfl ?_
      refine O.val (v := .pointer (ofs (bl gr) (0))) rfl (Ru.move rfl) rfl ?_
      refine O.val (v := .pointer (ofs (bl gr) (0))) rfl (Ru.nilc rfl rfl) rfl ?_
      refine O.val (v := .pointer (ofs (bl gr) (0))) rfl (Ru.fieldA fl105_0 rfl rfl) rfl ?_
      refine O.val rfl (Ru.load1 el29 rfl ((hM1_8.rd 0 rfl).ld rfl)) rfl ?_
      refine O.val (v := I ((((rl).length : Nat) : Int))) rfl (Ru.blenSlice Tryd.underlying29 rfl) rfl ?_
      refine O.val (v := .bool (decide (((rq : Nat) : Int) < (((rl).length : Nat) : Int)))) rfl (Ru.lss rfl rfl) rfl ?_
      refine O.nil ?_
      refine C.cond (p := ((rq : Nat) : Int) < (((rl).length : Nat) : Int)) rfl (fun c36 => ?_) (fun c36 => ?_)
      · have hu2 := u8_le (rl[rq])
        refine C.seq ?_
        refine C.region ?_
        refine O.val (v := .pointer (ofs (bl gr) (0))) rfl (Ru.move rfl) rfl ?_
        refine O.val (v := .pointer (ofs (bl gr) (0))) rfl (Ru.nilc rfl rfl) rfl ?_
        refine O.val (v := .pointer (ofs (bl gr) (0))) rfl (Ru.fieldA fl105_0 rfl rfl) rfl ?_
        refine O.val rfl (Ru.load1 el29 rfl ((hM1_8.rd 0 rfl).ld rfl)) rfl ?_
        refine O.val (v := I (((rq : Nat) : Int))) rfl (Ru.move rfl) rfl ?_
        have hx6_5 : rq < (rl).length := (by first | omega | (simp; omega))
        refine O.val (v := .pointer (ofs (rA) (rq * 1))) rfl (Ru.indexA (j := rq) Tryd.underlying29 el5 rfl rfl (smm (hrA.atR hM1_8 hro) hx6_5) (by omega) (by first | omega | (simp; omega))) rfl ?_
        refine O.val rfl (Ru.load1 el5 rfl (ldm (hrA.atR hM1_8 hro) hx6_5)) rfl ?_
        refine O.val (v := I ((((rl)[rq]'hx6_5).toNat : Int))) rfl (Ru.conv (c := (((rl)[rq]'hx6_5).toNat : Int)) Tryd.underlying5 Tryd.underlying3 rfl (wrap_u8 _ (by omega))) rfl ?_
        refine O.val (v := I (n)) rfl (Ru.move rfl) rfl ?_
        refine O.val (v := I (((((rl)[rq]'hx6_5).toNat : Int) % n))) rfl (Ru.rem rfl rfl (by omega)) rfl ?_
        refine O.val (v := I (((((rl)[rq]'hx6_5).toNat : Int) % n))) rfl (Ru.assign rfl) rfl ?_
        refine O.nil ?_
        refine C.ret ?_
        refine P1 (v := I (((((rl)[rq]'hx6_5).toNat : Int) % n))) rfl ?_
        exact ⟨_, (by first | rfl | exact sl_congr (by first | omega | (simp; done) | (simp; omega)) | (simp; done)), ⟨Int.emod_nonneg _ (by omega), .inl (Int.emod_lt_of_pos _ (by omega))⟩, (hM1_8.pick [0] (by decide) rfl)⟩
      · have hq0 := Nat.mod_lt rq (show 0 < rl.length by omega)
        have hq1 := Nat.mod_lt (rq * 7 + 3) (show 0 < rl.length by omega)
        have hu0 := u8_le (rl[rq % rl.length])
        have hu1 := u8_le (rl[(rq * 7 + 3) % rl.length])
        obtain ⟨dv, hdq, hdv⟩ : ∃ dv : Nat, dv = rq / rl.length ∧ dv ≤ rq := ⟨_, rfl, Nat.div_le_self _ _⟩
        refine C.skip ?_
        refine C.seq ?_
        refine C.draws (fun w2 => Mem w w2 [some gr] [[⟨.slice (bl gr) 1 1, 105, 2, 1, [.slice (rA) ((rl).length) (rc), I ((((rq + 1) : Nat) : Int))]⟩]]) mixed (by kernel_rfl) (hM1_8.ext (kdrawn _)) ?_
        refine QO.val (v := .pointer (ofs (bl gr) (0))) rfl (fun w2 hw2 => Ru.move rfl) rfl ?_
        refine QO.val (v := .pointer (ofs (bl gr) (0))) rfl (fun w2 hw2 => Ru.nilc rfl rfl) rfl ?_
        refine QO.val (v := .pointer (ofs (bl gr) (0))) rfl (fun w2 hw2 => Ru.fieldA fl105_0 rfl rfl) rfl ?_
        refine QO.val rfl (fun w2 hw2 => Ru.load1 el29 rfl ((hw2.rd 0 rfl).ld rfl)) rfl ?_
        refine QO.val (v := I (((rq : Nat) : Int))) rfl (fun w2 hw2 => Ru.move rfl) rfl ?_
        refine QO.val (v := .pointer (ofs (bl gr) (0))) rfl (fun w2 hw2 => Ru.move rfl) rfl ?_
        refine QO.val (v := .pointer (ofs (bl gr) (0))) rfl (fun w2 hw2 => Ru.nilc rfl rfl) rfl ?_
        refine QO.val (v := .pointer (ofs (bl gr) (0))) rfl (fun w2 hw2 => Ru.fieldA fl105_0 rfl rfl) rfl ?_
        refine QO.val rfl (fun w2 hw2 => Ru.load1 el29 rfl ((hw2.rd 0 rfl).ld rfl)) rfl ?_
        refine QO.val (v := I ((((rl).length : Nat) : Int))) rfl (fun w2 hw2 => Ru.blenSlice Tryd.underlying29 rfl) rfl ?_
        refine QO.val (v := I ((((rq % (rl).length) : Nat) : Int))) rfl (fun w2 hw2 => Ru.congr (v := I ((((rq : Nat) : Int) % (((rl).length : Nat) : Int)))) (v' := I ((((rq % (rl).length) : Nat) : Int))) (Ru.rem rfl rfl (by omega)) (I_congr (by first | omega | simp))) rfl ?_
        have hx7_11 : (rq % (rl).length) < (rl).length := (by first | omega | (simp; omega))
        refine QO.val (v := .pointer (ofs (rA) ((rq % (rl).length) * 1))) rfl (fun w2 hw2 => Ru.indexA (j := (rq % (rl).length)) Tryd.underlying29 el5 rfl rfl (smm (hrA.atR hw2 hro) hx7_11) (by omega) (by first | omega | (simp; omega))) rfl ?_
        refine QO.val rfl (fun w2 hw2 => Ru.load1 el5 rfl (ldm (hrA.atR hw2 hro) hx7_11)) rfl ?_
        refine QO.val (v := I ((((rl)[(rq % (rl).length)]'hx7_11).toNat : Int))) rfl (fun w2 hw2 => Ru.conv (c := (((rl)[(rq % (rl).length)]'hx7_11).toNat : Int)) Tryd.underlying5 Tryd.underlying3 rfl (wrap_u8 _ (by omega))) rfl ?_
        refine QO.val (v := I ((((((rl)[(rq % (rl).length)]'hx7_11).toNat * 131) : Nat) : Int))) rfl (fun w2 hw2 => Ru.congr (v := I (((((rl)[(rq % (rl).length)]'hx7_11).toNat : Int) * 131))) (v' := I ((((((rl)[(rq % (rl).length)]'hx7_11).toNat * 131) : Nat) : Int))) (Ru.mul rfl rfl (by omega)) (I_congr (by first | omega | simp))) rfl ?_
        refine QO.val (v := .pointer (ofs (bl gr) (0))) rfl (fun w2 hw2 => Ru.move rfl) rfl ?_
        refine QO.val (v := .pointer (ofs (bl gr) (0))) rfl (fun w2 hw2 => Ru.nilc rfl rfl) rfl ?_
        refine QO.val (v := .pointer (ofs (bl gr) (0))) rfl (fun w2 hw2 => Ru.fieldA fl105_0 rfl rfl) rfl ?_
        refine QO.val rfl (fun w2 hw2 => Ru.load1 el29 rfl ((hw2.rd 0 rfl).ld rfl)) rfl ?_
        refine QO.val (v := I (((rq : Nat) : Int))) rfl (fun w2 hw2 => Ru.move rfl) rfl ?_
        refine QO.val (v := I ((((rq * 7) : Nat) : Int))) rfl (fun w2 hw2 => Ru.congr (v := I ((((rq : Nat) : Int) * 7))) (v' := I ((((rq * 7) : Nat) : Int))) (Ru.mul rfl rfl (by omega)) (I_congr (by first | omega | simp))) rfl ?_
        refine QO.val (v := I (((((rq * 7) + 3) : Nat) : Int))) rfl (fun w2 hw2 => Ru.congr (v := I (((((rq * 7) : Nat) : Int) + 3))) (v' := I (((((rq * 7) + 3) : Nat) : Int))) (Ru.add rfl rfl (by omega)) (I_congr (by first | omega | simp))) rfl ?_
        refine QO.val (v := .pointer (ofs (bl gr) (0))) rfl (fun w2 hw2 => Ru.move rfl) rfl ?_
        refine QO.val (v := .pointer (ofs (bl gr) (0))) rfl (fun w2 hw2 => Ru.nilc rfl rfl) rfl ?_
        refine QO.val (v := .pointer (ofs (bl gr) (0))) rfl (fun w2 hw2 => Ru.fieldA fl105_0 rfl rfl) rfl ?_
        refine QO.val rfl (fun w2 hw2 => Ru.load1 el29 rfl ((hw2.rd 0 rfl).ld rfl)) rfl ?_
        refine QO.val (v := I ((((rl).length : Nat) : Int))) rfl (fun w2 hw2 => Ru.blenSlice Tryd.underlying29 rfl) rfl ?_
        refine QO.val (v := I ((((((rq * 7) + 3) % (rl).length) : Nat) : Int))) rfl (fun w2 hw2 => Ru.congr (v := I ((((((rq * 7) + 3) : Nat) : Int) % (((rl).length : Nat) : Int)))) (v' := I ((((((rq * 7) + 3) % (rl).length) : Nat) : Int))) (Ru.rem rfl rfl (by omega)) (I_congr (by first | omega | simp))) rfl ?_
        have hx7_28 : (((rq * 7) + 3) % (rl).length) < (rl).length := (by first | omega | (simp; omega))
        refine QO.val (v := .pointer (ofs (rA) ((((rq * 7) + 3) % (rl).length) * 1))) rfl (fun w2 hw2 => Ru.indexA (j := (((rq * 7) + 3) % (rl).length)) Tryd.underlying29 el5 rfl rfl (smm (hrA.atR hw2 hro) hx7_28) (by omega) (by first | omega | (simp; omega))) rfl ?_
        refine QO.val rfl (fun w2 hw2 => Ru.load1 el5 rfl (ldm (hrA.atR hw2 hro) hx7_28)) rfl ?_
        refine QO.val (v := I ((((rl)[(((rq * 7) + 3) % (rl).length)]'hx7_28).toNat : Int))) rfl (fun w2 hw2 => Ru.conv (c := (((rl)[(((rq * 7) + 3) % (rl).length)]'hx7_28).toNat : Int)) Tryd.underlying5 Tryd.underlying3 rfl (wrap_u8 _ (by omega))) rfl ?_
        refine QO.val (v := I ((((((rl)[(((rq * 7) + 3) % (rl).length)]'hx7_28).toNat * 1117) : Nat) : Int))) rfl (fun w2 hw2 => Ru.congr (v := I (((((rl)[(((rq * 7) + 3) % (rl).length)]'hx7_28).toNat : Int) * 1117))) (v' := I ((((((rl)[(((rq * 7) + 3) % (rl).length)]'hx7_28).toNat * 1117) : Nat) : Int))) (Ru.mul rfl rfl (by omega)) (I_congr (by first | omega | simp))) rfl ?_
        refine QO.val (v := I (((((((rl)[(rq % (rl).length)]'hx7_11).toNat * 131) + (((rl)[(((rq * 7) + 3) % (rl).length)]'hx7_28).toNat * 1117)) : Nat) : Int))) rfl (fun w2 hw2 => Ru.congr (v := I (((((((rl)[(rq % (rl).length)]'hx7_11).toNat * 131) : Nat) : Int) + (((((rl)[(((rq * 7) + 3) % (rl).length)]'hx7_28).toNat * 1117) : Nat) : Int)))) (v' := I (((((((rl)[(rq % (rl).length)]'hx7_11).toNat * 131) + (((rl)[(((rq * 7) + 3) % (rl).length)]'hx7_28).toNat * 1117)) : Nat) : Int))) (Ru.add rfl rfl (by omega)) (I_congr (by first | omega | simp))) rfl ?_
        refine QO.val (v := I (((rq : Nat) : Int))) rfl (fun w2 hw2 => Ru.move rfl) rfl ?_
        refine QO.val (v := I ((((rq * 29) : Nat) : Int))) rfl (fun w2 hw2 => Ru.congr (v := I ((((rq : Nat) : Int) * 29))) (v' := I ((((rq * 29) : Nat) : Int))) (Ru.mul rfl rfl (by omega)) (I_congr (by first | omega | simp))) rfl ?_
        refine QO.val (v := I ((((((((rl)[(rq % (rl).length)]'hx7_11).toNat * 131) + (((rl)[(((rq * 7) + 3) % (rl).length)]'hx7_28).toNat * 1117)) + (rq * 29)) : Nat) : Int))) rfl (fun w2 hw2 => Ru.congr (v := I ((((((((rl)[(rq % (rl).length)]'hx7_11).toNat * 131) + (((rl)[(((rq * 7) + 3) % (rl).length)]'hx7_28).toNat * 1117)) : Nat) : Int) + (((rq * 29) : Nat) : Int)))) (v' := I ((((((((rl)[(rq % (rl).length)]'hx7_11).toNat * 131) + (((rl)[(((rq * 7) + 3) % (rl).length)]'hx7_28).toNat * 1117)) + (rq * 29)) : Nat) : Int))) (Ru.add rfl rfl (by omega)) (I_congr (by first | omega | simp))) rfl ?_
        refine QO.val (v := I (((rq : Nat) : Int))) rfl (fun w2 hw2 => Ru.move rfl) rfl ?_
        refine QO.val (v := .pointer (ofs (bl gr) (0))) rfl (fun w2 hw2 => Ru.move rfl) rfl ?_
        refine QO.val (v := .pointer (ofs (bl gr) (0))) rfl (fun w2 hw2 => Ru.nilc rfl rfl) rfl ?_
        refine QO.val (v := .pointer (ofs (bl gr) (0))) rfl (fun w2 hw2 => Ru.fieldA fl105_0 rfl rfl) rfl ?_
        refine QO.val rfl (fun w2 hw2 => Ru.load1 el29 rfl ((hw2.rd 0 rfl).ld rfl)) rfl ?_
        refine QO.val (v := I ((((rl).length : Nat) : Int))) rfl (fun w2 hw2 => Ru.blenSlice Tryd.underlying29 rfl) rfl ?_
        refine QO.val (v := I (((dv : Nat) : Int))) rfl (fun w2 hw2 => Ru.congr (v := I ((((rq : Nat) : Int) / (((rl).length : Nat) : Int)))) (v' := I (((dv : Nat) : Int))) (Ru.quo rfl rfl (by omega)) (I_congr (by rw [hdq]; simp))) rfl ?_
        refine QO.val (v := I ((((dv * 53) : Nat) : Int))) rfl (fun w2 hw2 => Ru.congr (v := I ((((dv : Nat) : Int) * 53))) (v' := I ((((dv * 53) : Nat) : Int))) (Ru.mul rfl rfl (by omega)) (I_congr (by first | omega | simp))) rfl ?_
        refine QO.val (v := I (((((((((rl)[(rq % (rl).length)]'hx7_11).toNat * 131) + (((rl)[(((rq * 7) + 3) % (rl).length)]'hx7_28).toNat * 1117)) + (rq * 29)) + (dv * 53)) : Nat) : Int))) rfl (fun w2 hw2 => Ru.congr (v := I (((((((((rl)[(rq % (rl).length)]'hx7_11).toNat * 131) + (((rl)[(((rq * 7) + 3) % (rl).length)]'hx7_28).toNat * 1117)) + (rq * 29)) : Nat) : Int) + (((dv * 53) : Nat) : Int)))) (v' := I (((((((((rl)[(rq % (rl).length)]'hx7_11).toNat * 131) + (((rl)[(((rq * 7) + 3) % (rl).length)]'hx7_28).toNat * 1117)) + (rq * 29)) + (dv * 53)) : Nat) : Int))) (Ru.add rfl rfl (by omega)) (I_congr (by first | omega | simp))) rfl ?_
        refine QO.val (v := I (((((((((rl)[(rq % (rl).length)]'hx7_11).toNat * 131) + (((rl)[(((rq * 7) + 3) % (rl).length)]'hx7_28).toNat * 1117)) + (rq * 29)) + (dv * 53)) : Nat) : Int))) rfl (fun w2 hw2 => Ru.assign rfl) rfl ?_
        refine QO.nil ?_
        intro w7d hM7d
        refine C.seq ?_
        refine C.region ?_
        refine O.val (v := I (((((((((rl)[(rq % (rl).length)]'hx7_11).toNat * 131) + (((rl)[(((rq * 7) + 3) % (rl).length)]'hx7_28).toNat * 1117)) + (rq * 29)) + (dv * 53)) : Nat) : Int))) rfl (Ru.move rfl) rfl ?_
        refine O.val (v := I (((((((((rl)[(rq % (rl).length)]'hx7_11).toNat * 131) + (((rl)[(((rq * 7) + 3) % (rl).length)]'hx7_28).toNat * 1117)) + (rq * 29)) + (dv * 53)) : Nat) : Int))) rfl (Ru.move rfl) rfl ?_
        refine O.val (v := I ((((((((((rl)[(rq % (rl).length)]'hx7_11).toNat * 131) + (((rl)[(((rq * 7) + 3) % (rl).length)]'hx7_28).toNat * 1117)) + (rq * 29)) + (dv * 53)) / 64) : Nat) : Int))) rfl (Ru.congr (v := I ((((((((((rl)[(rq % (rl).length)]'hx7_11).toNat * 131) + (((rl)[(((rq * 7) + 3) % (rl).length)]'hx7_28).toNat * 1117)) + (rq * 29)) + (dv * 53)) : Nat) : Int) / 64))) (v' := I ((((((((((rl)[(rq % (rl).length)]'hx7_11).toNat * 131) + (((rl)[(((rq * 7) + 3) % (rl).length)]'hx7_28).toNat * 1117)) + (rq * 29)) + (dv * 53)) / 64) : Nat) : Int))) (Ru.quo rfl rfl (by omega)) (I_congr (by first | omega | simp))) rfl ?_
        refine O.val (v := I ((((((((((((rl)[(rq % (rl).length)]'hx7_11).toNat * 131) + (((rl)[(((rq * 7) + 3) % (rl).length)]'hx7_28).toNat * 1117)) + (rq * 29)) + (dv * 53)) : Nat) : Int)).toNat ^^^ ((((((((((rl)[(rq % (rl).length)]'hx7_11).toNat * 131) + (((rl)[(((rq * 7) + 3) % (rl).length)]'hx7_28).toNat * 1117)) + (rq * 29)) + (dv * 53)) / 64) : Nat) : Int)).toNat : Nat) : Int))) rfl (Ru.xor rfl rfl (by omega) (by omega)) rfl ?_
        refine O.val (v := I ((((((((((((rl)[(rq % (rl).length)]'hx7_11).toNat * 131) + (((rl)[(((rq * 7) + 3) % (rl).length)]'hx7_28).toNat * 1117)) + (rq * 29)) + (dv * 53)) : Nat) : Int)).toNat ^^^ ((((((((((rl)[(rq % (rl).length)]'hx7_11).toNat * 131) + (((rl)[(((rq * 7) + 3) % (rl).length)]'hx7_28).toNat * 1117)) + (rq * 29)) + (dv * 53)) / 64) : Nat) : Int)).toNat : Nat) : Int))) rfl (Ru.assign rfl) rfl ?_
        refine O.nil ?_
        refine C.seq ?_
        refine C.region ?_
        refine O.val (v := I ((((((((((((rl)[(rq % (rl).length)]'hx7_11).toNat * 131) + (((rl)[(((rq * 7) + 3) % (rl).length)]'hx7_28).toNat * 1117)) + (rq * 29)) + (dv * 53)) : Nat) : Int)).toNat ^^^ ((((((((((rl)[(rq % (rl).length)]'hx7_11).toNat * 131) + (((rl)[(((rq * 7) + 3) % (rl).length)]'hx7_28).toNat * 1117)) + (rq * 29)) + (dv * 53)) / 64) : Nat) : Int)).toNat : Nat) : Int))) rfl (Ru.move rfl) rfl ?_
        refine O.val (v := I (n)) rfl (Ru.move rfl) rfl ?_
        refine O.val (v := I (((((((((((((rl)[(rq % (rl).length)]'hx7_11).toNat * 131) + (((rl)[(((rq * 7) + 3) % (rl).length)]'hx7_28).toNat * 1117)) + (rq * 29)) + (dv * 53)) : Nat) : Int)).toNat ^^^ ((((((((((rl)[(rq % (rl).length)]'hx7_11).toNat * 131) + (((rl)[(((rq * 7) + 3) % (rl).length)]'hx7_28).toNat * 1117)) + (rq * 29)) + (dv * 53)) / 64) : Nat) : Int)).toNat : Nat) : Int) % n))) rfl (Ru.rem rfl rfl (by omega)) rfl ?_
        refine O.val (v := I (((((((((((((rl)[(rq % (rl).length)]'hx7_11).toNat * 131) + (((rl)[(((rq * 7) + 3) % (rl).length)]'hx7_28).toNat * 1117)) + (rq * 29)) + (dv * 53)) : Nat) : Int)).toNat ^^^ ((((((((((rl)[(rq % (rl).length)]'hx7_11).toNat * 131) + (((rl)[(((rq * 7) + 3) % (rl).length)]'hx7_28).toNat * 1117)) + (rq * 29)) + (dv * 53)) / 64) : Nat) : Int)).toNat : Nat) : Int) % n))) rfl (Ru.assign rfl) rfl ?_
        refine O.nil ?_
        refine C.ret ?_
        refine P1 (v := I (((((((((((((rl)[(rq % (rl).length)]'hx7_11).toNat * 131) + (((rl)[(((rq * 7) + 3) % (rl).length)]'hx7_28).toNat * 1117)) + (rq * 29)) + (dv * 53)) : Nat) : Int)).toNat ^^^ ((((((((((rl)[(rq % (rl).length)]'hx7_11).toNat * 131) + (((rl)[(((rq * 7) + 3) % (rl).length)]'hx7_28).toNat * 1117)) + (rq * 29)) + (dv * 53)) / 64) : Nat) : Int)).toNat : Nat) : Int) % n))) rfl ?_
        exact ⟨_, (by first | rfl | exact sl_congr (by first | omega | (simp; done) | (simp; omega)) | (simp; done)), ⟨Int.emod_nonneg _ (by omega), .inl (Int.emod_lt_of_pos _ (by omega))⟩, (hM7d.pick [0] (by decide) rfl)⟩

theorem of_fn (gr : Nat) (rA : Option Addr) (rc : Nat) (rl : List UInt8) (rq : Nat) (A : Option Addr) (c : Nat) (l : List Str) (w : World) (hrA : Rd w rA (rl.map byteV)) (hro : Off rA (rl.map byteV) [some gr]) (hrl : rl.length ≤ 2000) (hA : Rd w A ((l).map S)) (hoA : Off A ((l).map S) [some gr]) (hM : Mem w w [some gr] [[⟨.slice (bl gr) 1 1, 105, 2, 1, [.slice (rA) ((rl).length) (rc), I (((rq : Nat) : Int))]⟩]]) (hrq : rq ≤ 999999990) (hl : 0 < l.length) (hm : l.length ≤ 1000) :
    Does Tryd.prog 109 [.pointer (ofs (bl gr) (0)), .slice (A) ((l).length) (c)] w (fun v w1 => ∃ (s : Str), v = S (s) ∧ (s ∈ l) ∧ Mem w w1 [some gr] [[⟨.slice (bl gr) 1 1, 105, 2, 1, [.slice (rA) ((rl).length) (rc), I (((rq + 1 : Nat) : Int))]⟩]]) := by
  refine Does.enter1 Tryd.func109 rfl Tryd.results109 Tryd.ntmps109 rfl ?_
  refine C.seq ?_
  refine C.region ?_
  refine O.val (v := S ([])) rfl (Ru.assign rfl) rfl ?_
  refine O.nil ?_
  refine C.seq ?_
  refine C.region ?_
  refine O.val (v := .slice (A) ((l).length) (c)) rfl (Ru.move rfl) rfl ?_
  refine O.val (v := .pointer (ofs (bl gr) (0))) rfl (Ru.move rfl) rfl ?_
  refine O.val (v := .slice (A) ((l).length) (c)) rfl (Ru.move rfl) rfl ?_
  refine O.val (v := I ((((l).length : Nat) : Int))) rfl (Ru.blenSlice Tryd.underlying85 rfl) rfl ?_
  refine O.callg [.pointer (ofs (bl gr) (0)), I ((((l).length : Nat) : Int))] rfl en78 rfl rfl (pick_fn gr rA rc rl rq (((l).length : Nat) : Int) w (hrA.atR hM hro) hro hrl (Mem.focus (Ma := [[⟨.slice (bl gr) 1 1, 105, 2, 1, [.slice (rA) ((rl).length) (rc), I (((rq : Nat) : Int))]⟩]]) (rest := []) hM rfl) (by first | omega | assumption | (simp; omega) | simp | (intros; omega))) ?_
  rintro _ w1_4 ⟨k1_4, rfl, hk1_4, hR1_4⟩
  have hM1_4 : Mem w w1_4 [some gr] [[⟨.slice (bl gr) 1 1, 105, 2, 1, [.slice (rA) ((rl).length) (rc), I (((rq + 1 : Nat) : Int))]⟩]] := Mem.call (Ma := [[⟨.slice (bl gr) 1 1, 105, 2, 1, [.slice (rA) ((rl).length) (rc), I (((rq : Nat) : Int))]⟩]]) hM hR1_4 rfl
  have hkk := hk1_4
  have hx1_5 : (k1_4).toNat < (l).length := (by first | omega | (simp; omega))
  refine O.val (v := .pointer (ofs (A) (((k1_4).toNat) * 1))) rfl (Ru.indexA (j := (k1_4).toNat) Tryd.underlying85 el9 rfl rfl (smm (hA.atR hM1_4 hoA) hx1_5) (by omega) (by first | omega | (simp; omega))) rfl ?_
  refine O.val rfl (Ru.load1 el9 rfl (ldm (hA.atR hM1_4 hoA) hx1_5)) rfl ?_
  refine O.val (v := S ((l)[(k1_4).toNat]'hx1_5)) rfl (Ru.assign rfl) rfl ?_
  refine O.nil ?_
  refine C.ret ?_
  refine P1 (v := S ((l)[(k1_4).toNat]'hx1_5)) rfl ?_
  exact ⟨_, (by first | rfl | exact sl_congr (by first | omega | (simp; done) | (simp; omega)) | (simp; done)), List.getElem_mem _, (hM1_4.pick [0] (by decide) rfl)⟩

theorem one_fn (gr : Nat) (rA : Option Addr) (rc : Nat) (rl : List UInt8) (rq : Nat) (A : Option Addr) (c : Nat) (l : List Int) (w : World) (hrA : Rd w rA (rl.map byteV)) (hro : Off rA (rl.map byteV) [some gr]) (hrl : rl.length ≤ 2000) (hA : Rd w A ((l).map I)) (hoA : Off A ((l).map I) [some gr]) (hM : Mem w w [some gr] [[⟨.slice (bl gr) 1 1, 105, 2, 1, [.slice (rA) ((rl).length) (rc), I (((rq : Nat) : Int))]⟩]]) (hrq : rq ≤ 999999990) (hl : 0 < l.length) (hm : l.length ≤ 1000) :
    Does Tryd.prog 86 [.pointer (ofs (bl gr) (0)), .slice (A) ((l).length) (c)] w (fun v w1 => ∃ (k : Int), v = I (k) ∧ (k ∈ l) ∧ Mem w w1 [some gr] [[⟨.slice (bl gr) 1 1, 105, 2, 1, [.slice (rA) ((rl).length) (rc), I (((rq + 1 : Nat) : Int))]⟩]]) := by
  refine Does.enter1 Tryd.func86 rfl Tryd.results86 Tryd.ntmps86 rfl ?_
  refine C.seq ?_
  refine C.region ?_
  refine O.val (v := I (0)) rfl (Ru.assign rfl) rfl ?_
  refine O.nil ?_
  refine C.seq ?_
  refine C.region ?_
  refine O.val (v := .slice (A) ((l).length) (c)) rfl (Ru.move rfl) rfl ?_
  refine O.val (v := .pointer (ofs (bl gr) (0))) rfl (Ru.move rfl) rfl ?_
  refine O.val (v := .slice (A) ((l).length) (c)) rfl (Ru.move rfl) rfl ?_
  refine O.val (v := I ((((l).length : Nat) : Int))) rfl (Ru.blenSlice Tryd.underlying51 rfl) rfl ?_
  refine O.callg [.pointer (ofs (bl gr) (0)), I ((((l).length : Nat) : Int))] rfl en78 rfl rfl (pick_fn gr rA rc rl rq (((l).length : Nat) : Int) w (hrA.atR hM hro) hro hrl (Mem.focus (Ma := [[⟨.slice (bl gr) 1 1, 105, 2, 1, [.slice (rA) ((rl).length) (rc), I (((rq : Nat) : Int))]⟩]]) (rest := []) hM rfl) (by first | omega | assumption | (simp; omega) | simp | (intros; omega))) ?_
  rintro _ w1_4 ⟨k1_4, rfl, hk1_4, hR1_4⟩
  have hM1_4 : Mem w w1_4 [some gr] [[⟨.slice (bl gr) 1 1, 105, 2, 1, [.slice (rA) ((rl).length) (rc), I (((rq + 1 : Nat) : Int))]⟩]] := Mem.call (Ma := [[⟨.slice (bl gr) 1 1, 105, 2, 1, [.slice (rA) ((rl).length) (rc), I (((rq : Nat) : Int))]⟩]]) hM hR1_4 rfl
  have hkk := hk1_4
  have hx1_5 : (k1_4).toNat < (l).length := (by first | omega | (simp; omega))
  refine O.val (v := .pointer (ofs (A) (((k1_4).toNat) * 1))) rfl (Ru.indexA (j := (k1_4).toNat) Tryd.underlying51 el3 rfl rfl (smm (hA.atR hM1_4 hoA) hx1_5) (by omega) (by first | omega | (simp; omega))) rfl ?_
  refine O.val rfl (Ru.load1 el3 rfl (ldm (hA.atR hM1_4 hoA) hx1_5)) rfl ?_
  refine O.val (v := I ((l)[(k1_4).toNat]'hx1_5)) rfl (Ru.assign rfl) rfl ?_
  refine O.nil ?_
  refine C.ret ?_
  refine P1 (v := I ((l)[(k1_4).toNat]'hx1_5)) rfl ?_
  exact ⟨_, (by first | rfl | exact sl_congr (by first | omega | (simp; done) | (simp; omega)) | (simp; done)), List.getElem_mem _, (hM1_4.pick [0] (by decide) rfl)⟩

theorem newReader_fn (A : Option Addr) (c : Nat) (l : List UInt8) (w : World) (hA : Rd w A ((l).map byteV)) (hl : l.length ≤ 1048576) (hc : l.length ≤ c) :
    Does Tryd.prog 51 [.slice (A) ((l).length) (c)] w (fun v w1 => ∃ (gr : Nat) (l1 : List UInt8), v = .pointer (ofs (bl gr) (0)) ∧ (l1 = l ∨ l1 = l.take 2000) ∧ (l1.length ≤ 2000) ∧ Mem w w1 [] [[⟨.slice (bl gr) 1 1, 105, 2, 1, [.slice (A) ((l1).length) (c), I (((0 : Nat) : Int))]⟩]]) := by
  have hM : Mem w w [] [] := Mem.refl
  refine Does.enter1 Tryd.func51 rfl Tryd.results51 Tryd.ntmps51 rfl ?_
  refine C.seq ?_
  refine C.region ?_
  refine O.val rfl (Ru.assign rfl) rfl ?_
  refine O.nil ?_
  refine C.seq ?_
  refine C.seq ?_
  refine C.region ?_
  refine O.val (v := .slice (A) ((l).length) (c)) rfl (Ru.move rfl) rfl ?_
  refine O.val (v := I ((((l).length : Nat) : Int))) rfl (Ru.blenSlice Tryd.underlying29 rfl) rfl ?_
  refine O.val (v := .bool (decide ((((l).length : Nat) : Int) > 2000))) rfl (Ru.gtr rfl rfl) rfl ?_
  refine O.nil ?_
  refine C.cond (p := (((l).length : Nat) : Int) > 2000) rfl (fun c5 => ?_) (fun c5 => ?_)
  · refine C.region ?_
    refine O.val (v := .slice (A) ((l).length) (c)) rfl (Ru.move rfl) rfl ?_
    refine O.val (v := .slice (A) ((l.take 2000).length) (c)) rfl (Ru.congr (v := .slice (A) (2000) (c)) (v' := .slice (A) ((l.take 2000).length) (c)) (Ru.lsliceTo (h := 2000) Tryd.underlying29 el5 rfl rfl (by omega) (by omega)) (sl_congr (by simp; omega))) rfl ?_
    refine O.val (v := .slice (A) ((l.take 2000).length) (c)) rfl (Ru.assign rfl) rfl ?_
    refine O.nil ?_
    refine C.seq ?_
    refine C.region ?_
    refine O.val (v := .slice (A) ((l.take 2000).length) (c)) rfl (Ru.move rfl) rfl ?_
    refine O.val (v := .agg #[.slice (A) ((l.take 2000).length) (c), I (0)]) rfl (Ru.build of105 rfl rfl rfl) rfl ?_
    refine O.mbox (k := 2) (vs := [.slice (A) ((l.take 2000).length) (c), I (0)]) hM rfl rfl rfl rfl rfl (fun w3_2 b3_2 hb3_2 (hM3_2 : Mem w w3_2 [] [[⟨.slice (bl b3_2) 1 1, 105, 2, 1, [.slice (A) ((l.take 2000).length) (c), I (0)]⟩]]) => ?_)
    refine O.val (v := .pointer (ofs (bl b3_2) (0))) rfl (Ru.assign rfl) rfl ?_
    refine O.nil ?_
    refine C.ret ?_
    refine P1 (v := .pointer (ofs (bl b3_2) (0))) rfl ?_
    exact ⟨b3_2, l.take 2000, (by first | rfl | exact sl_congr (by first | omega | (simp; done) | (simp; omega)) | (simp; done)), (by first | exact .inl rfl | exact .inr rfl), (by simp; omega), (hM3_2.pick [0] (by decide) rfl)⟩
  · refine C.skip ?_
    refine C.seq ?_
    refine C.region ?_
    refine O.val (v := .slice (A) ((l).length) (c)) rfl (Ru.move rfl) rfl ?_
    refine O.val (v := .agg #[.slice (A) ((l).length) (c), I (0)]) rfl (Ru.build of105 rfl rfl rfl) rfl ?_
    refine O.mbox (k := 2) (vs := [.slice (A) ((l).length) (c), I (0)]) hM rfl rfl rfl rfl rfl (fun w3_2 b3_2 hb3_2 (hM3_2 : Mem w w3_2 [] [[⟨.slice (bl b3_2) 1 1, 105, 2, 1, [.slice (A) ((l).length) (c), I (0)]⟩]]) => ?_)
    refine O.val (v := .pointer (ofs (bl b3_2) (0))) rfl (Ru.assign rfl) rfl ?_
    refine O.nil ?_
    refine C.ret ?_
    refine P1 (v := .pointer (ofs (bl b3_2) (0))) rfl ?_
    exact ⟨b3_2, l, (by first | rfl | exact sl_congr (by first | omega | (simp; done) | (simp; omega)) | (simp; done)), (.inl rfl), (by omega), (hM3_2.pick [0] (by decide) rfl)⟩

theorem inRange_fn (a : Int) (b : Int) (c : Int) (w : World) :
    Does Tryd.prog 54 [I (a), I (b), I (c)] w (fun v w1 => v = .bool (decide (b ≤ a) && decide (a ≤ c)) ∧ Mem w w1 [] []) := by
  have hM : Mem w w [] [] := Mem.refl
  refine Does.enter1 Tryd.func54 rfl Tryd.results54 Tryd.ntmps54 rfl ?_
  refine C.seq ?_
  refine C.region ?_
  refine O.val (v := .bool (false)) rfl (Ru.assign rfl) rfl ?_
  refine O.nil ?_
  refine C.seq ?_
  refine C.region ?_
  refine O.val (v := I (b)) rfl (Ru.move rfl) rfl ?_
  refine O.val (v := I (a)) rfl (Ru.move rfl) rfl ?_
  refine O.val (v := .bool (decide (b ≤ a))) rfl (Ru.leq rfl rfl) rfl ?_
  refine O.val (v := .bool (decide (b ≤ a))) rfl (Ru.move rfl) rfl ?_
  refine O.partp 10 (b ≤ a) rfl (fun g10 => ?_) (fun g10 => ?_)
  · refine O.val (v := I (a)) rfl (Ru.move rfl) rfl ?_
    refine O.val (v := I (c)) rfl (Ru.move rfl) rfl ?_
    refine O.val (v := .bool (decide (a ≤ c))) rfl (Ru.leq rfl rfl) rfl ?_
    refine O.val (v := .bool (decide (a ≤ c))) rfl (Ru.pickT rfl rfl) rfl ?_
    refine O.val (v := .bool (decide (a ≤ c))) rfl (Ru.assign rfl) rfl ?_
    refine O.nil ?_
    refine C.ret ?_
    refine P1 (v := .bool (decide (a ≤ c))) rfl ?_
    exact ⟨(by simp [g10]), (Mem.none hM)⟩
  · refine O.pass rfl rfl rfl rfl rfl ?_
    refine O.pass rfl rfl rfl rfl rfl ?_
    refine O.pass rfl rfl rfl rfl rfl ?_
    refine O.val (v := .bool (false)) rfl (Ru.pickF rfl rfl) rfl ?_
    refine O.val (v := .bool (false)) rfl (Ru.assign rfl) rfl ?_
    refine O.nil ?_
    refine C.ret ?_
    refine P1 (v := .bool (false)) rfl ?_
    exact ⟨(by simp [g10]), (Mem.none hM)⟩

theorem isKey_fn (k : Int) (w : World) :
    Does Tryd.prog 103 [I (k)] w (fun v w1 => v = .bool (isKeyB k) ∧ Mem w w1 [] []) := by
  have hM : Mem w w [] [] := Mem.refl
  refine Does.enter1 Tryd.func103 rfl Tryd.results103 Tryd.ntmps103 rfl ?_
  refine C.seq ?_
  refine C.region ?_
  refine O.val (v := .bool (false)) rfl (Ru.assign rfl) rfl ?_
  refine O.nil ?_
  refine C.seq ?_
  refine C.region ?_
  refine O.val (v := I (k)) rfl (Ru.move rfl) rfl ?_
  refine O.val (v := .bool (decide (k ≥ 0))) rfl (Ru.geq rfl rfl) rfl ?_
  refine O.val (v := .bool (decide (k ≥ 0))) rfl (Ru.move rfl) rfl ?_
  refine O.partp 5 (k ≥ 0) rfl (fun g5 => ?_) (fun g5 => ?_)
  · refine O.val (v := I (k)) rfl (Ru.move rfl) rfl ?_
    refine O.val (v := .bool (decide (k ≤ 99))) rfl (Ru.leq rfl rfl) rfl ?_
    refine O.val (v := .bool (decide (k ≤ 99))) rfl (Ru.pickT rfl rfl) rfl ?_
    refine O.val (v := .bool (decide (k ≤ 99))) rfl (Ru.assign rfl) rfl ?_
    refine O.nil ?_
    refine C.ret ?_
    refine P1 (v := .bool (decide (k ≤ 99))) rfl ?_
    exact ⟨(by simp [isKeyB, g5]), (Mem.none hM)⟩
  · refine O.pass rfl rfl rfl rfl rfl ?_
    refine O.pass rfl rfl rfl rfl rfl ?_
    refine O.val (v := .bool (false)) rfl (Ru.pickF rfl rfl) rfl ?_
    refine O.val (v := .bool (false)) rfl (Ru.assign rfl) rfl ?_
    refine O.nil ?_
    refine C.ret ?_
    refine P1 (v := .bool (false)) rfl ?_
    exact ⟨(by simp [isKeyB, g5]), (Mem.none hM)⟩

theorem isValue_fn (k : Int) (w : World) :
    Does Tryd.prog 69 [I (k)] w (fun v w1 => v = .bool (isValB k) ∧ Mem w w1 [] []) := by
  have hM : Mem w w [] [] := Mem.refl
  refine Does.enter1 Tryd.func69 rfl Tryd.results69 Tryd.ntmps69 rfl ?_
  refine C.seq ?_
  refine C.region ?_
  refine O.val (v := .bool (false)) rfl (Ru.assign rfl) rfl ?_
  refine O.nil ?_
  refine C.seq ?_
  refine C.region ?_
  refine O.val (v := I (k)) rfl (Ru.move rfl) rfl ?_
  refine O.val (v := .bool (decide (k ≥ (-1000)))) rfl (Ru.geq rfl rfl) rfl ?_
  refine O.val (v := .bool (decide (k ≥ (-1000)))) rfl (Ru.move rfl) rfl ?_
  refine O.partp 5 (k ≥ (-1000)) rfl (fun g5 => ?_) (fun g5 => ?_)
  · refine O.val (v := I (k)) rfl (Ru.move rfl) rfl ?_
    refine O.val (v := .bool (decide (k ≤ 1000))) rfl (Ru.leq rfl rfl) rfl ?_
    refine O.val (v := .bool (decide (k ≤ 1000))) rfl (Ru.pickT rfl rfl) rfl ?_
    refine O.val (v := .bool (decide (k ≤ 1000))) rfl (Ru.assign rfl) rfl ?_
    refine O.nil ?_
    refine C.ret ?_
    refine P1 (v := .bool (decide (k ≤ 1000))) rfl ?_
    exact ⟨(by simp [isValB, g5]), (Mem.none hM)⟩
  · refine O.pass rfl rfl rfl rfl rfl ?_
    refine O.pass rfl rfl rfl rfl rfl ?_
    refine O.val (v := .bool (false)) rfl (Ru.pickF rfl rfl) rfl ?_
    refine O.val (v := .bool (false)) rfl (Ru.assign rfl) rfl ?_
    refine O.nil ?_
    refine C.ret ?_
    refine P1 (v := .bool (false)) rfl ?_
    exact ⟨(by simp [isValB, g5]), (Mem.none hM)⟩

theorem ValidKeys_fn (A : Option Addr) (c : Nat) (l : List Int) (w : World) (hA : Rd w A ((l).map I)) (hl : l.length ≤ 1048576) :
    Does Tryd.prog 70 [.slice (A) ((l).length) (c)] w (fun v w1 => v = .bool (validK l) ∧ Mem w w1 [] []) := by
  have hM : Mem w w [] [] := Mem.refl
  refine Does.enter1 Tryd.func70 rfl Tryd.results70 Tryd.ntmps70 rfl ?_
  refine C.seq ?_
  refine C.region ?_
  refine O.val (v := .bool (false)) rfl (Ru.assign rfl) rfl ?_
  refine O.nil ?_
  refine C.seq ?_
  refine C.seq ?_
  refine C.region ?_
  refine O.val (v := .slice (A) ((l).length) (c)) rfl (Ru.move rfl) rfl ?_
  refine O.val (v := I ((((l).length : Nat) : Int))) rfl (Ru.blenSlice Tryd.underlying51 rfl) rfl ?_
  refine O.val (v := I (0)) rfl (Ru.move rfl) rfl ?_
  refine O.nil ?_
  refine C.block ?_
  refine C.loop (ι := Nat) (fun k => ([(0, .slice (A) ((l).length) (c)), (5, .slice (A) ((l).length) (c)), (6, I ((((l).length : Nat) : Int))), (7, I (((k : Nat) : Int)))] : List (Nat × Value))) (fun k w_ => (k ≤ l.length) ∧ ((l.take k).all isKeyB = true) ∧ (asc (l.take k) = true) ∧ (Mem w w_ [] [])) (fun k => l.length - k) (0) (Has.cons rfl (Has.cons rfl (Has.cons rfl (Has.cons (I_congr (by first | rfl | omega | (simp; omega) | simp)) Has.nil)))) ⟨(Nat.zero_le _), (by (try dsimp only); simp), (by (try dsimp only); simp [asc]), (hM.pick [] (by decide) rfl)⟩ (fun k σ w_l2 hI => ?_)
  try dsimp only at hI
  obtain ⟨hi0_l2, hi1_l2, hi2_l2, hM_l2⟩ := hI
  refine C.seq ?_
  refine C.region ?_
  refine O.val (v := .bool (decide (((k : Nat) : Int) < (((l).length : Nat) : Int)))) rfl (Ru.lss rfl rfl) rfl ?_
  refine O.nil ?_
  refine C.seq ?_
  refine C.cond (p := ((k : Nat) : Int) < (((l).length : Nat) : Int)) rfl (fun c8 => ?_) (fun c8 => ?_)
  · refine C.skip ?_
    refine C.seq ?_
    refine C.block ?_
    refine C.seq ?_
    refine C.region ?_
    refine O.val (v := I (((k : Nat) : Int))) rfl (Ru.move rfl) rfl ?_
    have hx3_1 : k < (l).length := (by first | omega | (simp; omega))
    refine O.val (v := .pointer (ofs (A) (k * 1))) rfl (Ru.indexA (j := k) Tryd.underlying51 el3 rfl rfl (smm (hA.at hM_l2) hx3_1) (by omega) (by first | omega | (simp; omega))) rfl ?_
    refine O.val rfl (Ru.load1 el3 rfl (ldm (hA.at hM_l2) hx3_1)) rfl ?_
    refine O.val (v := I (((k : Nat) : Int))) rfl (Ru.assign rfl) rfl ?_
    refine O.val (v := I ((l)[k]'hx3_1)) rfl (Ru.assign rfl) rfl ?_
    refine O.nil ?_
    refine C.seq ?_
    refine C.seq ?_
    refine C.region ?_
    refine O.val (v := I ((l)[k]'hx3_1)) rfl (Ru.move rfl) rfl ?_
    refine O.callg [I ((l)[k]'hx3_1)] rfl en103 rfl rfl (isKey_fn ((l)[k]'hx3_1) w_l2 ) ?_
    rintro _ w4_1 ⟨rfl, hR4_1⟩
    have hM4_1 : Mem w w4_1 [] [] := Mem.call (Ma := []) hM_l2 hR4_1 rfl
    refine O.val (v := .bool (!(isKeyB ((l)[k]'hx3_1)))) rfl (Ru.not rfl) rfl ?_
    refine O.nil ?_
    refine C.condn (b := (isKeyB ((l)[k]'hx3_1))) rfl (fun c14 => ?_) (fun c14 => ?_)
    · refine C.seq ?_
      refine C.region ?_
      refine O.val (v := .bool (false)) rfl (Ru.assign rfl) rfl ?_
      refine O.nil ?_
      refine C.ret ?_
      refine P1 (v := .bool (false)) rfl ?_
      exact ⟨(by rw [validK_no1 hx3_1 c14]), (Mem.none hM4_1)⟩
    · refine C.skip ?_
      refine C.seq ?_
      refine C.region ?_
      refine O.val (v := I (((k : Nat) : Int))) rfl (Ru.move rfl) rfl ?_
      refine O.val (v := .bool (decide (((k : Nat) : Int) > 0))) rfl (Ru.gtr rfl rfl) rfl ?_
      refine O.val (v := .bool (decide (((k : Nat) : Int) > 0))) rfl (Ru.move rfl) rfl ?_
      refine O.partp 17 (((k : Nat) : Int) > 0) rfl (fun g17 => ?_) (fun g17 => ?_)
      · refine O.val (v := .slice (A) ((l).length) (c)) rfl (Ru.move rfl) rfl ?_
        refine O.val (v := I (((k : Nat) : Int))) rfl (Ru.move rfl) rfl ?_
        refine O.val (v := I ((((k : Nat) : Int) - 1))) rfl (Ru.sub rfl rfl (by omega)) rfl ?_
        have hx6_6 : k - 1 < (l).length := (by first | omega | (simp; omega))
        refine O.val (v := .pointer (ofs (A) ((k - 1) * 1))) rfl (Ru.indexA (j := k - 1) Tryd.underlying51 el3 rfl rfl (smm (hA.at hM4_1) hx6_6) (by omega) (by first | omega | (simp; omega))) rfl ?_
        refine O.val rfl (Ru.load1 el3 rfl (ldm (hA.at hM4_1) hx6_6)) rfl ?_
        refine O.val (v := I ((l)[k]'hx3_1)) rfl (Ru.move rfl) rfl ?_
        refine O.val (v := .bool (decide ((l)[k - 1]'hx6_6 ≥ (l)[k]'hx3_1))) rfl (Ru.geq rfl rfl) rfl ?_
        refine O.val (v := .bool (decide ((l)[k - 1]'hx6_6 ≥ (l)[k]'hx3_1))) rfl (Ru.pickT rfl rfl) rfl ?_
        refine O.nil ?_
        refine C.cond (p := (l)[k - 1]'hx6_6 ≥ (l)[k]'hx3_1) rfl (fun c25 => ?_) (fun c25 => ?_)
        · refine C.seq ?_
          refine C.region ?_
          refine O.val (v := .bool (false)) rfl (Ru.assign rfl) rfl ?_
          refine O.nil ?_
          refine C.ret ?_
          refine P1 (v := .bool (false)) rfl ?_
          exact ⟨(by rw [validK_no2 (by omega) hx3_1 (by omega)]), (Mem.none hM4_1)⟩
        · refine C.skip ?_
          refine C.region ?_
          refine O.val (v := I ((((k + 1) : Nat) : Int))) rfl (Ru.congr (v := I ((((k : Nat) : Int) + 1))) (v' := I ((((k + 1) : Nat) : Int))) (Ru.add rfl rfl (by omega)) (I_congr (by first | omega | simp))) rfl ?_
          refine O.val (v := I ((((k + 1) : Nat) : Int))) rfl (Ru.move rfl) rfl ?_
          refine O.nil ?_
          exact loopEnd (k + 1) (by (try dsimp only); omega) (Has.cons rfl (Has.cons rfl (Has.cons rfl (Has.cons (I_congr (by first | rfl | omega | (simp; omega) | simp)) Has.nil)))) ⟨(by (try dsimp only); omega), (all_step hi1_l2 hx3_1 c14), (asc_take hi2_l2 hx3_1 (fun h0 => by omega)), (hM4_1.pick [] (by decide) rfl)⟩
      · refine O.pass rfl rfl rfl rfl rfl ?_
        refine O.pass rfl rfl rfl rfl rfl ?_
        refine O.pass rfl rfl rfl rfl rfl ?_
        refine O.pass rfl rfl rfl rfl rfl ?_
        refine O.pass rfl rfl rfl rfl rfl ?_
        refine O.pass rfl rfl rfl rfl rfl ?_
        refine O.pass rfl rfl rfl rfl rfl ?_
        refine O.val (v := .bool (false)) rfl (Ru.pickF rfl rfl) rfl ?_
        refine O.nil ?_
        refine C.condF rfl ?_
        refine C.skip ?_
        refine C.region ?_
        refine O.val (v := I ((((k + 1) : Nat) : Int))) rfl (Ru.congr (v := I ((((k : Nat) : Int) + 1))) (v' := I ((((k + 1) : Nat) : Int))) (Ru.add rfl rfl (by omega)) (I_congr (by first | omega | simp))) rfl ?_
        refine O.val (v := I ((((k + 1) : Nat) : Int))) rfl (Ru.move rfl) rfl ?_
        refine O.nil ?_
        exact loopEnd (k + 1) (by (try dsimp only); omega) (Has.cons rfl (Has.cons rfl (Has.cons rfl (Has.cons (I_congr (by first | rfl | omega | (simp; omega) | simp)) Has.nil)))) ⟨(by (try dsimp only); omega), (all_step hi1_l2 hx3_1 c14), (asc_take hi2_l2 hx3_1 (fun h0 => by omega)), (hM4_1.pick [] (by decide) rfl)⟩
  · refine C.exit ?_
    refine C.seq ?_
    refine C.region ?_
    refine O.val (v := .bool (true)) rfl (Ru.assign rfl) rfl ?_
    refine O.nil ?_
    refine C.ret ?_
    refine P1 (v := .bool (true)) rfl ?_
    exact ⟨(by rw [validK_yes hi1_l2 hi2_l2 (by omega)]), (Mem.none hM_l2)⟩

theorem allIn_fn (A : Option Addr) (c : Nat) (l : List Int) (lo : Int) (hi : Int) (w : World) (hA : Rd w A ((l).map I)) (hl : l.length ≤ 1048576) :
    Does Tryd.prog 110 [.slice (A) ((l).length) (c), I (lo), I (hi)] w (fun v w1 => v = .bool (l.all (fun a => decide (lo ≤ a) && decide (a ≤ hi))) ∧ Mem w w1 [] []) := by
  have hM : Mem w w [] [] := Mem.refl
  refine Does.enter1 Tryd.func110 rfl Tryd.results110 Tryd.ntmps110 rfl ?_
  refine C.seq ?_
  refine C.region ?_
  refine O.val (v := .bool (false)) rfl (Ru.assign rfl) rfl ?_
  refine O.nil ?_
  refine C.seq ?_
  refine C.seq ?_
  refine C.region ?_
  refine O.val (v := I (0)) rfl (Ru.assign rfl) rfl ?_
  refine O.nil ?_
  refine C.block ?_
  refine C.loop (ι := Nat) (fun k => ([(0, .slice (A) ((l).length) (c)), (1, I (lo)), (2, I (hi)), (7, I (((k : Nat) : Int)))] : List (Nat × Value))) (fun k w_ => (k ≤ l.length) ∧ ((l.take k).all (fun a => decide (lo ≤ a) && decide (a ≤ hi)) = true) ∧ (Mem w w_ [] [])) (fun k => l.length - k) (0) (Has.cons rfl (Has.cons rfl (Has.cons rfl (Has.cons (I_congr (by first | rfl | omega | (simp; omega) | simp)) Has.nil)))) ⟨(Nat.zero_le _), (by (try dsimp only); simp), (hM.pick [] (by decide) rfl)⟩ (fun k σ w_l2 hI => ?_)
  try dsimp only at hI
  obtain ⟨hi0_l2, hi1_l2, hM_l2⟩ := hI
  refine C.seq ?_
  refine C.seq ?_
  refine C.region ?_
  refine O.val (v := I (((k : Nat) : Int))) rfl (Ru.move rfl) rfl ?_
  refine O.val (v := .slice (A) ((l).length) (c)) rfl (Ru.move rfl) rfl ?_
  refine O.val (v := I ((((l).length : Nat) : Int))) rfl (Ru.blenSlice Tryd.underlying51 rfl) rfl ?_
  refine O.val (v := .bool (decide (((k : Nat) : Int) < (((l).length : Nat) : Int)))) rfl (Ru.lss rfl rfl) rfl ?_
  refine O.nil ?_
  refine C.cond (p := ((k : Nat) : Int) < (((l).length : Nat) : Int)) rfl (fun c11 => ?_) (fun c11 => ?_)
  · refine C.skip ?_
    refine C.seq ?_
    refine C.block ?_
    refine C.seq ?_
    refine C.region ?_
    refine O.val (v := .slice (A) ((l).length) (c)) rfl (Ru.move rfl) rfl ?_
    refine O.val (v := I (((k : Nat) : Int))) rfl (Ru.move rfl) rfl ?_
    have hx4_2 : k < (l).length := (by first | omega | (simp; omega))
    refine O.val (v := .pointer (ofs (A) (k * 1))) rfl (Ru.indexA (j := k) Tryd.underlying51 el3 rfl rfl (smm (hA.at hM_l2) hx4_2) (by omega) (by first | omega | (simp; omega))) rfl ?_
    refine O.val rfl (Ru.load1 el3 rfl (ldm (hA.at hM_l2) hx4_2)) rfl ?_
    refine O.val (v := I (lo)) rfl (Ru.move rfl) rfl ?_
    refine O.val (v := I (hi)) rfl (Ru.move rfl) rfl ?_
    refine O.callg [I ((l)[k]'hx4_2), I (lo), I (hi)] rfl en54 rfl rfl (inRange_fn ((l)[k]'hx4_2) lo hi w_l2 ) ?_
    rintro _ w4_6 ⟨rfl, hR4_6⟩
    have hM4_6 : Mem w w4_6 [] [] := Mem.call (Ma := []) hM_l2 hR4_6 rfl
    refine O.val (v := .bool (!(decide (lo ≤ ((l)[k]'hx4_2)) && decide (((l)[k]'hx4_2) ≤ hi)))) rfl (Ru.not rfl) rfl ?_
    refine O.nil ?_
    refine C.condn (b := (decide (lo ≤ ((l)[k]'hx4_2)) && decide (((l)[k]'hx4_2) ≤ hi))) rfl (fun c21 => ?_) (fun c21 => ?_)
    · refine C.seq ?_
      refine C.region ?_
      refine O.val (v := .bool (false)) rfl (Ru.assign rfl) rfl ?_
      refine O.nil ?_
      refine C.ret ?_
      refine P1 (v := .bool (false)) rfl ?_
      exact ⟨(by rw [all_fail (p := fun a => decide (lo ≤ a) && decide (a ≤ hi)) hx4_2 c21]), (Mem.none hM4_6)⟩
    · refine C.skip ?_
      refine C.region ?_
      refine O.val (v := I (((k : Nat) : Int))) rfl (Ru.move rfl) rfl ?_
      refine O.val (v := I ((((k + 1) : Nat) : Int))) rfl (Ru.congr (v := I ((((k : Nat) : Int) + 1))) (v' := I ((((k + 1) : Nat) : Int))) (Ru.add rfl rfl (by omega)) (I_congr (by first | omega | simp))) rfl ?_
      refine O.val (v := I ((((k + 1) : Nat) : Int))) rfl (Ru.assign rfl) rfl ?_
      refine O.nil ?_
      exact loopEnd (k + 1) (by (try dsimp only); omega) (Has.cons rfl (Has.cons rfl (Has.cons rfl (Has.cons (I_congr (by first | rfl | omega | (simp; omega) | simp)) Has.nil)))) ⟨(by (try dsimp only); omega), (all_step hi1_l2 hx4_2 c21), (hM4_6.pick [] (by decide) rfl)⟩
  · refine C.exit ?_
    refine C.seq ?_
    refine C.region ?_
    refine O.val (v := .bool (true)) rfl (Ru.assign rfl) rfl ?_
    refine O.nil ?_
    refine C.ret ?_
    refine P1 (v := .bool (true)) rfl ?_
    exact ⟨(by rw [all_end hi1_l2 (by omega)]), (Mem.none hM_l2)⟩

theorem validKeys_fn (A : Option Addr) (c : Nat) (l : List Int) (w : World) (hA : Rd w A ((l).map I)) (hl : l.length ≤ 1048576) :
    Does Tryd.prog 80 [.slice (A) ((l).length) (c)] w (fun v w1 => v = .bool (validK l) ∧ Mem w w1 [] []) := by
  have hM : Mem w w [] [] := Mem.refl
  refine Does.enter1 Tryd.func80 rfl Tryd.results80 Tryd.ntmps80 rfl ?_
  refine C.seq ?_
  refine C.region ?_
  refine O.val (v := .bool (false)) rfl (Ru.assign rfl) rfl ?_
  refine O.nil ?_
  refine C.seq ?_
  refine C.seq ?_
  refine C.region ?_
  refine O.val (v := I (1)) rfl (Ru.assign rfl) rfl ?_
  refine O.nil ?_
  refine C.block ?_
  refine C.loop (ι := Nat) (fun k => ([(0, .slice (A) ((l).length) (c)), (3, I (((k : Nat) : Int)))] : List (Nat × Value))) (fun k w_ => (1 ≤ k ∧ k ≤ l.length + 1) ∧ (asc (l.take k) = true) ∧ (Mem w w_ [] [])) (fun k => l.length + 1 - k) (1) (Has.cons rfl (Has.cons (I_congr (by first | rfl | omega | (simp; omega) | simp)) Has.nil)) ⟨(by (try dsimp only); omega), (by (try dsimp only); cases l with | nil => rfl | cons a l => simp [asc]), (hM.pick [] (by decide) rfl)⟩ (fun k σ w_l2 hI => ?_)
  try dsimp only at hI
  obtain ⟨hi0_l2, hi1_l2, hM_l2⟩ := hI
  refine C.seq ?_
  refine C.seq ?_
  refine C.region ?_
  refine O.val (v := I (((k : Nat) : Int))) rfl (Ru.move rfl) rfl ?_
  refine O.val (v := .slice (A) ((l).length) (c)) rfl (Ru.move rfl) rfl ?_
  refine O.val (v := I ((((l).length : Nat) : Int))) rfl (Ru.blenSlice Tryd.underlying51 rfl) rfl ?_
  refine O.val (v := .bool (decide (((k : Nat) : Int) < (((l).length : Nat) : Int)))) rfl (Ru.lss rfl rfl) rfl ?_
  refine O.nil ?_
  refine C.cond (p := ((k : Nat) : Int) < (((l).length : Nat) : Int)) rfl (fun c7 => ?_) (fun c7 => ?_)
  · refine C.skip ?_
    refine C.seq ?_
    refine C.block ?_
    refine C.seq ?_
    refine C.draws (fun w2 => Mem w w2 [] []) mixed (by kernel_rfl) (hM_l2.ext (kdrawn _)) ?_
    refine QO.val (v := .slice (A) ((l).length) (c)) rfl (fun w2 hw2 => Ru.move rfl) rfl ?_
    refine QO.val (v := I (((k : Nat) : Int))) rfl (fun w2 hw2 => Ru.move rfl) rfl ?_
    have hx4_2 : k < (l).length := (by first | omega | (simp; omega))
    refine QO.val (v := .pointer (ofs (A) (k * 1))) rfl (fun w2 hw2 => Ru.indexA (j := k) Tryd.underlying51 el3 rfl rfl (smm (hA.at hw2) hx4_2) (by omega) (by first | omega | (simp; omega))) rfl ?_
    refine QO.val rfl (fun w2 hw2 => Ru.load1 el3 rfl (ldm (hA.at hw2) hx4_2)) rfl ?_
    refine QO.val (v := .slice (A) ((l).length) (c)) rfl (fun w2 hw2 => Ru.move rfl) rfl ?_
    refine QO.val (v := I (((k : Nat) : Int))) rfl (fun w2 hw2 => Ru.move rfl) rfl ?_
    refine QO.val (v := I ((((k : Nat) : Int) - 1))) rfl (fun w2 hw2 => Ru.sub rfl rfl (by omega)) rfl ?_
    have hx4_7 : k - 1 < (l).length := (by first | omega | (simp; omega))
    refine QO.val (v := .pointer (ofs (A) ((k - 1) * 1))) rfl (fun w2 hw2 => Ru.indexA (j := k - 1) Tryd.underlying51 el3 rfl rfl (smm (hA.at hw2) hx4_7) (by omega) (by first | omega | (simp; omega))) rfl ?_
    refine QO.val rfl (fun w2 hw2 => Ru.load1 el3 rfl (ldm (hA.at hw2) hx4_7)) rfl ?_
    refine QO.val (v := .bool (decide ((l)[k]'hx4_2 ≤ (l)[k - 1]'hx4_7))) rfl (fun w2 hw2 => Ru.leq rfl rfl) rfl ?_
    refine QO.nil ?_
    intro w4d hM4d
    refine C.cond (p := (l)[k]'hx4_2 ≤ (l)[k - 1]'hx4_7) rfl (fun c19 => ?_) (fun c19 => ?_)
    · refine C.seq ?_
      refine C.region ?_
      refine O.val (v := .bool (false)) rfl (Ru.assign rfl) rfl ?_
      refine O.nil ?_
      refine C.ret ?_
      refine P1 (v := .bool (false)) rfl ?_
      exact ⟨(by rw [validK_no2 (by omega) hx4_2 (by omega)]), (Mem.none hM4d)⟩
    · refine C.skip ?_
      refine C.region ?_
      refine O.val (v := I (((k : Nat) : Int))) rfl (Ru.move rfl) rfl ?_
      refine O.val (v := I ((((k + 1) : Nat) : Int))) rfl (Ru.congr (v := I ((((k : Nat) : Int) + 1))) (v' := I ((((k + 1) : Nat) : Int))) (Ru.add rfl rfl (by omega)) (I_congr (by first | omega | simp))) rfl ?_
      refine O.val (v := I ((((k + 1) : Nat) : Int))) rfl (Ru.assign rfl) rfl ?_
      refine O.nil ?_
      exact loopEnd (k + 1) (by (try dsimp only); omega) (Has.cons rfl (Has.cons (I_congr (by first | rfl | omega | (simp; omega) | simp)) Has.nil)) ⟨(by (try dsimp only); omega), (asc_take hi1_l2 hx4_2 (fun h0 => by omega)), (hM4d.pick [] (by decide) rfl)⟩
  · refine C.exit ?_
    refine C.seq ?_
    refine C.region ?_
    refine O.val (v := .slice (A) ((l).length) (c)) rfl (Ru.move rfl) rfl ?_
    refine O.callg [.slice (A) ((l).length) (c), I (0), I (99)] rfl en110 rfl rfl (allIn_fn A c l 0 99 w_l2 (hA.at hM_l2) (by first | omega | assumption | (simp; omega) | simp | (intros; omega))) ?_
    rintro _ w6_1 ⟨rfl, hR6_1⟩
    have hM6_1 : Mem w w6_1 [] [] := Mem.call (Ma := []) hM_l2 hR6_1 rfl
    refine O.val (v := .bool (l.all (fun a => decide (0 ≤ a) && decide (a ≤ 99)))) rfl (Ru.assign rfl) rfl ?_
    refine O.nil ?_
    refine C.ret ?_
    refine P1 (v := .bool (l.all (fun a => decide (0 ≤ a) && decide (a ≤ 99)))) rfl ?_
    exact ⟨(by rw [validK, show asc l = true from by rwa [take_all (by omega)] at hi1_l2, Bool.and_true]; rfl), (Mem.none hM6_1)⟩

theorem isIn_fn (A : Option Addr) (c : Nat) (l : List Int) (n : Int) (w : World) (hA : Rd w A ((l).map I)) (hl : l.length ≤ 1048576) :
    Does Tryd.prog 91 [.slice (A) ((l).length) (c), I (n)] w (fun v w1 => v = .bool (decide (n ∈ l)) ∧ Mem w w1 [] []) := by
  have hM : Mem w w [] [] := Mem.refl
  refine Does.enter1 Tryd.func91 rfl Tryd.results91 Tryd.ntmps91 rfl ?_
  refine C.seq ?_
  refine C.region ?_
  refine O.val (v := .bool (false)) rfl (Ru.assign rfl) rfl ?_
  refine O.nil ?_
  refine C.seq ?_
  refine C.seq ?_
  refine C.region ?_
  refine O.val (v := I (0)) rfl (Ru.assign rfl) rfl ?_
  refine O.nil ?_
  refine C.block ?_
  refine C.loop (ι := Nat) (fun k => ([(0, .slice (A) ((l).length) (c)), (1, I (n)), (5, I (((k : Nat) : Int)))] : List (Nat × Value))) (fun k w_ => (k ≤ l.length) ∧ (∀ x ∈ l.take k, x ≠ n) ∧ (Mem w w_ [] [])) (fun k => l.length - k) (0) (Has.cons rfl (Has.cons rfl (Has.cons (I_congr (by first | rfl | omega | (simp; omega) | simp)) Has.nil))) ⟨(Nat.zero_le _), (by (try dsimp only); simp), (hM.pick [] (by decide) rfl)⟩ (fun k σ w_l2 hI => ?_)
  try dsimp only at hI
  obtain ⟨hi0_l2, hi1_l2, hM_l2⟩ := hI
  refine C.seq ?_
  refine C.seq ?_
  refine C.region ?_
  refine O.val (v := I (((k : Nat) : Int))) rfl (Ru.move rfl) rfl ?_
  refine O.val (v := .slice (A) ((l).length) (c)) rfl (Ru.move rfl) rfl ?_
  refine O.val (v := I ((((l).length : Nat) : Int))) rfl (Ru.blenSlice Tryd.underlying51 rfl) rfl ?_
  refine O.val (v := .bool (decide (((k : Nat) : Int) < (((l).length : Nat) : Int)))) rfl (Ru.lss rfl rfl) rfl ?_
  refine O.nil ?_
  refine C.cond (p := ((k : Nat) : Int) < (((l).length : Nat) : Int)) rfl (fun c9 => ?_) (fun c9 => ?_)
  · refine C.skip ?_
    refine C.seq ?_
    refine C.block ?_
    refine C.seq ?_
    refine C.region ?_
    refine O.val (v := .slice (A) ((l).length) (c)) rfl (Ru.move rfl) rfl ?_
    refine O.val (v := I (((k : Nat) : Int))) rfl (Ru.move rfl) rfl ?_
    have hx4_2 : k < (l).length := (by first | omega | (simp; omega))
    refine O.val (v := .pointer (ofs (A) (k * 1))) rfl (Ru.indexA (j := k) Tryd.underlying51 el3 rfl rfl (smm (hA.at hM_l2) hx4_2) (by omega) (by first | omega | (simp; omega))) rfl ?_
    refine O.val rfl (Ru.load1 el3 rfl (ldm (hA.at hM_l2) hx4_2)) rfl ?_
    refine O.val (v := I (n)) rfl (Ru.move rfl) rfl ?_
    refine O.val (v := .bool (decide ((l)[k]'hx4_2 = n))) rfl (Ru.eql rfl rfl) rfl ?_
    refine O.nil ?_
    refine C.cond (p := (l)[k]'hx4_2 = n) rfl (fun c17 => ?_) (fun c17 => ?_)
    · refine C.seq ?_
      refine C.region ?_
      refine O.val (v := .bool (true)) rfl (Ru.assign rfl) rfl ?_
      refine O.nil ?_
      refine C.ret ?_
      refine P1 (v := .bool (true)) rfl ?_
      exact ⟨(by rw [decide_eq_true (by rw [← c17]; exact List.getElem_mem hx4_2)]), (Mem.none hM_l2)⟩
    · refine C.skip ?_
      refine C.region ?_
      refine O.val (v := I (((k : Nat) : Int))) rfl (Ru.move rfl) rfl ?_
      refine O.val (v := I ((((k + 1) : Nat) : Int))) rfl (Ru.congr (v := I ((((k : Nat) : Int) + 1))) (v' := I ((((k + 1) : Nat) : Int))) (Ru.add rfl rfl (by omega)) (I_congr (by first | omega | simp))) rfl ?_
      refine O.val (v := I ((((k + 1) : Nat) : Int))) rfl (Ru.assign rfl) rfl ?_
      refine O.nil ?_
      exact loopEnd (k + 1) (by (try dsimp only); omega) (Has.cons rfl (Has.cons rfl (Has.cons (I_congr (by first | rfl | omega | (simp; omega) | simp)) Has.nil))) ⟨(by (try dsimp only); omega), (mem_step hi1_l2 hx4_2 c17), (hM_l2.pick [] (by decide) rfl)⟩
  · refine C.exit ?_
    refine C.seq ?_
    refine C.region ?_
    refine O.val (v := .bool (false)) rfl (Ru.assign rfl) rfl ?_
    refine O.nil ?_
    refine C.ret ?_
    refine P1 (v := .bool (false)) rfl ?_
    exact ⟨(by rw [mem_end hi1_l2 (by omega)]), (Mem.none hM_l2)⟩

theorem sbelow_fn (A : Option Addr) (c : Nat) (l : List Int) (k : Int) (w : World) (hA : Rd w A ((l).map I)) (hl : l.length ≤ 1048576) :
    Does Tryd.prog 125 [.slice (A) ((l).length) (c), I (k)] w (fun v w1 => v = I ((below l k : Int)) ∧ Mem w w1 [] []) := by
  have hM : Mem w w [] [] := Mem.refl
  refine Does.enter1 Tryd.func125 rfl Tryd.results125 Tryd.ntmps125 rfl ?_
  refine C.seq ?_
  refine C.region ?_
  refine O.val (v := I (0)) rfl (Ru.assign rfl) rfl ?_
  refine O.nil ?_
  refine C.seq ?_
  refine C.region ?_
  refine O.val (v := I (0)) rfl (Ru.assign rfl) rfl ?_
  refine O.nil ?_
  refine C.seq ?_
  refine C.block ?_
  refine C.loop (ι := Nat) (fun n => ([(0, .slice (A) ((l).length) (c)), (1, I (k)), (5, I (((n : Nat) : Int)))] : List (Nat × Value))) (fun n w_ => (n ≤ below l k) ∧ (Mem w w_ [] [])) (fun n => l.length - n) (0) (Has.cons rfl (Has.cons rfl (Has.cons (I_congr (by first | rfl | omega | (simp; omega) | simp)) Has.nil))) ⟨(Nat.zero_le _), (hM.pick [] (by decide) rfl)⟩ (fun n σ w_l2 hI => ?_)
  try dsimp only at hI
  obtain ⟨hi0_l2, hM_l2⟩ := hI
  refine C.seq ?_
  refine C.seq ?_
  refine C.region ?_
  refine O.val (v := I (((n : Nat) : Int))) rfl (Ru.move rfl) rfl ?_
  refine O.val (v := .slice (A) ((l).length) (c)) rfl (Ru.move rfl) rfl ?_
  refine O.val (v := I ((((l).length : Nat) : Int))) rfl (Ru.blenSlice Tryd.underlying51 rfl) rfl ?_
  refine O.val (v := .bool (decide (((n : Nat) : Int) < (((l).length : Nat) : Int)))) rfl (Ru.lss rfl rfl) rfl ?_
  refine O.val (v := .bool (decide (((n : Nat) : Int) < (((l).length : Nat) : Int)))) rfl (Ru.move rfl) rfl ?_
  refine O.partp 10 (((n : Nat) : Int) < (((l).length : Nat) : Int)) rfl (fun g10 => ?_) (fun g10 => ?_)
  · refine O.val (v := .slice (A) ((l).length) (c)) rfl (Ru.move rfl) rfl ?_
    refine O.val (v := I (((n : Nat) : Int))) rfl (Ru.move rfl) rfl ?_
    have hx2_7 : n < (l).length := (by first | omega | (simp; omega))
    refine O.val (v := .pointer (ofs (A) (n * 1))) rfl (Ru.indexA (j := n) Tryd.underlying51 el3 rfl rfl (smm (hA.at hM_l2) hx2_7) (by omega) (by first | omega | (simp; omega))) rfl ?_
    refine O.val rfl (Ru.load1 el3 rfl (ldm (hA.at hM_l2) hx2_7)) rfl ?_
    refine O.val (v := I (k)) rfl (Ru.move rfl) rfl ?_
    refine O.val (v := .bool (decide ((l)[n]'hx2_7 < k))) rfl (Ru.lss rfl rfl) rfl ?_
    refine O.val (v := .bool (decide ((l)[n]'hx2_7 < k))) rfl (Ru.pickT rfl rfl) rfl ?_
    refine O.nil ?_
    refine C.cond (p := (l)[n]'hx2_7 < k) rfl (fun c17 => ?_) (fun c17 => ?_)
    · refine C.skip ?_
      refine C.block ?_
      refine C.region ?_
      refine O.val (v := I (((n : Nat) : Int))) rfl (Ru.move rfl) rfl ?_
      refine O.val (v := I ((((n + 1) : Nat) : Int))) rfl (Ru.congr (v := I ((((n : Nat) : Int) + 1))) (v' := I ((((n + 1) : Nat) : Int))) (Ru.add rfl rfl (by omega)) (I_congr (by first | omega | simp))) rfl ?_
      refine O.val (v := I ((((n + 1) : Nat) : Int))) rfl (Ru.assign rfl) rfl ?_
      refine O.nil ?_
      exact loopEnd (n + 1) (by (try dsimp only); omega) (Has.cons rfl (Has.cons rfl (Has.cons (I_congr (by first | rfl | omega | (simp; omega) | simp)) Has.nil))) ⟨(below_step hi0_l2 hx2_7 c17), (hM_l2.pick [] (by decide) rfl)⟩
    · refine C.exit ?_
      refine C.seq ?_
      refine C.region ?_
      refine O.val (v := I (((n : Nat) : Int))) rfl (Ru.move rfl) rfl ?_
      refine O.val (v := I (((n : Nat) : Int))) rfl (Ru.assign rfl) rfl ?_
      refine O.nil ?_
      refine C.ret ?_
      refine P1 (v := I (((n : Nat) : Int))) rfl ?_
      exact ⟨(I_congr (by rw [below_end hi0_l2 (by first | exact .inl (by omega) | exact .inr ⟨hx2_7, by omega⟩)])), (Mem.none hM_l2)⟩
  · refine O.pass rfl rfl rfl rfl rfl ?_
    refine O.pass rfl rfl rfl rfl rfl ?_
    refine O.pass rfl rfl rfl rfl rfl ?_
    refine O.pass rfl rfl rfl rfl rfl ?_
    refine O.pass rfl rfl rfl rfl rfl ?_
    refine O.pass rfl rfl rfl rfl rfl ?_
    refine O.val (v := .bool (false)) rfl (Ru.pickF rfl rfl) rfl ?_
    refine O.nil ?_
    refine C.condF rfl ?_
    refine C.exit ?_
    refine C.seq ?_
    refine C.region ?_
    refine O.val (v := I (((n : Nat) : Int))) rfl (Ru.move rfl) rfl ?_
    refine O.val (v := I (((n : Nat) : Int))) rfl (Ru.assign rfl) rfl ?_
    refine O.nil ?_
    refine C.ret ?_
    refine P1 (v := I (((n : Nat) : Int))) rfl ?_
    exact ⟨(I_congr (by rw [below_end hi0_l2 (by first | exact .inl (by omega) | exact .inr ⟨hx2_7, by omega⟩)])), (Mem.none hM_l2)⟩

theorem supTo_fn (A : Option Addr) (c : Nat) (l : List Int) (k : Int) (w : World) (hA : Rd w A ((l).map I)) (hl : l.length ≤ 1048576) :
    Does Tryd.prog 176 [.slice (A) ((l).length) (c), I (k)] w (fun v w1 => v = I ((upTo l k : Int)) ∧ Mem w w1 [] []) := by
  have hM : Mem w w [] [] := Mem.refl
  refine Does.enter1 Tryd.func176 rfl Tryd.results176 Tryd.ntmps176 rfl ?_
  refine C.seq ?_
  refine C.region ?_
  refine O.val (v := I (0)) rfl (Ru.assign rfl) rfl ?_
  refine O.nil ?_
  refine C.seq ?_
  refine C.region ?_
  refine O.val (v := I (0)) rfl (Ru.assign rfl) rfl ?_
  refine O.nil ?_
  refine C.seq ?_
  refine C.block ?_
  refine C.loop (ι := Nat) (fun n => ([(0, .slice (A) ((l).length) (c)), (1, I (k)), (5, I (((n : Nat) : Int)))] : List (Nat × Value))) (fun n w_ => (n ≤ upTo l k) ∧ (Mem w w_ [] [])) (fun n => l.length - n) (0) (Has.cons rfl (Has.cons rfl (Has.cons (I_congr (by first | rfl | omega | (simp; omega) | simp)) Has.nil))) ⟨(Nat.zero_le _), (hM.pick [] (by decide) rfl)⟩ (fun n σ w_l2 hI => ?_)
  try dsimp only at hI
  obtain ⟨hi0_l2, hM_l2⟩ := hI
  refine C.seq ?_
  refine C.seq ?_
  refine C.region ?_
  refine O.val (v := I (((n : Nat) : Int))) rfl (Ru.move rfl) rfl ?_
  refine O.val (v := .slice (A) ((l).length) (c)) rfl (Ru.move rfl) rfl ?_
  refine O.val (v := I ((((l).length : Nat) : Int))) rfl (Ru.blenSlice Tryd.underlying51 rfl) rfl ?_
  refine O.val (v := .bool (decide (((n : Nat) : Int) < (((l).length : Nat) : Int)))) rfl (Ru.lss rfl rfl) rfl ?_
  refine O.val (v := .bool (decide (((n : Nat) : Int) < (((l).length : Nat) : Int)))) rfl (Ru.move rfl) rfl ?_
  refine O.partp 10 (((n : Nat) : Int) < (((l).length : Nat) : Int)) rfl (fun g10 => ?_) (fun g10 => ?_)
  · refine O.val (v := .slice (A) ((l).length) (c)) rfl (Ru.move rfl) rfl ?_
    refine O.val (v := I (((n : Nat) : Int))) rfl (Ru.move rfl) rfl ?_
    have hx2_7 : n < (l).length := (by first | omega | (simp; omega))
    refine O.val (v := .pointer (ofs (A) (n * 1))) rfl (Ru.indexA (j := n) Tryd.underlying51 el3 rfl rfl (smm (hA.at hM_l2) hx2_7) (by omega) (by first | omega | (simp; omega))) rfl ?_
    refine O.val rfl (Ru.load1 el3 rfl (ldm (hA.at hM_l2) hx2_7)) rfl ?_
    refine O.val (v := I (k)) rfl (Ru.move rfl) rfl ?_
    refine O.val (v := .bool (decide ((l)[n]'hx2_7 ≤ k))) rfl (Ru.leq rfl rfl) rfl ?_
    refine O.val (v := .bool (decide ((l)[n]'hx2_7 ≤ k))) rfl (Ru.pickT rfl rfl) rfl ?_
    refine O.nil ?_
    refine C.cond (p := (l)[n]'hx2_7 ≤ k) rfl (fun c17 => ?_) (fun c17 => ?_)
    · refine C.skip ?_
      refine C.block ?_
      refine C.region ?_
      refine O.val (v := I (((n : Nat) : Int))) rfl (Ru.move rfl) rfl ?_
      refine O.val (v := I ((((n + 1) : Nat) : Int))) rfl (Ru.congr (v := I ((((n : Nat) : Int) + 1))) (v' := I ((((n + 1) : Nat) : Int))) (Ru.add rfl rfl (by omega)) (I_congr (by first | omega | simp))) rfl ?_
      refine O.val (v := I ((((n + 1) : Nat) : Int))) rfl (Ru.assign rfl) rfl ?_
      refine O.nil ?_
      exact loopEnd (n + 1) (by (try dsimp only); omega) (Has.cons rfl (Has.cons rfl (Has.cons (I_congr (by first | rfl | omega | (simp; omega) | simp)) Has.nil))) ⟨(upTo_step hi0_l2 hx2_7 c17), (hM_l2.pick [] (by decide) rfl)⟩
    · refine C.exit ?_
      refine C.seq ?_
      refine C.region ?_
      refine O.val (v := I (((n : Nat) : Int))) rfl (Ru.move rfl) rfl ?_
      refine O.val (v := I (((n : Nat) : Int))) rfl (Ru.assign rfl) rfl ?_
      refine O.nil ?_
      refine C.ret ?_
      refine P1 (v := I (((n : Nat) : Int))) rfl ?_
      exact ⟨(I_congr (by rw [upTo_end hi0_l2 (by first | exact .inl (by omega) | exact .inr ⟨hx2_7, by omega⟩)])), (Mem.none hM_l2)⟩
  · refine O.pass rfl rfl rfl rfl rfl ?_
    refine O.pass rfl rfl rfl rfl rfl ?_
    refine O.pass rfl rfl rfl rfl rfl ?_
    refine O.pass rfl rfl rfl rfl rfl ?_
    refine O.pass rfl rfl rfl rfl rfl ?_
    refine O.pass rfl rfl rfl rfl rfl ?_
    refine O.val (v := .bool (false)) rfl (Ru.pickF rfl rfl) rfl ?_
    refine O.nil ?_
    refine C.condF rfl ?_
    refine C.exit ?_
    refine C.seq ?_
    refine C.region ?_
    refine O.val (v := I (((n : Nat) : Int))) rfl (Ru.move rfl) rfl ?_
    refine O.val (v := I (((n : Nat) : Int))) rfl (Ru.assign rfl) rfl ?_
    refine O.nil ?_
    refine C.ret ?_
    refine P1 (v := I (((n : Nat) : Int))) rfl ?_
    exact ⟨(I_congr (by rw [upTo_end hi0_l2 (by first | exact .inl (by omega) | exact .inr ⟨hx2_7, by omega⟩)])), (Mem.none hM_l2)⟩

theorem skeysOf_fn (A : Option Addr) (c : Nat) (l : List PairT) (w : World) (hA : Rd w A ((l).flatMap encP)) (hl : l.length ≤ 1048576) :
    Does Tryd.prog 81 [.slice (A) ((l).length) (c)] w (fun v w1 => ∃ (A1 : Option Addr) (c1 : Nat), v = .slice (A1) ((keysP l).length) (c1) ∧ Mem w w1 [] [[⟨.slice (A1) ((keysP l).length) (c1), 3, 1, ((keysP l).length), (keysP l).map I⟩]]) := by
  have hM : Mem w w [] [] := Mem.refl
  refine Does.enter1 Tryd.func81 rfl Tryd.results81 Tryd.ntmps81 rfl ?_
  refine C.seq ?_
  refine C.region ?_
  refine O.val (v := .slice (none) (0) (0)) rfl (Ru.assign rfl) rfl ?_
  refine O.nil ?_
  refine C.seq ?_
  refine C.region ?_
  refine O.mlit (sz := 1) (cs := []) hM rfl Tryd.underlying51 el3 rfl rfl rfl (by kernel_rfl) (by kernel_rfl) rfl rfl (fun w1_0 b1_0 hb1_0 (hM1_0 : Mem w w1_0 [] [[⟨.slice (bl b1_0) (0) (0), 3, 1, 0, ([]).map I⟩]]) => ?_)
  refine O.val (v := .slice (bl b1_0) (0) (0)) rfl (Ru.assign rfl) rfl ?_
  refine O.nil ?_
  refine C.seq ?_
  refine C.seq ?_
  refine C.region ?_
  refine O.val (v := I (0)) rfl (Ru.assign rfl) rfl ?_
  refine O.nil ?_
  refine C.block ?_
  have hq1 : ([] : List Int) = keysP (l.take 0) := (by first | rfl | simp | (simp; omega))
  have hMn1 : Mem w w1_0 [] [[⟨.slice (bl b1_0) ((keysP (l.take 0)).length) (0), 3, 1, ((keysP (l.take 0)).length), (keysP (l.take 0)).map I⟩]] := hM1_0.relen 0 (n' := (keysP (l.take 0)).length) (xs' := (keysP (l.take 0)).map I) rfl (by first | rfl | exact congrArg List.length hq1 | (have hqq := congrArg List.length hq1; first | omega | (simp at hqq ⊢; omega)) | (simp; done) | (simp; omega)) (congrArg (fun z_ => (z_).map I) hq1) rfl
  refine C.loop (ι := Nat × (Option Addr) × Nat) (fun x_ => ([(0, .slice (A) ((l).length) (c)), (3, .slice (x_.2.1) ((keysP (l.take x_.1)).length) (x_.2.2)), (4, I (((x_.1 : Nat) : Int)))] : List (Nat × Value))) (fun x_ w_ => (x_.1 ≤ l.length) ∧ (Mem w w_ [] [[⟨.slice (x_.2.1) ((keysP (l.take x_.1)).length) (x_.2.2), 3, 1, ((keysP (l.take x_.1)).length), (keysP (l.take x_.1)).map I⟩]])) (fun x_ => l.length - x_.1) (0, bl b1_0, 0) (Has.cons rfl (Has.cons (sl_congr (by first | rfl | omega | (simp; done) | (simp; omega) | exact congrArg List.length hq1 | (simp [← hq1]; done) | (simp [← hq1]; omega))) (Has.cons (I_congr (by first | rfl | omega | (simp; omega) | simp)) Has.nil))) ⟨(Nat.zero_le _), (hMn1.pick [0] (by decide) rfl)⟩ (fun ⟨k, A2, c2⟩ σ w_l3 hI => ?_)
  try dsimp only at hI
  obtain ⟨hi0_l3, hM_l3⟩ := hI
  have hcl0_l3 := (hM_l3.cap 0 rfl).1
  refine C.seq ?_
  refine C.seq ?_
  refine C.region ?_
  refine O.val (v := I (((k : Nat) : Int))) rfl (Ru.move rfl) rfl ?_
  refine O.val (v := .slice (A) ((l).length) (c)) rfl (Ru.move rfl) rfl ?_
  refine O.val (v := I ((((l).length : Nat) : Int))) rfl (Ru.blenSlice Tryd.underlying25 rfl) rfl ?_
  refine O.val (v := .bool (decide (((k : Nat) : Int) < (((l).length : Nat) : Int)))) rfl (Ru.lss rfl rfl) rfl ?_
  refine O.nil ?_
  refine C.cond (p := ((k : Nat) : Int) < (((l).length : Nat) : Int)) rfl (fun c9 => ?_) (fun c9 => ?_)
  · refine C.skip ?_
    refine C.seq ?_
    refine C.block ?_
    refine C.region ?_
    refine O.val (v := .slice (A2) ((keysP (l.take k)).length) (c2)) rfl (Ru.move rfl) rfl ?_
    refine O.val (v := .slice (A) ((l).length) (c)) rfl (Ru.move rfl) rfl ?_
    refine O.val (v := I (((k : Nat) : Int))) rfl (Ru.move rfl) rfl ?_
    have hx5_3 : k < (l).length := (by first | omega | (simp; omega))
    refine O.val (v := .pointer (ofs (A) (k * 2))) rfl (Ru.indexA (j := k) Tryd.underlying25 el61 rfl rfl (smf encP_len (hA.at hM_l3) hx5_3 rfl) (by omega) (by first | omega | (simp; omega))) rfl ?_
    refine O.val (v := .pointer (ofs (A) (k * 2 + 0))) rfl (Ru.fieldA fl61_0 rfl (smf encP_len (hA.at hM_l3) hx5_3 rfl)) rfl ?_
    refine O.val rfl (Ru.load1 el3 rfl (ldf encP_len (hA.at hM_l3) hx5_3 rfl)) rfl ?_
    refine O.mlit (sz := 1) (cs := [I (((l)[k]'hx5_3).key)]) hM_l3 rfl Tryd.underlying51 el3 rfl rfl rfl (by kernel_rfl) (by kernel_rfl) rfl rfl (fun w5_6 b5_6 hb5_6 (hM5_6 : Mem w w5_6 [] [[⟨.slice (bl b5_6) (1) (1), 3, 1, 1, ([((l)[k]'hx5_3).key]).map I⟩], [⟨.slice (A2) ((keysP (l.take k)).length) (c2), 3, 1, ((keysP (l.take k)).length), (keysP (l.take k)).map I⟩]]) => ?_)
    refine O.mappend (sz := 1) (news := ([((l)[k]'hx5_3).key]).map I) (m1 := (keysP (l.take k) ++ [((l)[k]'hx5_3).key]).length) (xs1 := (keysP (l.take k) ++ [((l)[k]'hx5_3).key]).map I) (M' := fun A5_7 c5_7 => [[⟨.slice (bl b5_6) (1) (1), 3, 1, 1, ([((l)[k]'hx5_3).key]).map I⟩], [⟨.slice (A5_7) ((keysP (l.take k) ++ [((l)[k]'hx5_3).key]).length) (c5_7), 3, 1, ((keysP (l.take k) ++ [((l)[k]'hx5_3).key]).length), (keysP (l.take k) ++ [((l)[k]'hx5_3).key]).map I⟩]]) 1 0 hM5_6 rfl rfl rfl Tryd.underlying51 el3 ⟨rfl, by decide⟩ rfl rfl rfl (hM5_6.rd 0 rfl) (by first | (simp; done) | (simp; omega)) (all_map_one (fun _ => rfl) _) (by first | omega | (simp; omega)) (by first | omega | (simp; omega)) (by first | (simp; done) | (simp; omega)) (by simp) (fun _ _ => rfl) (fun w5_7 A5_7 c5_7 hc5_7 hM5_7 => ?_)
    try dsimp only at hM5_7
    refine O.val (v := .slice (A5_7) ((keysP (l.take k) ++ [((l)[k]'hx5_3).key]).length) (c5_7)) rfl (Ru.assign rfl) rfl ?_
    refine O.nil ?_
    refine C.region ?_
    refine O.val (v := I (((k : Nat) : Int))) rfl (Ru.move rfl) rfl ?_
    refine O.val (v := I ((((k + 1) : Nat) : Int))) rfl (Ru.congr (v := I ((((k : Nat) : Int) + 1))) (v' := I ((((k + 1) : Nat) : Int))) (Ru.add rfl rfl (by omega)) (I_congr (by first | omega | simp))) rfl ?_
    refine O.val (v := I ((((k + 1) : Nat) : Int))) rfl (Ru.assign rfl) rfl ?_
    refine O.nil ?_
    have hq2 : (keysP (l.take k) ++ [((l)[k]'hx5_3).key] : List Int) = keysP (l.take (k + 1)) := (map_snoc hx5_3)
    have hMn2 : Mem w w5_7 [] [[⟨.slice (bl b5_6) (1) (1), 3, 1, 1, ([((l)[k]'hx5_3).key]).map I⟩], [⟨.slice (A5_7) ((keysP (l.take (k + 1))).length) (c5_7), 3, 1, ((keysP (l.take (k + 1))).length), (keysP (l.take (k + 1))).map I⟩]] := hM5_7.relen 1 (n' := (keysP (l.take (k + 1))).length) (xs' := (keysP (l.take (k + 1))).map I) rfl (by first | rfl | exact congrArg List.length hq2 | (have hqq := congrArg List.length hq2; first | omega | (simp at hqq ⊢; omega)) | (simp; done) | (simp; omega)) (congrArg (fun z_ => (z_).map I) hq2) rfl
    exact loopEnd (k + 1, A5_7, c5_7) (by (try dsimp only); omega) (Has.cons rfl (Has.cons (sl_congr (by first | rfl | omega | (simp; done) | (simp; omega) | exact congrArg List.length hq2 | (simp [← hq2]; done) | (simp [← hq2]; omega))) (Has.cons (I_congr (by first | rfl | omega | (simp; omega) | simp)) Has.nil))) ⟨(by (try dsimp only); omega), (hMn2.pick [1] (by decide) rfl)⟩
  · refine C.exit ?_
    refine C.seq ?_
    refine C.region ?_
    refine O.val (v := .slice (A2) ((keysP (l.take k)).length) (c2)) rfl (Ru.move rfl) rfl ?_
    refine O.val (v := .slice (A2) ((keysP (l.take k)).length) (c2)) rfl (Ru.assign rfl) rfl ?_
    refine O.nil ?_
    refine C.ret ?_
    refine P1 (v := .slice (A2) ((keysP (l.take k)).length) (c2)) rfl ?_
    have hq3 : (keysP (l.take k) : List Int) = keysP l := (by rw [take_all (by omega)])
    have hMn3 : Mem w w_l3 [] [[⟨.slice (A2) ((keysP l).length) (c2), 3, 1, ((keysP l).length), (keysP l).map I⟩]] := hM_l3.relen 0 (n' := (keysP l).length) (xs' := (keysP l).map I) rfl (by first | rfl | exact congrArg List.length hq3 | (have hqq := congrArg List.length hq3; first | omega | (simp at hqq ⊢; omega)) | (simp; done) | (simp; omega)) (congrArg (fun z_ => (z_).map I) hq3) rfl
    exact ⟨A2, c2, (by first | rfl | exact sl_congr (by first | omega | (simp; done) | (simp; omega)) | (simp; done)), (hMn3.pick [0] (by decide) rfl)⟩

theorem keysOfRow_fn (A : Option Addr) (c : Nat) (l : List PairT) (w : World) (hA : Rd w A ((l).flatMap encP)) (hl : l.length ≤ 1048576) :
    Does Tryd.prog 71 [.slice (A) ((l).length) (c)] w (fun v w1 => ∃ (A1 : Option Addr) (c1 : Nat), v = .slice (A1) ((keysP l).length) (c1) ∧ Mem w w1 [] [[⟨.slice (A1) ((keysP l).length) (c1), 3, 1, ((keysP l).length), (keysP l).map I⟩]]) := by
  have hM : Mem w w [] [] := Mem.refl
  refine Does.enter1 Tryd.func71 rfl Tryd.results71 Tryd.ntmps71 rfl ?_
  refine C.seq ?_
  refine C.region ?_
  refine O.val (v := .slice (none) (0) (0)) rfl (Ru.assign rfl) rfl ?_
  refine O.nil ?_
  refine C.seq ?_
  refine C.region ?_
  refine O.val (v := .slice (A) ((l).length) (c)) rfl (Ru.move rfl) rfl ?_
  refine O.val (v := I ((((l).length : Nat) : Int))) rfl (Ru.blenSlice Tryd.underlying25 rfl) rfl ?_
  refine O.mmake (k := (l).length) (sz := 1) (xs := (List.replicate ((l).length) (0 : Int)).map I) hM rfl Tryd.underlying51 el3 rfl rfl rfl rfl (by omega) (by omega) (zer_map rfl) (fun w1_2 b1_2 hb1_2 (hM1_2 : Mem w w1_2 [] [[⟨.slice (bl b1_2) ((l).length) ((l).length), 3, 1, ((l).length), (List.replicate ((l).length) (0 : Int)).map I⟩]]) => ?_)
  refine O.val (v := .slice (bl b1_2) ((l).length) ((l).length)) rfl (Ru.assign rfl) rfl ?_
  refine O.nil ?_
  refine C.seq ?_
  refine C.seq ?_
  refine C.region ?_
  refine O.val (v := .slice (A) ((l).length) (c)) rfl (Ru.move rfl) rfl ?_
  refine O.val (v := I ((((l).length : Nat) : Int))) rfl (Ru.blenSlice Tryd.underlying25 rfl) rfl ?_
  refine O.val (v := I (0)) rfl (Ru.move rfl) rfl ?_
  refine O.nil ?_
  refine C.block ?_
  have hq1 : (List.replicate ((l).length) (0 : Int) : List Int) = keysP (l.take 0) ++ List.replicate (l.length - 0) (0 : Int) := fill_zero
  have hMn1 : Mem w w1_2 [] [[⟨.slice (bl b1_2) (l.length) ((l).length), 3, 1, (l.length), (keysP (l.take 0) ++ List.replicate (l.length - 0) (0 : Int)).map I⟩]] := hM1_2.relen 0 (n' := l.length) (xs' := (keysP (l.take 0) ++ List.replicate (l.length - 0) (0 : Int)).map I) rfl (by first | rfl | exact congrArg List.length hq1 | (have hqq := congrArg List.length hq1; first | omega | (simp at hqq ⊢; omega)) | (simp; done) | (simp; omega)) (congrArg (fun z_ => (z_).map I) hq1) rfl
  refine C.loop (ι := Nat) (fun k => ([(3, .slice (bl b1_2) (l.length) (l.length)), (9, .slice (A) ((l).length) (c)), (10, I ((((l).length : Nat) : Int))), (11, I (((k : Nat) : Int)))] : List (Nat × Value))) (fun k w_ => (k ≤ l.length) ∧ (Mem w w_ [] [[⟨.slice (bl b1_2) (l.length) (l.length), 3, 1, (l.length), (keysP (l.take k) ++ List.replicate (l.length - k) (0 : Int)).map I⟩]])) (fun k => l.length - k) (0) (Has.cons (sl_congr (by first | rfl | omega | (simp; done) | (simp; omega) | exact congrArg List.length hq1 | (simp [← hq1]; done) | (simp [← hq1]; omega))) (Has.cons rfl (Has.cons rfl (Has.cons (I_congr (by first | rfl | omega | (simp; omega) | simp)) Has.nil)))) ⟨(Nat.zero_le _), (hMn1.pick [0] (by decide) rfl)⟩ (fun k σ w_l3 hI => ?_)
  try dsimp only at hI
  obtain ⟨hi0_l3, hM_l3⟩ := hI
  have hcl0_l3 := (hM_l3.cap 0 rfl).1
  refine C.seq ?_
  refine C.region ?_
  refine O.val (v := .bool (decide (((k : Nat) : Int) < (((l).length : Nat) : Int)))) rfl (Ru.lss rfl rfl) rfl ?_
  refine O.nil ?_
  refine C.seq ?_
  refine C.cond (p := ((k : Nat) : Int) < (((l).length : Nat) : Int)) rfl (fun c12 => ?_) (fun c12 => ?_)
  · refine C.skip ?_
    refine C.seq ?_
    refine C.block ?_
    refine C.seq ?_
    refine C.region ?_
    refine O.val (v := I (((k : Nat) : Int))) rfl (Ru.move rfl) rfl ?_
    have hx4_1 : k < (l).length := (by first | omega | (simp; omega))
    refine O.val (v := .pointer (ofs (A) (k * 2))) rfl (Ru.indexA (j := k) Tryd.underlying25 el61 rfl rfl (smf encP_len (hA.at hM_l3) hx4_1 rfl) (by omega) (by first | omega | (simp; omega))) rfl ?_
    refine O.val rfl (Ru.loadN (vs := [I (((l)[k]'hx4_1).key), I (((l)[k]'hx4_1).val)]) el61 rfl rfl (smf encP_len (hA.at hM_l3) hx4_1 rfl) (ldn encP_len (hA.at hM_l3) hx4_1)) rfl ?_
    refine O.malloc (k := 2) hM_l3 rfl rfl el61 rfl (fun w4_3 b4_3 hb4_3 (hM4_3 : Mem w w4_3 [] [[⟨.slice (bl b4_3) 1 1, 61, 2, 1, [I (0), I (0)]⟩], [⟨.slice (bl b1_2) (l.length) (l.length), 3, 1, (l.length), (keysP (l.take k) ++ List.replicate (l.length - k) (0 : Int)).map I⟩]]) => ?_)
    refine O.val (v := I (((k : Nat) : Int))) rfl (Ru.assign rfl) rfl ?_
    refine O.mstore (vs := [I (((l)[k]'hx4_1).key), I (((l)[k]'hx4_1).val)]) (xs' := [I (((l)[k]'hx4_1).key), I (((l)[k]'hx4_1).val)]) 0 0 hM4_3 rfl rfl rfl el61 rfl rfl rfl rfl rfl (by simp) (by simp) rfl rfl (fun w4_5 (hM4_5 : Mem w w4_5 [] [[⟨.slice (bl b4_3) 1 1, 61, 2, 1, [I (((l)[k]'hx4_1).key), I (((l)[k]'hx4_1).val)]⟩], [⟨.slice (bl b1_2) (l.length) (l.length), 3, 1, (l.length), (keysP (l.take k) ++ List.replicate (l.length - k) (0 : Int)).map I⟩]]) => ?_)
    refine O.nil ?_
    refine C.region ?_
    refine O.val (v := .slice (bl b1_2) (l.length) (l.length)) rfl (Ru.move rfl) rfl ?_
    refine O.val (v := I (((k : Nat) : Int))) rfl (Ru.move rfl) rfl ?_
    refine O.val (v := .pointer (ofs (bl b4_3) (0))) rfl (Ru.fieldA fl61_0 rfl rfl) rfl ?_
    refine O.val rfl (Ru.load1 el3 rfl ((hM4_5.rd 0 rfl).ld rfl)) rfl ?_
    have hx5_4 : k < (keysP (l.take k) ++ List.replicate (l.length - k) (0 : Int)).length := (by rw [fill_len hi0_l3]; exact hx4_1)
    refine O.val (v := .pointer (ofs (bl b1_2) (k * 1))) rfl (Ru.indexA (j := k) Tryd.underlying51 el3 rfl rfl (smm (hM4_5.rd 1 rfl) hx5_4) (by omega) (by omega)) rfl ?_
    refine O.mstore (vs := [I (((l)[k]'hx4_1).key)]) (xs' := ((keysP (l.take k) ++ List.replicate (l.length - k) (0 : Int)).set (k) (((l)[k]'hx4_1).key)).map I) 1 0 hM4_5 rfl rfl rfl el3 rfl rfl rfl rfl rfl (by simp; omega) (by simp) (spl_map (l := keysP (l.take k) ++ List.replicate (l.length - k) (0 : Int)) (a := ((l)[k]'hx4_1).key) hx5_4) rfl (fun w5_5 (hM5_5 : Mem w w5_5 [] [[⟨.slice (bl b4_3) 1 1, 61, 2, 1, [I (((l)[k]'hx4_1).key), I (((l)[k]'hx4_1).val)]⟩], [⟨.slice (bl b1_2) (l.length) (l.length), 3, 1, (l.length), ((keysP (l.take k) ++ List.replicate (l.length - k) (0 : Int)).set (k) (((l)[k]'hx4_1).key)).map I⟩]]) => ?_)
    refine O.nil ?_
    refine C.region ?_
    refine O.val (v := I ((((k + 1) : Nat) : Int))) rfl (Ru.congr (v := I ((((k : Nat) : Int) + 1))) (v' := I ((((k + 1) : Nat) : Int))) (Ru.add rfl rfl (by omega)) (I_congr (by first | omega | simp))) rfl ?_
    refine O.val (v := I ((((k + 1) : Nat) : Int))) rfl (Ru.move rfl) rfl ?_
    refine O.nil ?_
    have hq2 : ((keysP (l.take k) ++ List.replicate (l.length - k) (0 : Int)).set (k) (((l)[k]'hx4_1).key) : List Int) = keysP (l.take (k + 1)) ++ List.replicate (l.length - (k + 1)) (0 : Int) := (fill_set hx4_1)
    have hMn2 : Mem w w5_5 [] [[⟨.slice (bl b4_3) 1 1, 61, 2, 1, [I (((l)[k]'hx4_1).key), I (((l)[k]'hx4_1).val)]⟩], [⟨.slice (bl b1_2) (l.length) (l.length), 3, 1, (l.length), (keysP (l.take (k + 1)) ++ List.replicate (l.length - (k + 1)) (0 : Int)).map I⟩]] := hM5_5.relen 1 (n' := l.length) (xs' := (keysP (l.take (k + 1)) ++ List.replicate (l.length - (k + 1)) (0 : Int)).map I) rfl (by first | rfl | exact congrArg List.length hq2 | (have hqq := congrArg List.length hq2; first | omega | (simp at hqq ⊢; omega)) | (simp; done) | (simp; omega)) (congrArg (fun z_ => (z_).map I) hq2) rfl
    exact loopEnd (k + 1) (by (try dsimp only); omega) (Has.cons rfl (Has.cons rfl (Has.cons rfl (Has.cons (I_congr (by first | rfl | omega | (simp; omega) | simp)) Has.nil)))) ⟨(by (try dsimp only); omega), (hMn2.pick [1] (by decide) rfl)⟩
  · refine C.exit ?_
    refine C.seq ?_
    refine C.region ?_
    refine O.val (v := .slice (bl b1_2) (l.length) (l.length)) rfl (Ru.move rfl) rfl ?_
    refine O.val (v := .slice (bl b1_2) (l.length) (l.length)) rfl (Ru.assign rfl) rfl ?_
    refine O.nil ?_
    refine C.ret ?_
    refine P1 (v := .slice (bl b1_2) (l.length) (l.length)) rfl ?_
    have hq3 : (keysP (l.take k) ++ List.replicate (l.length - k) (0 : Int) : List Int) = keysP l := (fill_all (by omega))
    have hMn3 : Mem w w_l3 [] [[⟨.slice (bl b1_2) ((keysP l).length) (l.length), 3, 1, ((keysP l).length), (keysP l).map I⟩]] := hM_l3.relen 0 (n' := (keysP l).length) (xs' := (keysP l).map I) rfl (by first | rfl | exact congrArg List.length hq3 | (have hqq := congrArg List.length hq3; first | omega | (simp at hqq ⊢; omega)) | (simp; done) | (simp; omega)) (congrArg (fun z_ => (z_).map I) hq3) rfl
    exact ⟨bl b1_2, l.length, (by first | rfl | exact sl_congr (by first | omega | (simp; done) | (simp; omega)) | (simp; done)), (hMn3.pick [0] (by decide) rfl)⟩

theorem scopyRow_fn (A : Option Addr) (c : Nat) (l : List PairT) (w : World) (hA : Rd w A ((l).flatMap encP)) (hl : l.length ≤ 1048576) :
    Does Tryd.prog 126 [.slice (A) ((l).length) (c)] w (fun v w1 => ∃ (A1 : Option Addr) (c1 : Nat), v = .slice (A1) ((l).length) (c1) ∧ Mem w w1 [] [[⟨.slice (A1) ((l).length) (c1), 61, 2, ((l).length), (l).flatMap encP⟩]]) := by
  have hM : Mem w w [] [] := Mem.refl
  refine Does.enter1 Tryd.func126 rfl Tryd.results126 Tryd.ntmps126 rfl ?_
  refine C.seq ?_
  refine C.region ?_
  refine O.val (v := .slice (none) (0) (0)) rfl (Ru.assign rfl) rfl ?_
  refine O.nil ?_
  refine C.seq ?_
  refine C.region ?_
  refine O.mlit (sz := 2) (cs := []) hM rfl Tryd.underlying25 el61 rfl rfl rfl (by kernel_rfl) (by kernel_rfl) rfl rfl (fun w1_0 b1_0 hb1_0 (hM1_0 : Mem w w1_0 [] [[⟨.slice (bl b1_0) (0) (0), 61, 2, 0, ([]).flatMap encP⟩]]) => ?_)
  refine O.val (v := .slice (A) ((l).length) (c)) rfl (Ru.move rfl) rfl ?_
  refine O.mappend (sz := 2) (news := (l).flatMap encP) (m1 := (l).length) (xs1 := (l).flatMap encP) (M' := fun A1_2 c1_2 => [[⟨.slice (A1_2) ((l).length) (c1_2), 61, 2, ((l).length), (l).flatMap encP⟩]]) 0 0 hM1_0 rfl rfl rfl Tryd.underlying25 el61 ⟨rfl, by decide⟩ rfl rfl rfl (hA.at hM1_0) (by rw [flat_len encP_len]; first | done | (simp; done) | (simp; omega)) (all_flat_one (fun _ => rfl) _) (by first | omega | (simp; omega)) (by first | omega | (simp; omega)) (by first | (simp; done) | (simp; omega)) (by simp) (fun _ _ => rfl) (fun w1_2 A1_2 c1_2 hc1_2 hM1_2 => ?_)
  try dsimp only at hM1_2
  refine O.val (v := .slice (A1_2) ((l).length) (c1_2)) rfl (Ru.assign rfl) rfl ?_
  refine O.nil ?_
  refine C.ret ?_
  refine P1 (v := .slice (A1_2) ((l).length) (c1_2)) rfl ?_
  exact ⟨A1_2, c1_2, (by first | rfl | exact sl_congr (by first | omega | (simp; done) | (simp; omega)) | (simp; done)), (hM1_2.pick [0] (by decide) rfl)⟩

theorem scopyInts_fn (A : Option Addr) (c : Nat) (l : List Int) (w : World) (hA : Rd w A ((l).map I)) (hl : l.length ≤ 1048576) :
    Does Tryd.prog 101 [.slice (A) ((l).length) (c)] w (fun v w1 => ∃ (A1 : Option Addr) (c1 : Nat), v = .slice (A1) ((l).length) (c1) ∧ Mem w w1 [] [[⟨.slice (A1) ((l).length) (c1), 3, 1, ((l).length), (l).map I⟩]]) := by
  have hM : Mem w w [] [] := Mem.refl
  refine Does.enter1 Tryd.func101 rfl Tryd.results101 Tryd.ntmps101 rfl ?_
  refine C.seq ?_
  refine C.region ?_
  refine O.val (v := .slice (none) (0) (0)) rfl (Ru.assign rfl) rfl ?_
  refine O.nil ?_
  refine C.seq ?_
  refine C.region ?_
  refine O.mlit (sz := 1) (cs := []) hM rfl Tryd.underlying51 el3 rfl rfl rfl (by kernel_rfl) (by kernel_rfl) rfl rfl (fun w1_0 b1_0 hb1_0 (hM1_0 : Mem w w1_0 [] [[⟨.slice (bl b1_0) (0) (0), 3, 1, 0, ([]).map I⟩]]) => ?_)
  refine O.val (v := .slice (A) ((l).length) (c)) rfl (Ru.move rfl) rfl ?_
  refine O.mappend (sz := 1) (news := (l).map I) (m1 := (l).length) (xs1 := (l).map I) (M' := fun A1_2 c1_2 => [[⟨.slice (A1_2) ((l).length) (c1_2), 3, 1, ((l).length), (l).map I⟩]]) 0 0 hM1_0 rfl rfl rfl Tryd.underlying51 el3 ⟨rfl, by decide⟩ rfl rfl rfl (hA.at hM1_0) (by first | (simp; done) | (simp; omega)) (all_map_one (fun _ => rfl) _) (by first | omega | (simp; omega)) (by first | omega | (simp; omega)) (by first | (simp; done) | (simp; omega)) (by simp) (fun _ _ => rfl) (fun w1_2 A1_2 c1_2 hc1_2 hM1_2 => ?_)
  try dsimp only at hM1_2
  refine O.val (v := .slice (A1_2) ((l).length) (c1_2)) rfl (Ru.assign rfl) rfl ?_
  refine O.nil ?_
  refine C.ret ?_
  refine P1 (v := .slice (A1_2) ((l).length) (c1_2)) rfl ?_
  exact ⟨A1_2, c1_2, (by first | rfl | exact sl_congr (by first | omega | (simp; done) | (simp; omega)) | (simp; done)), (hM1_2.pick [0] (by decide) rfl)⟩

theorem ValidRow_fn (A : Option Addr) (c : Nat) (l : List PairT) (w : World) (hA : Rd w A ((l).flatMap encP)) (hl : l.length ≤ 1048576) :
    Does Tryd.prog 34 [.slice (A) ((l).length) (c)] w (fun v w1 => v = .bool (validR l) ∧ Mem w w1 [] []) := by
  have hM : Mem w w [] [] := Mem.refl
  refine Does.enter1 Tryd.func34 rfl Tryd.results34 Tryd.ntmps34 rfl ?_
  refine C.seq ?_
  refine C.region ?_
  refine O.val (v := .bool (false)) rfl (Ru.assign rfl) rfl ?_
  refine O.nil ?_
  refine C.seq ?_
  refine C.seq ?_
  refine C.region ?_
  refine O.val (v := .slice (A) ((l).length) (c)) rfl (Ru.move rfl) rfl ?_
  refine O.val (v := I ((((l).length : Nat) : Int))) rfl (Ru.blenSlice Tryd.underlying25 rfl) rfl ?_
  refine O.val (v := .bool (decide ((((l).length : Nat) : Int) > 24))) rfl (Ru.gtr rfl rfl) rfl ?_
  refine O.nil ?_
  refine C.cond (p := (((l).length : Nat) : Int) > 24) rfl (fun c7 => ?_) (fun c7 => ?_)
  · refine C.seq ?_
    refine C.region ?_
    refine O.val (v := .bool (false)) rfl (Ru.assign rfl) rfl ?_
    refine O.nil ?_
    refine C.ret ?_
    refine P1 (v := .bool (false)) rfl ?_
    exact ⟨(by simp [validR]; omega), (Mem.none hM)⟩
  · refine C.skip ?_
    refine C.seq ?_
    refine C.seq ?_
    refine C.region ?_
    refine O.val (v := .slice (A) ((l).length) (c)) rfl (Ru.move rfl) rfl ?_
    refine O.val (v := I ((((l).length : Nat) : Int))) rfl (Ru.blenSlice Tryd.underlying25 rfl) rfl ?_
    refine O.val (v := I (0)) rfl (Ru.move rfl) rfl ?_
    refine O.nil ?_
    refine C.block ?_
    refine C.loop (ι := Nat) (fun k => ([(0, .slice (A) ((l).length) (c)), (8, .slice (A) ((l).length) (c)), (9, I ((((l).length : Nat) : Int))), (10, I (((k : Nat) : Int)))] : List (Nat × Value))) (fun k w_ => (k ≤ l.length) ∧ ((l.take k).all (fun p => isValB p.val) = true) ∧ (Mem w w_ [] [])) (fun k => l.length - k) (0) (Has.cons rfl (Has.cons rfl (Has.cons rfl (Has.cons (I_congr (by first | rfl | omega | (simp; omega) | simp)) Has.nil)))) ⟨(Nat.zero_le _), (by (try dsimp only); simp), (hM.pick [] (by decide) rfl)⟩ (fun k σ w_l4 hI => ?_)
    try dsimp only at hI
    obtain ⟨hi0_l4, hi1_l4, hM_l4⟩ := hI
    refine C.seq ?_
    refine C.region ?_
    refine O.val (v := .bool (decide (((k : Nat) : Int) < (((l).length : Nat) : Int)))) rfl (Ru.lss rfl rfl) rfl ?_
    refine O.nil ?_
    refine C.seq ?_
    refine C.cond (p := ((k : Nat) : Int) < (((l).length : Nat) : Int)) rfl (fun c11 => ?_) (fun c11 => ?_)
    · refine C.skip ?_
      refine C.seq ?_
      refine C.block ?_
      refine C.seq ?_
      refine C.region ?_
      have hx5_0 : k < (l).length := (by first | omega | (simp; omega))
      refine O.val (v := .pointer (ofs (A) (k * 2))) rfl (Ru.indexA (j := k) Tryd.underlying25 el61 rfl rfl (smf encP_len (hA.at hM_l4) hx5_0 rfl) (by omega) (by first | omega | (simp; omega))) rfl ?_
      refine O.val rfl (Ru.loadN (vs := [I (((l)[k]'hx5_0).key), I (((l)[k]'hx5_0).val)]) el61 rfl rfl (smf encP_len (hA.at hM_l4) hx5_0 rfl) (ldn encP_len (hA.at hM_l4) hx5_0)) rfl ?_
      refine O.malloc (k := 2) hM_l4 rfl rfl el61 rfl (fun w5_2 b5_2 hb5_2 (hM5_2 : Mem w w5_2 [] [[⟨.slice (bl b5_2) 1 1, 61, 2, 1, [I (0), I (0)]⟩]]) => ?_)
      refine O.mstore (vs := [I (((l)[k]'hx5_0).key), I (((l)[k]'hx5_0).val)]) (xs' := [I (((l)[k]'hx5_0).key), I (((l)[k]'hx5_0).val)]) 0 0 hM5_2 rfl rfl rfl el61 rfl rfl rfl rfl rfl (by simp) (by simp) rfl rfl (fun w5_3 (hM5_3 : Mem w w5_3 [] [[⟨.slice (bl b5_2) 1 1, 61, 2, 1, [I (((l)[k]'hx5_0).key), I (((l)[k]'hx5_0).val)]⟩]]) => ?_)
      refine O.nil ?_
      refine C.seq ?_
      refine C.region ?_
      refine O.val (v := .pointer (ofs (bl b5_2) (1))) rfl (Ru.fieldA fl61_1 rfl rfl) rfl ?_
      refine O.val rfl (Ru.load1 el3 rfl ((hM5_3.rd 0 rfl).ld rfl)) rfl ?_
      refine O.callg [I (((l)[k]'hx5_0).val)] rfl en69 rfl rfl (isValue_fn (((l)[k]'hx5_0).val) w5_3 ) ?_
      rintro _ w6_2 ⟨rfl, hR6_2⟩
      have hM6_2 : Mem w w6_2 [] [[⟨.slice (bl b5_2) 1 1, 61, 2, 1, [I (((l)[k]'hx5_0).key), I (((l)[k]'hx5_0).val)]⟩]] := Mem.call (Ma := []) hM5_3 hR6_2 rfl
      refine O.val (v := .bool (!(isValB (((l)[k]'hx5_0).val)))) rfl (Ru.not rfl) rfl ?_
      refine O.nil ?_
      refine C.condn (b := (isValB (((l)[k]'hx5_0).val))) rfl (fun c17 => ?_) (fun c17 => ?_)
      · refine C.seq ?_
        refine C.region ?_
        refine O.val (v := .bool (false)) rfl (Ru.assign rfl) rfl ?_
        refine O.nil ?_
        refine C.ret ?_
        refine P1 (v := .bool (false)) rfl ?_
        exact ⟨(by rw [validR_no hx5_0 c17]), (Mem.none hM6_2)⟩
      · refine C.skip ?_
        refine C.region ?_
        refine O.val (v := I ((((k + 1) : Nat) : Int))) rfl (Ru.congr (v := I ((((k : Nat) : Int) + 1))) (v' := I ((((k + 1) : Nat) : Int))) (Ru.add rfl rfl (by omega)) (I_congr (by first | omega | simp))) rfl ?_
        refine O.val (v := I ((((k + 1) : Nat) : Int))) rfl (Ru.move rfl) rfl ?_
        refine O.nil ?_
        exact loopEnd (k + 1) (by (try dsimp only); omega) (Has.cons rfl (Has.cons rfl (Has.cons rfl (Has.cons (I_congr (by first | rfl | omega | (simp; omega) | simp)) Has.nil)))) ⟨(by (try dsimp only); omega), (all_step hi1_l4 hx5_0 c17), (hM6_2.pick [] (by decide) rfl)⟩
    · refine C.exit ?_
      refine C.seq ?_
      refine C.region ?_
      refine O.val (v := .slice (A) ((l).length) (c)) rfl (Ru.move rfl) rfl ?_
      refine O.callg [.slice (A) ((l).length) (c)] rfl en71 rfl rfl (keysOfRow_fn A c l w_l4 (hA.at hM_l4) (by first | omega | assumption | (simp; omega) | simp | (intros; omega))) ?_
      rintro _ w9_1 ⟨A19_1, c19_1, rfl, hR9_1⟩
      have hM9_1 : Mem w w9_1 [] [[⟨.slice (A19_1) ((keysP l).length) (c19_1), 3, 1, ((keysP l).length), (keysP l).map I⟩]] := Mem.call (Ma := []) hM_l4 hR9_1 rfl
      have hcr9_1_0 := (hM9_1.cap 0 rfl).1
      refine O.callg [.slice (A19_1) ((keysP l).length) (c19_1)] rfl en70 rfl rfl (ValidKeys_fn A19_1 c19_1 (keysP l) w9_1 (hM9_1.rd 0 rfl) (by first | omega | assumption | (simp; omega) | simp | (intros; omega))) ?_
      rintro _ w9_2 ⟨rfl, hR9_2⟩
      have hM9_2 : Mem w w9_2 [] [[⟨.slice (A19_1) ((keysP l).length) (c19_1), 3, 1, ((keysP l).length), (keysP l).map I⟩]] := Mem.call (Ma := []) hM9_1 hR9_2 rfl
      refine O.val (v := .bool (validK (keysP l))) rfl (Ru.assign rfl) rfl ?_
      refine O.nil ?_
      refine C.ret ?_
      refine P1 (v := .bool (validK (keysP l))) rfl ?_
      exact ⟨(by rw [validR, all_end hi1_l4 (by omega), decide_eq_true (by omega)]; simp), (Mem.none hM9_2)⟩

theorem validRow_fn (A : Option Addr) (c : Nat) (l : List PairT) (w : World) (hA : Rd w A ((l).flatMap encP)) (hl : l.length ≤ 1048576) :
    Does Tryd.prog 42 [.slice (A) ((l).length) (c)] w (fun v w1 => v = .bool (validR l) ∧ Mem w w1 [] []) := by
  have hM : Mem w w [] [] := Mem.refl
  refine Does.enter1 Tryd.func42 rfl Tryd.results42 Tryd.ntmps42 rfl ?_
  refine C.seq ?_
  refine C.region ?_
  refine O.val (v := .bool (false)) rfl (Ru.assign rfl) rfl ?_
  refine O.nil ?_
  refine C.seq ?_
  refine C.seq ?_
  refine C.region ?_
  refine O.val (v := I (0)) rfl (Ru.assign rfl) rfl ?_
  refine O.nil ?_
  refine C.block ?_
  refine C.loop (ι := Nat) (fun k => ([(0, .slice (A) ((l).length) (c)), (3, I (((k : Nat) : Int)))] : List (Nat × Value))) (fun k w_ => (k ≤ l.length) ∧ ((l.take k).all (fun p => isValB p.val) = true) ∧ (Mem w w_ [] [])) (fun k => l.length - k) (0) (Has.cons rfl (Has.cons (I_congr (by first | rfl | omega | (simp; omega) | simp)) Has.nil)) ⟨(Nat.zero_le _), (by (try dsimp only); simp), (hM.pick [] (by decide) rfl)⟩ (fun k σ w_l2 hI => ?_)
  try dsimp only at hI
  obtain ⟨hi0_l2, hi1_l2, hM_l2⟩ := hI
  refine C.seq ?_
  refine C.seq ?_
  refine C.region ?_
  refine O.val (v := I (((k : Nat) : Int))) rfl (Ru.move rfl) rfl ?_
  refine O.val (v := .slice (A) ((l).length) (c)) rfl (Ru.move rfl) rfl ?_
  refine O.val (v := I ((((l).length : Nat) : Int))) rfl (Ru.blenSlice Tryd.underlying25 rfl) rfl ?_
  refine O.val (v := .bool (decide (((k : Nat) : Int) < (((l).length : Nat) : Int)))) rfl (Ru.lss rfl rfl) rfl ?_
  refine O.nil ?_
  refine C.cond (p := ((k : Nat) : Int) < (((l).length : Nat) : Int)) rfl (fun c7 => ?_) (fun c7 => ?_)
  · refine C.skip ?_
    refine C.seq ?_
    refine C.block ?_
    refine C.seq ?_
    refine C.region ?_
    refine O.val (v := .slice (A) ((l).length) (c)) rfl (Ru.move rfl) rfl ?_
    refine O.val (v := I (((k : Nat) : Int))) rfl (Ru.move rfl) rfl ?_
    have hx4_2 : k < (l).length := (by first | omega | (simp; omega))
    refine O.val (v := .pointer (ofs (A) (k * 2))) rfl (Ru.indexA (j := k) Tryd.underlying25 el61 rfl rfl (smf encP_len (hA.at hM_l2) hx4_2 rfl) (by omega) (by first | omega | (simp; omega))) rfl ?_
    refine O.val (v := .pointer (ofs (A) (k * 2 + 1))) rfl (Ru.fieldA fl61_1 rfl (smf encP_len (hA.at hM_l2) hx4_2 rfl)) rfl ?_
    refine O.val rfl (Ru.load1 el3 rfl (ldf encP_len (hA.at hM_l2) hx4_2 rfl)) rfl ?_
    refine O.callg [I (((l)[k]'hx4_2).val), I ((-1000)), I (1000)] rfl en54 rfl rfl (inRange_fn (((l)[k]'hx4_2).val) (-1000) 1000 w_l2 ) ?_
    rintro _ w4_5 ⟨rfl, hR4_5⟩
    have hM4_5 : Mem w w4_5 [] [] := Mem.call (Ma := []) hM_l2 hR4_5 rfl
    refine O.val (v := .bool (!(decide ((-1000) ≤ (((l)[k]'hx4_2).val)) && decide ((((l)[k]'hx4_2).val) ≤ 1000)))) rfl (Ru.not rfl) rfl ?_
    refine O.nil ?_
    refine C.condn (b := (decide ((-1000) ≤ (((l)[k]'hx4_2).val)) && decide ((((l)[k]'hx4_2).val) ≤ 1000))) rfl (fun c16 => ?_) (fun c16 => ?_)
    · refine C.seq ?_
      refine C.region ?_
      refine O.val (v := .bool (false)) rfl (Ru.assign rfl) rfl ?_
      refine O.nil ?_
      refine C.ret ?_
      refine P1 (v := .bool (false)) rfl ?_
      exact ⟨(by rw [validR_no hx4_2 c16]), (Mem.none hM4_5)⟩
    · refine C.skip ?_
      refine C.region ?_
      refine O.val (v := I (((k : Nat) : Int))) rfl (Ru.move rfl) rfl ?_
      refine O.val (v := I ((((k + 1) : Nat) : Int))) rfl (Ru.congr (v := I ((((k : Nat) : Int) + 1))) (v' := I ((((k + 1) : Nat) : Int))) (Ru.add rfl rfl (by omega)) (I_congr (by first | omega | simp))) rfl ?_
      refine O.val (v := I ((((k + 1) : Nat) : Int))) rfl (Ru.assign rfl) rfl ?_
      refine O.nil ?_
      exact loopEnd (k + 1) (by (try dsimp only); omega) (Has.cons rfl (Has.cons (I_congr (by first | rfl | omega | (simp; omega) | simp)) Has.nil)) ⟨(by (try dsimp only); omega), (all_step hi1_l2 hx4_2 c16), (hM4_5.pick [] (by decide) rfl)⟩
  · refine C.exit ?_
    refine C.seq ?_
    refine C.region ?_
    refine O.val (v := .slice (A) ((l).length) (c)) rfl (Ru.move rfl) rfl ?_
    refine O.val (v := I ((((l).length : Nat) : Int))) rfl (Ru.blenSlice Tryd.underlying25 rfl) rfl ?_
    refine O.val (v := .bool (decide ((((l).length : Nat) : Int) ≤ 24))) rfl (Ru.leq rfl rfl) rfl ?_
    refine O.val (v := .bool (decide ((((l).length : Nat) : Int) ≤ 24))) rfl (Ru.move rfl) rfl ?_
    refine O.partp 20 ((((l).length : Nat) : Int) ≤ 24) rfl (fun g20 => ?_) (fun g20 => ?_)
    · refine O.val (v := .slice (A) ((l).length) (c)) rfl (Ru.move rfl) rfl ?_
      refine O.callg [.slice (A) ((l).length) (c)] rfl en81 rfl rfl (skeysOf_fn A c l w_l2 (hA.at hM_l2) (by first | omega | assumption | (simp; omega) | simp | (intros; omega))) ?_
      rintro _ w6_5 ⟨A16_5, c16_5, rfl, hR6_5⟩
      have hM6_5 : Mem w w6_5 [] [[⟨.slice (A16_5) ((keysP l).length) (c16_5), 3, 1, ((keysP l).length), (keysP l).map I⟩]] := Mem.call (Ma := []) hM_l2 hR6_5 rfl
      have hcr6_5_0 := (hM6_5.cap 0 rfl).1
      refine O.callg [.slice (A16_5) ((keysP l).length) (c16_5)] rfl en80 rfl rfl (validKeys_fn A16_5 c16_5 (keysP l) w6_5 (hM6_5.rd 0 rfl) (by first | omega | assumption | (simp; omega) | simp | (intros; omega))) ?_
      rintro _ w6_6 ⟨rfl, hR6_6⟩
      have hM6_6 : Mem w w6_6 [] [[⟨.slice (A16_5) ((keysP l).length) (c16_5), 3, 1, ((keysP l).length), (keysP l).map I⟩]] := Mem.call (Ma := []) hM6_5 hR6_6 rfl
      refine O.val (v := .bool (validK (keysP l))) rfl (Ru.pickT rfl rfl) rfl ?_
      refine O.val (v := .bool (validK (keysP l))) rfl (Ru.assign rfl) rfl ?_
      refine O.nil ?_
      refine C.ret ?_
      refine P1 (v := .bool (validK (keysP l))) rfl ?_
      exact ⟨(by first | (rw [validR, all_end hi1_l2 (by omega), decide_eq_true (by omega)]; simp; done) | (rw [validR, decide_eq_false (by omega)]; simp)), (Mem.none hM6_6)⟩
    · refine O.pass rfl rfl rfl rfl rfl ?_
      refine O.pass rfl rfl rfl rfl rfl ?_
      refine O.pass rfl rfl rfl rfl rfl ?_
      refine O.val (v := .bool (false)) rfl (Ru.pickF rfl rfl) rfl ?_
      refine O.val (v := .bool (false)) rfl (Ru.assign rfl) rfl ?_
      refine O.nil ?_
      refine C.ret ?_
      refine P1 (v := .bool (false)) rfl ?_
      exact ⟨(by first | (rw [validR, all_end hi1_l2 (by omega), decide_eq_true (by omega)]; simp; done) | (rw [validR, decide_eq_false (by omega)]; simp)), (Mem.none hM_l2)⟩
end Go.Proofs.YtfdlmimgooeioaaDoor
