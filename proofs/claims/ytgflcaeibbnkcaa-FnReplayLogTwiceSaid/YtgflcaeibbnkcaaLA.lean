/- Own layer: part of this seat (LA). Plain theorems; no conditions. -/
import Derived.Test.YtgflcaeibbnkcaaLK
set_option linter.unusedVariables false
set_option linter.unusedSimpArgs false
namespace Go.Proofs.Ytgflcaeibbnkcaa
open Go.Px
theorem pick_fn (gr : Nat) (rA : Option Addr) (rc : Nat) (rl : List UInt8) (rq : Nat) (n : Int) (w : World) (hrA : Rd w rA (rl.map byteV)) (hro : Off rA (rl.map byteV) [some gr]) (hrl : rl.length ≤ 2000) (hM : Mem w w [some gr] [[⟨.slice (bl gr) 1 1, 81, 2, 1, [.slice (rA) ((rl).length) (rc), I (((rq : Nat) : Int))]⟩]]) (hrq : rq ≤ 1000000000) :
    Does Try.prog 53 [.pointer (ofs (bl gr) (0)), I (n)] w (fun v w1 => ∃ (k : Int), v = I (k) ∧ (0 ≤ k ∧ (k < n ∨ k = 0)) ∧ Mem w w1 [some gr] [[⟨.slice (bl gr) 1 1, 81, 2, 1, [.slice (rA) ((rl).length) (rc), I (((rq + 1 : Nat) : Int))]⟩]]) := by
  refine Does.enter1 Try.func53 rfl Try.results53 Try.ntmps53 rfl ?_
  refine C.seq ?_
  refine C.region ?_
  refine O.val (v := I (0)) rfl (Ru.assign rfl) rfl ?_
  refine O.nil ?_
  refine C.seq ?_
  refine C.region ?_
  refine O.val (v := .pointer (ofs (bl gr) (0))) rfl (Ru.move rfl) rfl ?_
  refine O.val (v := .pointer (ofs (bl gr) (0))) rfl (Ru.move rfl) rfl ?_
  refine O.val (v := .pointer (ofs (bl gr) (0))) rfl (Ru.nilc rfl rfl) rfl ?_
  refine O.val (v := .pointer (ofs (bl gr) (1))) rfl (Ru.fieldA fl81_1 rfl rfl) rfl ?_
  refine O.val rfl (Ru.load1 el3 rfl ((hM.rd 0 rfl).ld rfl)) rfl ?_
  refine O.val (v := I ((((rq + 1) : Nat) : Int))) rfl (Ru.congr (v := I ((((rq : Nat) : Int) + 1))) (v' := I ((((rq + 1) : Nat) : Int))) (Ru.add rfl rfl (by omega)) (I_congr (by first | omega | simp))) rfl ?_
  refine O.val (v := .pointer (ofs (bl gr) (0))) rfl (Ru.nilc rfl rfl) rfl ?_
  refine O.val (v := .pointer (ofs (bl gr) (1))) rfl (Ru.fieldA fl81_1 rfl rfl) rfl ?_
  refine O.mstore (vs := [I ((((rq + 1) : Nat) : Int))]) (xs' := [.slice (rA) ((rl).length) (rc), I ((((rq + 1) : Nat) : Int))]) 0 0 hM rfl rfl rfl el3 rfl rfl rfl rfl rfl (by simp) (by simp) rfl rfl (fun w1_8 (hM1_8 : Mem w w1_8 [some gr] [[⟨.slice (bl gr) 1 1, 81, 2, 1, [.slice (rA) ((rl).length) (rc), I ((((rq + 1) : Nat) : Int))]⟩]]) => ?_)
  refine O.nil ?_
  refine C.seq ?_
  refine C.seq ?_
  refine C.region ?_
  refine O.val (v := I (n)) rfl (Ru.move rfl) rfl ?_
  refine O.val (v := .bool (decide (n < 1))) rfl (Ru.lss rfl rfl) rfl ?_
  refine O.val (v := .bool (decide (n < 1))) rfl (Ru.move rfl) rfl ?_
  refine O.partp 17 (n < 1) rfl (fun g17 => ?_) (fun g17 => ?_)
  · refine O.pass rfl rfl rfl rfl rfl ?_
    refine O.pass rfl rfl rfl rfl rfl ?_
    refine O.pass rfl rfl rfl rfl rfl ?_
    refine O.pass rfl rfl rfl rfl rfl ?_
    refine O.pass rfl rfl rfl rfl rfl ?_
    refine O.pass rfl rfl rfl rfl rfl ?_
    refine O.val (v := .bool (true)) rfl (Ru.pickT rfl rfl) rfl ?_
    refine O.nil ?_
    refine C.condT rfl ?_
    refine C.seq ?_
    refine C.region ?_
    refine O.val (v := I (0)) rfl (Ru.assign rfl) rfl ?_
    refine O.nil ?_
    refine C.ret ?_
    refine P1 (v := I (0)) rfl ?_
    exact ⟨0, (by first | rfl | exact sl_congr (by first | omega | (simp; done) | (simp; omega)) | (simp; done)), ⟨by decide, .inr rfl⟩, (hM1_8.pick [0] (by decide) rfl)⟩
  · refine O.val (v := .pointer (ofs (bl gr) (0))) rfl (Ru.move rfl) rfl ?_
    refine O.val (v := .pointer (ofs (bl gr) (0))) rfl (Ru.nilc rfl rfl) rfl ?_
    refine O.val (v := .pointer (ofs (bl gr) (0))) rfl (Ru.fieldA fl81_0 rfl rfl) rfl ?_
    refine O.val rfl (Ru.load1 el22 rfl ((hM1_8.rd 0 rfl).ld rfl)) rfl ?_
    refine O.val (v := I ((((rl).length : Nat) : Int))) rfl (Ru.blenSlice Try.underlying22 rfl) rfl ?_
    refine O.val (v := .bool (decide ((((rl).length : Nat) : Int) = 0))) rfl (Ru.eql rfl rfl) rfl ?_
    refine O.val (v := .bool (decide ((((rl).length : Nat) : Int) = 0))) rfl (Ru.pickF rfl rfl) rfl ?_
    refine O.nil ?_
    refine C.cond (p := (((rl).length : Nat) : Int) = 0) rfl (fun c24 => ?_) (fun c24 => ?_)
    · refine C.seq ?_
      refine C.region ?_
      refine O.val (v := I (0)) rfl (Ru.assign rfl) rfl ?_
      refine O.nil ?_
      refine C.ret ?_
      refine P1 (v := I (0)) rfl ?_
      exact ⟨0, (by first | rfl | exact sl_congr (by first | omega | (simp; done) | (simp; omega)) | (simp; done)), ⟨by decide, .inr rfl⟩, (hM1_8.pick [0] (by decide) rfl)⟩
    · refine C.skip ?_
      refine C.seq ?_
      refine C.region ?_
      refine O.val (v := .pointer (ofs (bl gr) (0))) rfl (Ru.move rfl) rfl ?_
      refine O.val (v := .pointer (ofs (bl gr) (0))) rfl (Ru.nilc rfl rfl) rfl ?_
      refine O.val (v := .pointer (ofs (bl gr) (1))) rfl (Ru.fieldA fl81_1 rfl rfl) rfl ?_
      refine O.val rfl (Ru.load1 el3 rfl ((hM1_8.rd 0 rfl).ld rfl)) rfl ?_
      refine O.val (v := I (((rq : Nat) : Int))) rfl (Ru.congr (v := I (((((rq + 1) : Nat) : Int) - 1))) (v' := I (((rq : Nat) : Int))) (Ru.sub rfl rfl (by omega)) (I_congr (by omega))) rfl ?_
      refine O.val (v := I (((rq : Nat) : Int))) rfl (Ru.assign rfl) rfl ?_
      refine O.nil ?_
      refine C.seq ?_
      refine C.seq ?_
      refine C.region ?_
      refine O.val (v := I (((rq : Nat) : Int))) rfl (Ru.move rfl) rfl ?_
      refine O.val (v := .pointer (ofs (bl gr) (0))) rfl (Ru.move rfl) rfl ?_
      refine O.val (v := .pointer (ofs (bl gr) (0))) rfl (Ru.nilc rfl rfl) rfl ?_
      refine O.val (v := .pointer (ofs (bl gr) (0))) rfl (Ru.fieldA fl81_0 rfl rfl) rfl ?_
      refine O.val rfl (Ru.load1 el22 rfl ((hM1_8.rd 0 rfl).ld rfl)) rfl ?_
      refine O.val (v := I ((((rl).length : Nat) : Int))) rfl (Ru.blenSlice Try.underlying22 rfl) rfl ?_
      refine O.val (v := .bool (decide (((rq : Nat) : Int) < (((rl).length : Nat) : Int)))) rfl (Ru.lss rfl rfl) rfl ?_
      refine O.nil ?_
      refine C.cond (p := ((rq : Nat) : Int) < (((rl).length : Nat) : Int)) rfl (fun c36 => ?_) (fun c36 => ?_)
      · have hu2 := u8_le (rl[rq])
        refine C.seq ?_
        refine C.region ?_
        refine O.val (v := .pointer (ofs (bl gr) (0))) rfl (Ru.move rfl) rfl ?_
        refine O.val (v := .pointer (ofs (bl gr) (0))) rfl (Ru.nilc rfl rfl) rfl ?_
        refine O.val (v := .pointer (ofs (bl gr) (0))) rfl (Ru.fieldA fl81_0 rfl rfl) rfl ?_
        refine O.val rfl (Ru.load1 el22 rfl ((hM1_8.rd 0 rfl).ld rfl)) rfl ?_
        refine O.val (v := I (((rq : Nat) : Int))) rfl (Ru.move rfl) rfl ?_
        have hx6_5 : rq < (rl).length := (by first | omega | (simp; omega))
        refine O.val (v := .pointer (ofs (rA) (rq * 1))) rfl (Ru.indexA (j := rq) Try.underlying22 el5 rfl rfl (smm (hrA.atR hM1_8 hro) hx6_5) (by omega) (by first | omega | (simp; omega))) rfl ?_
        refine O.val rfl (Ru.load1 el5 rfl (ldm (hrA.atR hM1_8 hro) hx6_5)) rfl ?_
        refine O.val (v := I ((((rl)[rq]'hx6_5).toNat : Int))) rfl (Ru.conv (c := (((rl)[rq]'hx6_5).toNat : Int)) Try.underlying5 Try.underlying3 rfl (wrap_u8 _ (by omega))) rfl ?_
        refine O.val (v := I (n)) rfl (Ru.move rfl) rfl ?_
        refine O.val (v := I (((((rl)[rq]'hx6_5).toNat : Int) % n))) rfl (Ru.rem rfl rfl (by omega)) rfl ?_
        refine O.val (v := I (((((rl)[rq]'hx6_5).toNat : Int) % n))) rfl (Ru.assign rfl) rfl ?_
        refine O.nil ?_
        refine C.ret ?_
        refine P1 (v := I (((((rl)[rq]'hx6_5).toNat : Int) % n))) rfl ?_
        exact ⟨_, (by first | rfl | exact sl_congr (by first | omega | (simp; done) | (simp; omega)) | (simp; done)), ⟨Int.emod_nonneg _ (by omega), .inl (Int.emod_lt_of_pos _ (by omega))⟩, (hM1_8.pick [0] (by decide) rfl)⟩
      · have hq0 := Nat.mod_lt rq (show 0 < rl.length by omega)
        have hq1 := Nat.mod_lt (rq * 7 + 3) (show 0 < rl.length by omega)
        have hu0 := u8_le (rl[rq % rl.length])
        have hu1 := u8_le (rl[(rq * 7 + 3) % rl.length])
        obtain ⟨dv, hdq, hdv⟩ : ∃ dv : Nat, dv = rq / rl.length ∧ dv ≤ rq := ⟨_, rfl, Nat.div_le_self _ _⟩
        refine C.skip ?_
        refine C.seq ?_
        refine C.draws (fun w2 => Mem w w2 [some gr] [[⟨.slice (bl gr) 1 1, 81, 2, 1, [.slice (rA) ((rl).length) (rc), I ((((rq + 1) : Nat) : Int))]⟩]]) mixed (by kernel_rfl) (hM1_8.ext (kdrawn _)) ?_
        refine QO.val (v := .pointer (ofs (bl gr) (0))) rfl (fun w2 hw2 => Ru.move rfl) rfl ?_
        refine QO.val (v := .pointer (ofs (bl gr) (0))) rfl (fun w2 hw2 => Ru.nilc rfl rfl) rfl ?_
        refine QO.val (v := .pointer (ofs (bl gr) (0))) rfl (fun w2 hw2 => Ru.fieldA fl81_0 rfl rfl) rfl ?_
        refine QO.val rfl (fun w2 hw2 => Ru.load1 el22 rfl ((hw2.rd 0 rfl).ld rfl)) rfl ?_
        refine QO.val (v := I (((rq : Nat) : Int))) rfl (fun w2 hw2 => Ru.move rfl) rfl ?_
        refine QO.val (v := .pointer (ofs (bl gr) (0))) rfl (fun w2 hw2 => Ru.move rfl) rfl ?_
        refine QO.val (v := .pointer (ofs (bl gr) (0))) rfl (fun w2 hw2 => Ru.nilc rfl rfl) rfl ?_
        refine QO.val (v := .pointer (ofs (bl gr) (0))) rfl (fun w2 hw2 => Ru.fieldA fl81_0 rfl rfl) rfl ?_
        refine QO.val rfl (fun w2 hw2 => Ru.load1 el22 rfl ((hw2.rd 0 rfl).ld rfl)) rfl ?_
        refine QO.val (v := I ((((rl).length : Nat) : Int))) rfl (fun w2 hw2 => Ru.blenSlice Try.underlying22 rfl) rfl ?_
        refine QO.val (v := I ((((rq % (rl).length) : Nat) : Int))) rfl (fun w2 hw2 => Ru.congr (v := I ((((rq : Nat) : Int) % (((rl).length : Nat) : Int)))) (v' := I ((((rq % (rl).length) : Nat) : Int))) (Ru.rem rfl rfl (by omega)) (I_congr (by first | omega | simp))) rfl ?_
        have hx7_11 : (rq % (rl).length) < (rl).length := (by first | omega | (simp; omega))
        refine QO.val (v := .pointer (ofs (rA) ((rq % (rl).length) * 1))) rfl (fun w2 hw2 => Ru.indexA (j := (rq % (rl).length)) Try.underlying22 el5 rfl rfl (smm (hrA.atR hw2 hro) hx7_11) (by omega) (by first | omega | (simp; omega))) rfl ?_
        refine QO.val rfl (fun w2 hw2 => Ru.load1 el5 rfl (ldm (hrA.atR hw2 hro) hx7_11)) rfl ?_
        refine QO.val (v := I ((((rl)[(rq % (rl).length)]'hx7_11).toNat : Int))) rfl (fun w2 hw2 => Ru.conv (c := (((rl)[(rq % (rl).length)]'hx7_11).toNat : Int)) Try.underlying5 Try.underlying3 rfl (wrap_u8 _ (by omega))) rfl ?_
        refine QO.val (v := I ((((((rl)[(rq % (rl).length)]'hx7_11).toNat * 131) : Nat) : Int))) rfl (fun w2 hw2 => Ru.congr (v := I (((((rl)[(rq % (rl).length)]'hx7_11).toNat : Int) * 131))) (v' := I ((((((rl)[(rq % (rl).length)]'hx7_11).toNat * 131) : Nat) : Int))) (Ru.mul rfl rfl (by omega)) (I_congr (by first | omega | simp))) rfl ?_
        refine QO.val (v := .pointer (ofs (bl gr) (0))) rfl (fun w2 hw2 => Ru.move rfl) rfl ?_
        refine QO.val (v := .pointer (ofs (bl gr) (0))) rfl (fun w2 hw2 => Ru.nilc rfl rfl) rfl ?_
        refine QO.val (v := .pointer (ofs (bl gr) (0))) rfl (fun w2 hw2 => Ru.fieldA fl81_0 rfl rfl) rfl ?_
        refine QO.val rfl (fun w2 hw2 => Ru.load1 el22 rfl ((hw2.rd 0 rfl).ld rfl)) rfl ?_
        refine QO.val (v := I (((rq : Nat) : Int))) rfl (fun w2 hw2 => Ru.move rfl) rfl ?_
        refine QO.val (v := I ((((rq * 7) : Nat) : Int))) rfl (fun w2 hw2 => Ru.congr (v := I ((((rq : Nat) : Int) * 7))) (v' := I ((((rq * 7) : Nat) : Int))) (Ru.mul rfl rfl (by omega)) (I_congr (by first | omega | simp))) rfl ?_
        refine QO.val (v := I (((((rq * 7) + 3) : Nat) : Int))) rfl (fun w2 hw2 => Ru.congr (v := I (((((rq * 7) : Nat) : Int) + 3))) (v' := I (((((rq * 7) + 3) : Nat) : Int))) (Ru.add rfl rfl (by omega)) (I_congr (by first | omega | simp))) rfl ?_
        refine QO.val (v := .pointer (ofs (bl gr) (0))) rfl (fun w2 hw2 => Ru.move rfl) rfl ?_
        refine QO.val (v := .pointer (ofs (bl gr) (0))) rfl (fun w2 hw2 => Ru.nilc rfl rfl) rfl ?_
        refine QO.val (v := .pointer (ofs (bl gr) (0))) rfl (fun w2 hw2 => Ru.fieldA fl81_0 rfl rfl) rfl ?_
        refine QO.val rfl (fun w2 hw2 => Ru.load1 el22 rfl ((hw2.rd 0 rfl).ld rfl)) rfl ?_
        refine QO.val (v := I ((((rl).length : Nat) : Int))) rfl (fun w2 hw2 => Ru.blenSlice Try.underlying22 rfl) rfl ?_
        refine QO.val (v := I ((((((rq * 7) + 3) % (rl).length) : Nat) : Int))) rfl (fun w2 hw2 => Ru.congr (v := I ((((((rq * 7) + 3) : Nat) : Int) % (((rl).length : Nat) : Int)))) (v' := I ((((((rq * 7) + 3) % (rl).length) : Nat) : Int))) (Ru.rem rfl rfl (by omega)) (I_congr (by first | omega | simp))) rfl ?_
        have hx7_28 : (((rq * 7) + 3) % (rl).length) < (rl).length := (by first | omega | (simp; omega))
        refine QO.val (v := .pointer (ofs (rA) ((((rq * 7) + 3) % (rl).length) * 1))) rfl (fun w2 hw2 => Ru.indexA (j := (((rq * 7) + 3) % (rl).length)) Try.underlying22 el5 rfl rfl (smm (hrA.atR hw2 hro) hx7_28) (by omega) (by first | omega | (simp; omega))) rfl ?_
        refine QO.val rfl (fun w2 hw2 => Ru.load1 el5 rfl (ldm (hrA.atR hw2 hro) hx7_28)) rfl ?_
        refine QO.val (v := I ((((rl)[(((rq * 7) + 3) % (rl).length)]'hx7_28).toNat : Int))) rfl (fun w2 hw2 => Ru.conv (c := (((rl)[(((rq * 7) + 3) % (rl).length)]'hx7_28).toNat : Int)) Try.underlying5 Try.underlying3 rfl (wrap_u8 _ (by omega))) rfl ?_
        refine QO.val (v := I ((((((rl)[(((rq * 7) + 3) % (rl).length)]'hx7_28).toNat * 1117) : Nat) : Int))) rfl (fun w2 hw2 => Ru.congr (v := I (((((rl)[(((rq * 7) + 3) % (rl).length)]'hx7_28).toNat : Int) * 1117))) (v' := I ((((((rl)[(((rq * 7) + 3) % (rl).length)]'hx7_28).toNat * 1117) : Nat) : Int))) (Ru.mul rfl rfl (by omega)) (I_congr (by first | omega | simp))) rfl ?_
        refine QO.val (v := I (((((((rl)[(rq % (rl).length)]'hx7_11).toNat * 131) + (((rl)[(((rq * 7) + 3) % (rl).length)]'hx7_28).toNat * 1117)) : Nat) : Int))) rfl (fun w2 hw2 => Ru.congr (v := I (((((((rl)[(rq % (rl).length)]'hx7_11).toNat * 131) : Nat) : Int) + (((((rl)[(((rq * 7) + 3) % (rl).length)]'hx7_28).toNat * 1117) : Nat) : Int)))) (v' := I (((((((rl)[(rq % (rl).length)]'hx7_11).toNat * 131) + (((rl)[(((rq * 7) + 3) % (rl).length)]'hx7_28).toNat * 1117)) : Nat) : Int))) (Ru.add rfl rfl (by omega)) (I_congr (by first | omega | simp))) rfl ?_
        refine QO.val (v := I (((rq : Nat) : Int))) rfl (fun w2 hw2 => Ru.move rfl) rfl ?_
        refine QO.val (v := I ((((rq * 29) : Nat) : Int))) rfl (fun w2 hw2 => Ru.congr (v := I ((((rq : Nat) : Int) * 29))) (v' := I ((((rq * 29) : Nat) : Int))) (Ru.mul rfl rfl (by omega)) (I_congr (by first | omega | simp))) rfl ?_
        refine QO.val (v := I ((((((((rl)[(rq % (rl).length)]'hx7_11).toNat * 131) + (((rl)[(((rq * 7) + 3) % (rl).length)]'hx7_28).toNat * 1117)) + (rq * 29)) : Nat) : Int))) rfl (fun w2 hw2 => Ru.congr (v := I ((((((((rl)[(rq % (rl).length)]'hx7_11).toNat * 131) + (((rl)[(((rq * 7) + 3) % (rl).length)]'hx7_28).toNat * 1117)) : Nat) : Int) + (((rq * 29) : Nat) : Int)))) (v' := I ((((((((rl)[(rq % (rl).length)]'hx7_11).toNat * 131) + (((rl)[(((rq * 7) + 3) % (rl).length)]'hx7_28).toNat * 1117)) + (rq * 29)) : Nat) : Int))) (Ru.add rfl rfl (by omega)) (I_congr (by first | omega | simp))) rfl ?_
        refine QO.val (v := I (((rq : Nat) : Int))) rfl (fun w2 hw2 => Ru.move rfl) rfl ?_
        refine QO.val (v := .pointer (ofs (bl gr) (0))) rfl (fun w2 hw2 => Ru.move rfl) rfl ?_
        refine QO.val (v := .pointer (ofs (bl gr) (0))) rfl (fun w2 hw2 => Ru.nilc rfl rfl) rfl ?_
        refine QO.val (v := .pointer (ofs (bl gr) (0))) rfl (fun w2 hw2 => Ru.fieldA fl81_0 rfl rfl) rfl ?_
        refine QO.val rfl (fun w2 hw2 => Ru.load1 el22 rfl ((hw2.rd 0 rfl).ld rfl)) rfl ?_
        refine QO.val (v := I ((((rl).length : Nat) : Int))) rfl (fun w2 hw2 => Ru.blenSlice Try.underlying22 rfl) rfl ?_
        refine QO.val (v := I (((dv : Nat) : Int))) rfl (fun w2 hw2 => Ru.congr (v := I ((((rq : Nat) : Int) / (((rl).length : Nat) : Int)))) (v' := I (((dv : Nat) : Int))) (Ru.quo rfl rfl (by omega)) (I_congr (by rw [hdq]; simp))) rfl ?_
        refine QO.val (v := I ((((dv * 53) : Nat) : Int))) rfl (fun w2 hw2 => Ru.congr (v := I ((((dv : Nat) : Int) * 53))) (v' := I ((((dv * 53) : Nat) : Int))) (Ru.mul rfl rfl (by omega)) (I_congr (by first | omega | simp))) rfl ?_
        refine QO.val (v := I (((((((((rl)[(rq % (rl).length)]'hx7_11).toNat * 131) + (((rl)[(((rq * 7) + 3) % (rl).length)]'hx7_28).toNat * 1117)) + (rq * 29)) + (dv * 53)) : Nat) : Int))) rfl (fun w2 hw2 => Ru.congr (v := I (((((((((rl)[(rq % (rl).length)]'hx7_11).toNat * 131) + (((rl)[(((rq * 7) + 3) % (rl).length)]'hx7_28).toNat * 1117)) + (rq * 29)) : Nat) : Int) + (((dv * 53) : Nat) : Int)))) (v' := I (((((((((rl)[(rq % (rl).length)]'hx7_11).toNat * 131) + (((rl)[(((rq * 7) + 3) % (rl).length)]'hx7_28).toNat * 1117)) + (rq * 29)) + (dv * 53)) : Nat) : Int))) (Ru.add rfl rfl (by omega)) (I_congr (by first | omega | simp))) rfl ?_
        refine QO.val (v := I (((((((((rl)[(rq % (rl).length)]'hx7_11).toNat * 131) + (((rl)[(((rq * 7) + 3) % (rl).length)]'hx7_28).toNat * 1117)) + (rq * 29)) + (dv * 53)) : Nat) : Int))) rfl (fun w2 hw2 => Ru.assign rfl) rfl ?_
        refine QO.nil ?_
        intro w7d hM7d
        refine C.seq ?_
        refine C.region ?_
        refine O.val (v := I (((((((((rl)[(rq % (rl).length)]'hx7_11).toNat * 131) + (((rl)[(((rq * 7) + 3) % (rl).length)]'hx7_28).toNat * 1117)) + (rq * 29)) + (dv * 53)) : Nat) : Int))) rfl (Ru.move rfl) rfl ?_
        refine O.val (v := I (((((((((rl)[(rq % (rl).length)]'hx7_11).toNat * 131) + (((rl)[(((rq * 7) + 3) % (rl).length)]'hx7_28).toNat * 1117)) + (rq * 29)) + (dv * 53)) : Nat) : Int))) rfl (Ru.move rfl) rfl ?_
        refine O.val (v := I ((((((((((rl)[(rq % (rl).length)]'hx7_11).toNat * 131) + (((rl)[(((rq * 7) + 3) % (rl).length)]'hx7_28).toNat * 1117)) + (rq * 29)) + (dv * 53)) / 64) : Nat) : Int))) rfl (Ru.congr (v := I ((((((((((rl)[(rq % (rl).length)]'hx7_11).toNat * 131) + (((rl)[(((rq * 7) + 3) % (rl).length)]'hx7_28).toNat * 1117)) + (rq * 29)) + (dv * 53)) : Nat) : Int) / 64))) (v' := I ((((((((((rl)[(rq % (rl).length)]'hx7_11).toNat * 131) + (((rl)[(((rq * 7) + 3) % (rl).length)]'hx7_28).toNat * 1117)) + (rq * 29)) + (dv * 53)) / 64) : Nat) : Int))) (Ru.quo rfl rfl (by omega)) (I_congr (by first | omega | simp))) rfl ?_
        refine O.val (v := I ((((((((((((rl)[(rq % (rl).length)]'hx7_11).toNat * 131) + (((rl)[(((rq * 7) + 3) % (rl).length)]'hx7_28).toNat * 1117)) + (rq * 29)) + (dv * 53)) : Nat) : Int)).toNat ^^^ ((((((((((rl)[(rq % (rl).length)]'hx7_11).toNat * 131) + (((rl)[(((rq * 7) + 3) % (rl).length)]'hx7_28).toNat * 1117)) + (rq * 29)) + (dv * 53)) / 64) : Nat) : Int)).toNat : Nat) : Int))) rfl (Ru.xor rfl rfl (by omega) (by omega)) rfl ?_
        refine O.val (v := I ((((((((((((rl)[(rq % (rl).length)]'hx7_11).toNat * 131) + (((rl)[(((rq * 7) + 3) % (rl).length)]'hx7_28).toNat * 1117)) + (rq * 29)) + (dv * 53)) : Nat) : Int)).toNat ^^^ ((((((((((rl)[(rq % (rl).length)]'hx7_11).toNat * 131) + (((rl)[(((rq * 7) + 3) % (rl).length)]'hx7_28).toNat * 1117)) + (rq * 29)) + (dv * 53)) / 64) : Nat) : Int)).toNat : Nat) : Int))) rfl (Ru.assign rfl) rfl ?_
        refine O.nil ?_
        refine C.seq ?_
        refine C.region ?_
        refine O.val (v := I ((((((((((((rl)[(rq % (rl).length)]'hx7_11).toNat * 131) + (((rl)[(((rq * 7) + 3) % (rl).length)]'hx7_28).toNat * 1117)) + (rq * 29)) + (dv * 53)) : Nat) : Int)).toNat ^^^ ((((((((((rl)[(rq % (rl).length)]'hx7_11).toNat * 131) + (((rl)[(((rq * 7) + 3) % (rl).length)]'hx7_28).toNat * 1117)) + (rq * 29)) + (dv * 53)) / 64) : Nat) : Int)).toNat : Nat) : Int))) rfl (Ru.move rfl) rfl ?_
        refine O.val (v := I (n)) rfl (Ru.move rfl) rfl ?_
        refine O.val (v := I (((((((((((((rl)[(rq % (rl).length)]'hx7_11).toNat * 131) + (((rl)[(((rq * 7) + 3) % (rl).length)]'hx7_28).toNat * 1117)) + (rq * 29)) + (dv * 53)) : Nat) : Int)).toNat ^^^ ((((((((((rl)[(rq % (rl).length)]'hx7_11).toNat * 131) + (((rl)[(((rq * 7) + 3) % (rl).length)]'hx7_28).toNat * 1117)) + (rq * 29)) + (dv * 53)) / 64) : Nat) : Int)).toNat : Nat) : Int) % n))) rfl (Ru.rem rfl rfl (by omega)) rfl ?_
        refine O.val (v := I (((((((((((((rl)[(rq % (rl).length)]'hx7_11).toNat * 131) + (((rl)[(((rq * 7) + 3) % (rl).length)]'hx7_28).toNat * 1117)) + (rq * 29)) + (dv * 53)) : Nat) : Int)).toNat ^^^ ((((((((((rl)[(rq % (rl).length)]'hx7_11).toNat * 131) + (((rl)[(((rq * 7) + 3) % (rl).length)]'hx7_28).toNat * 1117)) + (rq * 29)) + (dv * 53)) / 64) : Nat) : Int)).toNat : Nat) : Int) % n))) rfl (Ru.assign rfl) rfl ?_
        refine O.nil ?_
        refine C.ret ?_
        refine P1 (v := I (((((((((((((rl)[(rq % (rl).length)]'hx7_11).toNat * 131) + (((rl)[(((rq * 7) + 3) % (rl).length)]'hx7_28).toNat * 1117)) + (rq * 29)) + (dv * 53)) : Nat) : Int)).toNat ^^^ ((((((((((rl)[(rq % (rl).length)]'hx7_11).toNat * 131) + (((rl)[(((rq * 7) + 3) % (rl).length)]'hx7_28).toNat * 1117)) + (rq * 29)) + (dv * 53)) / 64) : Nat) : Int)).toNat : Nat) : Int) % n))) rfl ?_
        exact ⟨_, (by first | rfl | exact sl_congr (by first | omega | (simp; done) | (simp; omega)) | (simp; done)), ⟨Int.emod_nonneg _ (by omega), .inl (Int.emod_lt_of_pos _ (by omega))⟩, (hM7d.pick [0] (by decide) rfl)⟩

theorem one_fn (gr : Nat) (rA : Option Addr) (rc : Nat) (rl : List UInt8) (rq : Nat) (A : Option Addr) (c : Nat) (l : List Int) (w : World) (hrA : Rd w rA (rl.map byteV)) (hro : Off rA (rl.map byteV) [some gr]) (hrl : rl.length ≤ 2000) (hA : Rd w A ((l).map I)) (hoA : Off A ((l).map I) [some gr]) (hM : Mem w w [some gr] [[⟨.slice (bl gr) 1 1, 81, 2, 1, [.slice (rA) ((rl).length) (rc), I (((rq : Nat) : Int))]⟩]]) (hrq : rq ≤ 999999990) (hl : 0 < l.length) (hm : l.length ≤ 1000) :
    Does Try.prog 68 [.pointer (ofs (bl gr) (0)), .slice (A) ((l).length) (c)] w (fun v w1 => ∃ (k : Int), v = I (k) ∧ (k ∈ l) ∧ Mem w w1 [some gr] [[⟨.slice (bl gr) 1 1, 81, 2, 1, [.slice (rA) ((rl).length) (rc), I (((rq + 1 : Nat) : Int))]⟩]]) := by
  refine Does.enter1 Try.func68 rfl Try.results68 Try.ntmps68 rfl ?_
  refine C.seq ?_
  refine C.region ?_
  refine O.val (v := I (0)) rfl (Ru.assign rfl) rfl ?_
  refine O.nil ?_
  refine C.seq ?_
  refine C.region ?_
  refine O.val (v := .slice (A) ((l).length) (c)) rfl (Ru.move rfl) rfl ?_
  refine O.val (v := .pointer (ofs (bl gr) (0))) rfl (Ru.move rfl) rfl ?_
  refine O.val (v := .slice (A) ((l).length) (c)) rfl (Ru.move rfl) rfl ?_
  refine O.val (v := I ((((l).length : Nat) : Int))) rfl (Ru.blenSlice Try.underlying71 rfl) rfl ?_
  refine O.callg [.pointer (ofs (bl gr) (0)), I ((((l).length : Nat) : Int))] rfl en53 rfl rfl (pick_fn gr rA rc rl rq (((l).length : Nat) : Int) w (hrA.atR hM hro) hro hrl (Mem.focus (Ma := [[⟨.slice (bl gr) 1 1, 81, 2, 1, [.slice (rA) ((rl).length) (rc), I (((rq : Nat) : Int))]⟩]]) (rest := []) hM rfl) (by first | omega | assumption | (simp; omega) | simp | (intros; omega))) ?_
  rintro _ w1_4 ⟨k1_4, rfl, hk1_4, hR1_4⟩
  have hM1_4 : Mem w w1_4 [some gr] [[⟨.slice (bl gr) 1 1, 81, 2, 1, [.slice (rA) ((rl).length) (rc), I (((rq + 1 : Nat) : Int))]⟩]] := Mem.call (Ma := [[⟨.slice (bl gr) 1 1, 81, 2, 1, [.slice (rA) ((rl).length) (rc), I (((rq : Nat) : Int))]⟩]]) hM hR1_4 rfl
  have hkk := hk1_4
  have hx1_5 : (k1_4).toNat < (l).length := (by first | omega | (simp; omega))
  refine O.val (v := .pointer (ofs (A) (((k1_4).toNat) * 1))) rfl (Ru.indexA (j := (k1_4).toNat) Try.underlying71 el3 rfl rfl (smm (hA.atR hM1_4 hoA) hx1_5) (by omega) (by first | omega | (simp; omega))) rfl ?_
  refine O.val rfl (Ru.load1 el3 rfl (ldm (hA.atR hM1_4 hoA) hx1_5)) rfl ?_
  refine O.val (v := I ((l)[(k1_4).toNat]'hx1_5)) rfl (Ru.assign rfl) rfl ?_
  refine O.nil ?_
  refine C.ret ?_
  refine P1 (v := I ((l)[(k1_4).toNat]'hx1_5)) rfl ?_
  exact ⟨_, (by first | rfl | exact sl_congr (by first | omega | (simp; done) | (simp; omega)) | (simp; done)), List.getElem_mem _, (hM1_4.pick [0] (by decide) rfl)⟩

theorem newReader_fn (A : Option Addr) (c : Nat) (l : List UInt8) (w : World) (hA : Rd w A ((l).map byteV)) (hl : l.length ≤ 1048576) (hc : l.length ≤ c) :
    Does Try.prog 46 [.slice (A) ((l).length) (c)] w (fun v w1 => ∃ (gr : Nat) (l1 : List UInt8), v = .pointer (ofs (bl gr) (0)) ∧ (l1 = l ∨ l1 = l.take 2000) ∧ (l1.length ≤ 2000) ∧ Mem w w1 [] [[⟨.slice (bl gr) 1 1, 81, 2, 1, [.slice (A) ((l1).length) (c), I (((0 : Nat) : Int))]⟩]]) := by
  have hM : Mem w w [] [] := Mem.refl
  refine Does.enter1 Try.func46 rfl Try.results46 Try.ntmps46 rfl ?_
  refine C.seq ?_
  refine C.region ?_
  refine O.val rfl (Ru.assign rfl) rfl ?_
  refine O.nil ?_
  refine C.seq ?_
  refine C.seq ?_
  refine C.region ?_
  refine O.val (v := .slice (A) ((l).length) (c)) rfl (Ru.move rfl) rfl ?_
  refine O.val (v := I ((((l).length : Nat) : Int))) rfl (Ru.blenSlice Try.underlying22 rfl) rfl ?_
  refine O.val (v := .bool (decide ((((l).length : Nat) : Int) > 2000))) rfl (Ru.gtr rfl rfl) rfl ?_
  refine O.nil ?_
  refine C.cond (p := (((l).length : Nat) : Int) > 2000) rfl (fun c5 => ?_) (fun c5 => ?_)
  · refine C.region ?_
    refine O.val (v := .slice (A) ((l).length) (c)) rfl (Ru.move rfl) rfl ?_
    refine O.val (v := .slice (A) ((l.take 2000).length) (c)) rfl (Ru.congr (v := .slice (A) (2000) (c)) (v' := .slice (A) ((l.take 2000).length) (c)) (Ru.lsliceTo (h := 2000) Try.underlying22 el5 rfl rfl (by omega) (by omega)) (sl_congr (by simp; omega))) rfl ?_
    refine O.val (v := .slice (A) ((l.take 2000).length) (c)) rfl (Ru.assign rfl) rfl ?_
    refine O.nil ?_
    refine C.seq ?_
    refine C.region ?_
    refine O.val (v := .slice (A) ((l.take 2000).length) (c)) rfl (Ru.move rfl) rfl ?_
    refine O.val (v := .agg #[.slice (A) ((l.take 2000).length) (c), I (0)]) rfl (Ru.build of81 rfl rfl rfl) rfl ?_
    refine O.mbox (k := 2) (vs := [.slice (A) ((l.take 2000).length) (c), I (0)]) hM rfl rfl rfl rfl rfl (fun w3_2 b3_2 hb3_2 (hM3_2 : Mem w w3_2 [] [[⟨.slice (bl b3_2) 1 1, 81, 2, 1, [.slice (A) ((l.take 2000).length) (c), I (0)]⟩]]) => ?_)
    refine O.val (v := .pointer (ofs (bl b3_2) (0))) rfl (Ru.assign rfl) rfl ?_
    refine O.nil ?_
    refine C.ret ?_
    refine P1 (v := .pointer (ofs (bl b3_2) (0))) rfl ?_
    exact ⟨b3_2, l.take 2000, (by first | rfl | exact sl_congr (by first | omega | (simp; done) | (simp; omega)) | (simp; done)), (by first | exact .inl rfl | exact .inr rfl), (by simp; omega), (hM3_2.pick [0] (by decide) rfl)⟩
  · refine C.skip ?_
    refine C.seq ?_
    refine C.region ?_
    refine O.val (v := .slice (A) ((l).length) (c)) rfl (Ru.move rfl) rfl ?_
    refine O.val (v := .agg #[.slice (A) ((l).length) (c), I (0)]) rfl (Ru.build of81 rfl rfl rfl) rfl ?_
    refine O.mbox (k := 2) (vs := [.slice (A) ((l).length) (c), I (0)]) hM rfl rfl rfl rfl rfl (fun w3_2 b3_2 hb3_2 (hM3_2 : Mem w w3_2 [] [[⟨.slice (bl b3_2) 1 1, 81, 2, 1, [.slice (A) ((l).length) (c), I (0)]⟩]]) => ?_)
    refine O.val (v := .pointer (ofs (bl b3_2) (0))) rfl (Ru.assign rfl) rfl ?_
    refine O.nil ?_
    refine C.ret ?_
    refine P1 (v := .pointer (ofs (bl b3_2) (0))) rfl ?_
    exact ⟨b3_2, l, (by first | rfl | exact sl_congr (by first | omega | (simp; done) | (simp; omega)) | (simp; done)), (.inl rfl), (by omega), (hM3_2.pick [0] (by decide) rfl)⟩

theorem inRange_fn (a : Int) (b : Int) (c : Int) (w : World) :
    Does Try.prog 70 [I (a), I (b), I (c)] w (fun v w1 => v = .bool (decide (b ≤ a) && decide (a ≤ c)) ∧ Mem w w1 [] []) := by
  have hM : Mem w w [] [] := Mem.refl
  refine Does.enter1 Try.func70 rfl Try.results70 Try.ntmps70 rfl ?_
  refine C.seq ?_
  refine C.region ?_
  refine O.val (v := .bool (false)) rfl (Ru.assign rfl) rfl ?_
  refine O.nil ?_
  refine C.seq ?_
  refine C.region ?_
  refine O.val (v := I (b)) rfl (Ru.move rfl) rfl ?_
  refine O.val (v := I (a)) rfl (Ru.move rfl) rfl ?_
  refine O.val (v := .bool (decide (b ≤ a))) rfl (Ru.leq rfl rfl) rfl ?_
  refine O.val (v := .bool (decide (b ≤ a))) rfl (Ru.move rfl) rfl ?_
  refine O.partp 10 (b ≤ a) rfl (fun g10 => ?_) (fun g10 => ?_)
  · refine O.val (v := I (a)) rfl (Ru.move rfl) rfl ?_
    refine O.val (v := I (c)) rfl (Ru.move rfl) rfl ?_
    refine O.val (v := .bool (decide (a ≤ c))) rfl (Ru.leq rfl rfl) rfl ?_
    refine O.val (v := .bool (decide (a ≤ c))) rfl (Ru.pickT rfl rfl) rfl ?_
    refine O.val (v := .bool (decide (a ≤ c))) rfl (Ru.assign rfl) rfl ?_
    refine O.nil ?_
    refine C.ret ?_
    refine P1 (v := .bool (decide (a ≤ c))) rfl ?_
    exact ⟨(by simp [g10]), (Mem.none hM)⟩
  · refine O.pass rfl rfl rfl rfl rfl ?_
    refine O.pass rfl rfl rfl rfl rfl ?_
    refine O.pass rfl rfl rfl rfl rfl ?_
    refine O.val (v := .bool (false)) rfl (Ru.pickF rfl rfl) rfl ?_
    refine O.val (v := .bool (false)) rfl (Ru.assign rfl) rfl ?_
    refine O.nil ?_
    refine C.ret ?_
    refine P1 (v := .bool (false)) rfl ?_
    exact ⟨(by simp [g10]), (Mem.none hM)⟩

theorem isKey_fn (k : Int) (w : World) :
    Does Try.prog 69 [I (k)] w (fun v w1 => v = .bool (isKeyB k) ∧ Mem w w1 [] []) := by
  have hM : Mem w w [] [] := Mem.refl
  refine Does.enter1 Try.func69 rfl Try.results69 Try.ntmps69 rfl ?_
  refine C.seq ?_
  refine C.region ?_
  refine O.val (v := .bool (false)) rfl (Ru.assign rfl) rfl ?_
  refine O.nil ?_
  refine C.seq ?_
  refine C.region ?_
  refine O.val (v := I (k)) rfl (Ru.move rfl) rfl ?_
  refine O.val (v := .bool (decide (k ≥ 0))) rfl (Ru.geq rfl rfl) rfl ?_
  refine O.val (v := .bool (decide (k ≥ 0))) rfl (Ru.move rfl) rfl ?_
  refine O.partp 5 (k ≥ 0) rfl (fun g5 => ?_) (fun g5 => ?_)
  · refine O.val (v := I (k)) rfl (Ru.move rfl) rfl ?_
    refine O.val (v := .bool (decide (k ≤ 99))) rfl (Ru.leq rfl rfl) rfl ?_
    refine O.val (v := .bool (decide (k ≤ 99))) rfl (Ru.pickT rfl rfl) rfl ?_
    refine O.val (v := .bool (decide (k ≤ 99))) rfl (Ru.assign rfl) rfl ?_
    refine O.nil ?_
    refine C.ret ?_
    refine P1 (v := .bool (decide (k ≤ 99))) rfl ?_
    exact ⟨(by simp [isKeyB, g5]), (Mem.none hM)⟩
  · refine O.pass rfl rfl rfl rfl rfl ?_
    refine O.pass rfl rfl rfl rfl rfl ?_
    refine O.val (v := .bool (false)) rfl (Ru.pickF rfl rfl) rfl ?_
    refine O.val (v := .bool (false)) rfl (Ru.assign rfl) rfl ?_
    refine O.nil ?_
    refine C.ret ?_
    refine P1 (v := .bool (false)) rfl ?_
    exact ⟨(by simp [isKeyB, g5]), (Mem.none hM)⟩

theorem isValue_fn (k : Int) (w : World) :
    Does Try.prog 58 [I (k)] w (fun v w1 => v = .bool (isValB k) ∧ Mem w w1 [] []) := by
  have hM : Mem w w [] [] := Mem.refl
  refine Does.enter1 Try.func58 rfl Try.results58 Try.ntmps58 rfl ?_
  refine C.seq ?_
  refine C.region ?_
  refine O.val (v := .bool (false)) rfl (Ru.assign rfl) rfl ?_
  refine O.nil ?_
  refine C.seq ?_
  refine C.region ?_
  refine O.val (v := I (k)) rfl (Ru.move rfl) rfl ?_
  refine O.val (v := .bool (decide (k ≥ (-1000)))) rfl (Ru.geq rfl rfl) rfl ?_
  refine O.val (v := .bool (decide (k ≥ (-1000)))) rfl (Ru.move rfl) rfl ?_
  refine O.partp 5 (k ≥ (-1000)) rfl (fun g5 => ?_) (fun g5 => ?_)
  · refine O.val (v := I (k)) rfl (Ru.move rfl) rfl ?_
    refine O.val (v := .bool (decide (k ≤ 1000))) rfl (Ru.leq rfl rfl) rfl ?_
    refine O.val (v := .bool (decide (k ≤ 1000))) rfl (Ru.pickT rfl rfl) rfl ?_
    refine O.val (v := .bool (decide (k ≤ 1000))) rfl (Ru.assign rfl) rfl ?_
    refine O.nil ?_
    refine C.ret ?_
    refine P1 (v := .bool (decide (k ≤ 1000))) rfl ?_
    exact ⟨(by simp [isValB, g5]), (Mem.none hM)⟩
  · refine O.pass rfl rfl rfl rfl rfl ?_
    refine O.pass rfl rfl rfl rfl rfl ?_
    refine O.val (v := .bool (false)) rfl (Ru.pickF rfl rfl) rfl ?_
    refine O.val (v := .bool (false)) rfl (Ru.assign rfl) rfl ?_
    refine O.nil ?_
    refine C.ret ?_
    refine P1 (v := .bool (false)) rfl ?_
    exact ⟨(by simp [isValB, g5]), (Mem.none hM)⟩

theorem ValidKeys_fn (A : Option Addr) (c : Nat) (l : List Int) (w : World) (hA : Rd w A ((l).map I)) (hl : l.length ≤ 1048576) :
    Does Try.prog 59 [.slice (A) ((l).length) (c)] w (fun v w1 => v = .bool (validK l) ∧ Mem w w1 [] []) := by
  have hM : Mem w w [] [] := Mem.refl
  refine Does.enter1 Try.func59 rfl Try.results59 Try.ntmps59 rfl ?_
  refine C.seq ?_
  refine C.region ?_
  refine O.val (v := .bool (false)) rfl (Ru.assign rfl) rfl ?_
  refine O.nil ?_
  refine C.seq ?_
  refine C.seq ?_
  refine C.region ?_
  refine O.val (v := .slice (A) ((l).length) (c)) rfl (Ru.move rfl) rfl ?_
  refine O.val (v := I ((((l).length : Nat) : Int))) rfl (Ru.blenSlice Try.underlying71 rfl) rfl ?_
  refine O.val (v := I (0)) rfl (Ru.move rfl) rfl ?_
  refine O.nil ?_
  refine C.block ?_
  refine C.loop (ι := Nat) (fun k => ([(0, .slice (A) ((l).length) (c)), (5, .slice (A) ((l).length) (c)), (6, I ((((l).length : Nat) : Int))), (7, I (((k : Nat) : Int)))] : List (Nat × Value))) (fun k w_ => (k ≤ l.length) ∧ ((l.take k).all isKeyB = true) ∧ (asc (l.take k) = true) ∧ (Mem w w_ [] [])) (fun k => l.length - k) (0) (Has.cons rfl (Has.cons rfl (Has.cons rfl (Has.cons (I_congr (by first | rfl | omega | (simp; omega) | simp)) Has.nil)))) ⟨(Nat.zero_le _), (by (try dsimp only); simp), (by (try dsimp only); simp [asc]), (hM.pick [] (by decide) rfl)⟩ (fun k σ w_l2 hI => ?_)
  try dsimp only at hI
  obtain ⟨hi0_l2, hi1_l2, hi2_l2, hM_l2⟩ := hI
  refine C.seq ?_
  refine C.region ?_
  refine O.val (v := .bool (decide (((k : Nat) : Int) < (((l).length : Nat) : Int)))) rfl (Ru.lss rfl rfl) rfl ?_
  refine O.nil ?_
  refine C.seq ?_
  refine C.cond (p := ((k : Nat) : Int) < (((l).length : Nat) : Int)) rfl (fun c8 => ?_) (fun c8 => ?_)
  · refine C.skip ?_
    refine C.seq ?_
    refine C.block ?_
    refine C.seq ?_
    refine C.region ?_
    refine O.val (v := I (((k : Nat) : Int))) rfl (Ru.move rfl) rfl ?_
    have hx3_1 : k < (l).length := (by first | omega | (simp; omega))
    refine O.val (v := .pointer (ofs (A) (k * 1))) rfl (Ru.indexA (j := k) Try.underlying71 el3 rfl rfl (smm (hA.at hM_l2) hx3_1) (by omega) (by first | omega | (simp; omega))) rfl ?_
    refine O.val rfl (Ru.load1 el3 rfl (ldm (hA.at hM_l2) hx3_1)) rfl ?_
    refine O.val (v := I (((k : Nat) : Int))) rfl (Ru.assign rfl) rfl ?_
    refine O.val (v := I ((l)[k]'hx3_1)) rfl (Ru.assign rfl) rfl ?_
    refine O.nil ?_
    refine C.seq ?_
    refine C.seq ?_
    refine C.region ?_
    refine O.val (v := I ((l)[k]'hx3_1)) rfl (Ru.move rfl) rfl ?_
    refine O.callg [I ((l)[k]'hx3_1)] rfl en69 rfl rfl (isKey_fn ((l)[k]'hx3_1) w_l2 ) ?_
    rintro _ w4_1 ⟨rfl, hR4_1⟩
    have hM4_1 : Mem w w4_1 [] [] := Mem.call (Ma := []) hM_l2 hR4_1 rfl
    refine O.val (v := .bool (!(isKeyB ((l)[k]'hx3_1)))) rfl (Ru.not rfl) rfl ?_
    refine O.nil ?_
    refine C.condn (b := (isKeyB ((l)[k]'hx3_1))) rfl (fun c14 => ?_) (fun c14 => ?_)
    · refine C.seq ?_
      refine C.region ?_
      refine O.val (v := .bool (false)) rfl (Ru.assign rfl) rfl ?_
      refine O.nil ?_
      refine C.ret ?_
      refine P1 (v := .bool (false)) rfl ?_
      exact ⟨(by rw [validK_no1 hx3_1 c14]), (Mem.none hM4_1)⟩
    · refine C.skip ?_
      refine C.seq ?_
      refine C.region ?_
      refine O.val (v := I (((k : Nat) : Int))) rfl (Ru.move rfl) rfl ?_
      refine O.val (v := .bool (decide (((k : Nat) : Int) > 0))) rfl (Ru.gtr rfl rfl) rfl ?_
      refine O.val (v := .bool (decide (((k : Nat) : Int) > 0))) rfl (Ru.move rfl) rfl ?_
      refine O.partp 17 (((k : Nat) : Int) > 0) rfl (fun g17 => ?_) (fun g17 => ?_)
      · refine O.val (v := .slice (A) ((l).length) (c)) rfl (Ru.move rfl) rfl ?_
        refine O.val (v := I (((k : Nat) : Int))) rfl (Ru.move rfl) rfl ?_
        refine O.val (v := I ((((k : Nat) : Int) - 1))) rfl (Ru.sub rfl rfl (by omega)) rfl ?_
        have hx6_6 : k - 1 < (l).length := (by first | omega | (simp; omega))
        refine O.val (v := .pointer (ofs (A) ((k - 1) * 1))) rfl (Ru.indexA (j := k - 1) Try.underlying71 el3 rfl rfl (smm (hA.at hM4_1) hx6_6) (by omega) (by first | omega | (simp; omega))) rfl ?_
        refine O.val rfl (Ru.load1 el3 rfl (ldm (hA.at hM4_1) hx6_6)) rfl ?_
        refine O.val (v := I ((l)[k]'hx3_1)) rfl (Ru.move rfl) rfl ?_
        refine O.val (v := .bool (decide ((l)[k - 1]'hx6_6 ≥ (l)[k]'hx3_1))) rfl (Ru.geq rfl rfl) rfl ?_
        refine O.val (v := .bool (decide ((l)[k - 1]'hx6_6 ≥ (l)[k]'hx3_1))) rfl (Ru.pickT rfl rfl) rfl ?_
        refine O.nil ?_
        refine C.cond (p := (l)[k - 1]'hx6_6 ≥ (l)[k]'hx3_1) rfl (fun c25 => ?_) (fun c25 => ?_)
        · refine C.seq ?_
          refine C.region ?_
          refine O.val (v := .bool (false)) rfl (Ru.assign rfl) rfl ?_
          refine O.nil ?_
          refine C.ret ?_
          refine P1 (v := .bool (false)) rfl ?_
          exact ⟨(by rw [validK_no2 (by omega) hx3_1 (by omega)]), (Mem.none hM4_1)⟩
        · refine C.skip ?_
          refine C.region ?_
          refine O.val (v := I ((((k + 1) : Nat) : Int))) rfl (Ru.congr (v := I ((((k : Nat) : Int) + 1))) (v' := I ((((k + 1) : Nat) : Int))) (Ru.add rfl rfl (by omega)) (I_congr (by first | omega | simp))) rfl ?_
          refine O.val (v := I ((((k + 1) : Nat) : Int))) rfl (Ru.move rfl) rfl ?_
          refine O.nil ?_
          exact loopEnd (k + 1) (by (try dsimp only); omega) (Has.cons rfl (Has.cons rfl (Has.cons rfl (Has.cons (I_congr (by first | rfl | omega | (simp; omega) | simp)) Has.nil)))) ⟨(by (try dsimp only); omega), (all_step hi1_l2 hx3_1 c14), (asc_take hi2_l2 hx3_1 (fun h0 => by omega)), (hM4_1.pick [] (by decide) rfl)⟩
      · refine O.pass rfl rfl rfl rfl rfl ?_
        refine O.pass rfl rfl rfl rfl rfl ?_
        refine O.pass rfl rfl rfl rfl rfl ?_
        refine O.pass rfl rfl rfl rfl rfl ?_
        refine O.pass rfl rfl rfl rfl rfl ?_
        refine O.pass rfl rfl rfl rfl rfl ?_
        refine O.pass rfl rfl rfl rfl rfl ?_
        refine O.val (v := .bool (false)) rfl (Ru.pickF rfl rfl) rfl ?_
        refine O.nil ?_
        refine C.condF rfl ?_
        refine C.skip ?_
        refine C.region ?_
        refine O.val (v := I ((((k + 1) : Nat) : Int))) rfl (Ru.congr (v := I ((((k : Nat) : Int) + 1))) (v' := I ((((k + 1) : Nat) : Int))) (Ru.add rfl rfl (by omega)) (I_congr (by first | omega | simp))) rfl ?_
        refine O.val (v := I ((((k + 1) : Nat) : Int))) rfl (Ru.move rfl) rfl ?_
        refine O.nil ?_
        exact loopEnd (k + 1) (by (try dsimp only); omega) (Has.cons rfl (Has.cons rfl (Has.cons rfl (Has.cons (I_congr (by first | rfl | omega | (simp; omega) | simp)) Has.nil)))) ⟨(by (try dsimp only); omega), (all_step hi1_l2 hx3_1 c14), (asc_take hi2_l2 hx3_1 (fun h0 => by omega)), (hM4_1.pick [] (by decide) rfl)⟩
  · refine C.exit ?_
    refine C.seq ?_
    refine C.region ?_
    refine O.val (v := .bool (true)) rfl (Ru.assign rfl) rfl ?_
    refine O.nil ?_
    refine C.ret ?_
    refine P1 (v := .bool (true)) rfl ?_
    exact ⟨(by rw [validK_yes hi1_l2 hi2_l2 (by omega)]), (Mem.none hM_l2)⟩

theorem allIn_fn (A : Option Addr) (c : Nat) (l : List Int) (lo : Int) (hi : Int) (w : World) (hA : Rd w A ((l).map I)) (hl : l.length ≤ 1048576) :
    Does Try.prog 80 [.slice (A) ((l).length) (c), I (lo), I (hi)] w (fun v w1 => v = .bool (l.all (fun a => decide (lo ≤ a) && decide (a ≤ hi))) ∧ Mem w w1 [] []) := by
  have hM : Mem w w [] [] := Mem.refl
  refine Does.enter1 Try.func80 rfl Try.results80 Try.ntmps80 rfl ?_
  refine C.seq ?_
  refine C.region ?_
  refine O.val (v := .bool (false)) rfl (Ru.assign rfl) rfl ?_
  refine O.nil ?_
  refine C.seq ?_
  refine C.seq ?_
  refine C.region ?_
  refine O.val (v := I (0)) rfl (Ru.assign rfl) rfl ?_
  refine O.nil ?_
  refine C.block ?_
  refine C.loop (ι := Nat) (fun k => ([(0, .slice (A) ((l).length) (c)), (1, I (lo)), (2, I (hi)), (7, I (((k : Nat) : Int)))] : List (Nat × Value))) (fun k w_ => (k ≤ l.length) ∧ ((l.take k).all (fun a => decide (lo ≤ a) && decide (a ≤ hi)) = true) ∧ (Mem w w_ [] [])) (fun k => l.length - k) (0) (Has.cons rfl (Has.cons rfl (Has.cons rfl (Has.cons (I_congr (by first | rfl | omega | (simp; omega) | simp)) Has.nil)))) ⟨(Nat.zero_le _), (by (try dsimp only); simp), (hM.pick [] (by decide) rfl)⟩ (fun k σ w_l2 hI => ?_)
  try dsimp only at hI
  obtain ⟨hi0_l2, hi1_l2, hM_l2⟩ := hI
  refine C.seq ?_
  refine C.seq ?_
  refine C.region ?_
  refine O.val (v := I (((k : Nat) : Int))) rfl (Ru.move rfl) rfl ?_
  refine O.val (v := .slice (A) ((l).length) (c)) rfl (Ru.move rfl) rfl ?_
  refine O.val (v := I ((((l).length : Nat) : Int))) rfl (Ru.blenSlice Try.underlying71 rfl) rfl ?_
  refine O.val (v := .bool (decide (((k : Nat) : Int) < (((l).length : Nat) : Int)))) rfl (Ru.lss rfl rfl) rfl ?_
  refine O.nil ?_
  refine C.cond (p := ((k : Nat) : Int) < (((l).length : Nat) : Int)) rfl (fun c11 => ?_) (fun c11 => ?_)
  · refine C.skip ?_
    refine C.seq ?_
    refine C.block ?_
    refine C.seq ?_
    refine C.region ?_
    refine O.val (v := .slice (A) ((l).length) (c)) rfl (Ru.move rfl) rfl ?_
    refine O.val (v := I (((k : Nat) : Int))) rfl (Ru.move rfl) rfl ?_
    have hx4_2 : k < (l).length := (by first | omega | (simp; omega))
    refine O.val (v := .pointer (ofs (A) (k * 1))) rfl (Ru.indexA (j := k) Try.underlying71 el3 rfl rfl (smm (hA.at hM_l2) hx4_2) (by omega) (by first | omega | (simp; omega))) rfl ?_
    refine O.val rfl (Ru.load1 el3 rfl (ldm (hA.at hM_l2) hx4_2)) rfl ?_
    refine O.val (v := I (lo)) rfl (Ru.move rfl) rfl ?_
    refine O.val (v := I (hi)) rfl (Ru.move rfl) rfl ?_
    refine O.callg [I ((l)[k]'hx4_2), I (lo), I (hi)] rfl en70 rfl rfl (inRange_fn ((l)[k]'hx4_2) lo hi w_l2 ) ?_
    rintro _ w4_6 ⟨rfl, hR4_6⟩
    have hM4_6 : Mem w w4_6 [] [] := Mem.call (Ma := []) hM_l2 hR4_6 rfl
    refine O.val (v := .bool (!(decide (lo ≤ ((l)[k]'hx4_2)) && decide (((l)[k]'hx4_2) ≤ hi)))) rfl (Ru.not rfl) rfl ?_
    refine O.nil ?_
    refine C.condn (b := (decide (lo ≤ ((l)[k]'hx4_2)) && decide (((l)[k]'hx4_2) ≤ hi))) rfl (fun c21 => ?_) (fun c21 => ?_)
    · refine C.seq ?_
      refine C.region ?_
      refine O.val (v := .bool (false)) rfl (Ru.assign rfl) rfl ?_
      refine O.nil ?_
      refine C.ret ?_
      refine P1 (v := .bool (false)) rfl ?_
      exact ⟨(by rw [all_fail (p := fun a => decide (lo ≤ a) && decide (a ≤ hi)) hx4_2 c21]), (Mem.none hM4_6)⟩
    · refine C.skip ?_
      refine C.region ?_
      refine O.val (v := I (((k : Nat) : Int))) rfl (Ru.move rfl) rfl ?_
      refine O.val (v := I ((((k + 1) : Nat) : Int))) rfl (Ru.congr (v := I ((((k : Nat) : Int) + 1))) (v' := I ((((k + 1) : Nat) : Int))) (Ru.add rfl rfl (by omega)) (I_congr (by first | omega | simp))) rfl ?_
      refine O.val (v := I ((((k + 1) : Nat) : Int))) rfl (Ru.assign rfl) rfl ?_
      refine O.nil ?_
      exact loopEnd (k + 1) (by (try dsimp only); omega) (Has.cons rfl (Has.cons rfl (Has.cons rfl (Has.cons (I_congr (by first | rfl | omega | (simp; omega) | simp)) Has.nil)))) ⟨(by (try dsimp only); omega), (all_step hi1_l2 hx4_2 c21), (hM4_6.pick [] (by decide) rfl)⟩
  · refine C.exit ?_
    refine C.seq ?_
    refine C.region ?_
    refine O.val (v := .bool (true)) rfl (Ru.assign rfl) rfl ?_
    refine O.nil ?_
    refine C.ret ?_
    refine P1 (v := .bool (true)) rfl ?_
    exact ⟨(by rw [all_end hi1_l2 (by omega)]), (Mem.none hM_l2)⟩

theorem validKeys_fn (A : Option Addr) (c : Nat) (l : List Int) (w : World) (hA : Rd w A ((l).map I)) (hl : l.length ≤ 1048576) :
    Does Try.prog 73 [.slice (A) ((l).length) (c)] w (fun v w1 => v = .bool (validK l) ∧ Mem w w1 [] []) := by
  have hM : Mem w w [] [] := Mem.refl
  refine Does.enter1 Try.func73 rfl Try.results73 Try.ntmps73 rfl ?_
  refine C.seq ?_
  refine C.region ?_
  refine O.val (v := .bool (false)) rfl (Ru.assign rfl) rfl ?_
  refine O.nil ?_
  refine C.seq ?_
  refine C.seq ?_
  refine C.region ?_
  refine O.val (v := I (1)) rfl (Ru.assign rfl) rfl ?_
  refine O.nil ?_
  refine C.block ?_
  refine C.loop (ι := Nat) (fun k => ([(0, .slice (A) ((l).length) (c)), (3, I (((k : Nat) : Int)))] : List (Nat × Value))) (fun k w_ => (1 ≤ k ∧ k ≤ l.length + 1) ∧ (asc (l.take k) = true) ∧ (Mem w w_ [] [])) (fun k => l.length + 1 - k) (1) (Has.cons rfl (Has.cons (I_congr (by first | rfl | omega | (simp; omega) | simp)) Has.nil)) ⟨(by (try dsimp only); omega), (by (try dsimp only); cases l with | nil => rfl | cons a l => simp [asc]), (hM.pick [] (by decide) rfl)⟩ (fun k σ w_l2 hI => ?_)
  try dsimp only at hI
  obtain ⟨hi0_l2, hi1_l2, hM_l2⟩ := hI
  refine C.seq ?_
  refine C.seq ?_
  refine C.region ?_
  refine O.val (v := I (((k : Nat) : Int))) rfl (Ru.move rfl) rfl ?_
  refine O.val (v := .slice (A) ((l).length) (c)) rfl (Ru.move rfl) rfl ?_
  refine O.val (v := I ((((l).length : Nat) : Int))) rfl (Ru.blenSlice Try.underlying71 rfl) rfl ?_
  refine O.val (v := .bool (decide (((k : Nat) : Int) < (((l).length : Nat) : Int)))) rfl (Ru.lss rfl rfl) rfl ?_
  refine O.nil ?_
  refine C.cond (p := ((k : Nat) : Int) < (((l).length : Nat) : Int)) rfl (fun c7 => ?_) (fun c7 => ?_)
  · refine C.skip ?_
    refine C.seq ?_
    refine C.block ?_
    refine C.seq ?_
    refine C.draws (fun w2 => Mem w w2 [] []) mixed (by kernel_rfl) (hM_l2.ext (kdrawn _)) ?_
    refine QO.val (v := .slice (A) ((l).length) (c)) rfl (fun w2 hw2 => Ru.move rfl) rfl ?_
    refine QO.val (v := I (((k : Nat) : Int))) rfl (fun w2 hw2 => Ru.move rfl) rfl ?_
    have hx4_2 : k < (l).length := (by first | omega | (simp; omega))
    refine QO.val (v := .pointer (ofs (A) (k * 1))) rfl (fun w2 hw2 => Ru.indexA (j := k) Try.underlying71 el3 rfl rfl (smm (hA.at hw2) hx4_2) (by omega) (by first | omega | (simp; omega))) rfl ?_
    refine QO.val rfl (fun w2 hw2 => Ru.load1 el3 rfl (ldm (hA.at hw2) hx4_2)) rfl ?_
    refine QO.val (v := .slice (A) ((l).length) (c)) rfl (fun w2 hw2 => Ru.move rfl) rfl ?_
    refine QO.val (v := I (((k : Nat) : Int))) rfl (fun w2 hw2 => Ru.move rfl) rfl ?_
    refine QO.val (v := I ((((k : Nat) : Int) - 1))) rfl (fun w2 hw2 => Ru.sub rfl rfl (by omega)) rfl ?_
    have hx4_7 : k - 1 < (l).length := (by first | omega | (simp; omega))
    refine QO.val (v := .pointer (ofs (A) ((k - 1) * 1))) rfl (fun w2 hw2 => Ru.indexA (j := k - 1) Try.underlying71 el3 rfl rfl (smm (hA.at hw2) hx4_7) (by omega) (by first | omega | (simp; omega))) rfl ?_
    refine QO.val rfl (fun w2 hw2 => Ru.load1 el3 rfl (ldm (hA.at hw2) hx4_7)) rfl ?_
    refine QO.val (v := .bool (decide ((l)[k]'hx4_2 ≤ (l)[k - 1]'hx4_7))) rfl (fun w2 hw2 => Ru.leq rfl rfl) rfl ?_
    refine QO.nil ?_
    intro w4d hM4d
    refine C.cond (p := (l)[k]'hx4_2 ≤ (l)[k - 1]'hx4_7) rfl (fun c19 => ?_) (fun c19 => ?_)
    · refine C.seq ?_
      refine C.region ?_
      refine O.val (v := .bool (false)) rfl (Ru.assign rfl) rfl ?_
      refine O.nil ?_
      refine C.ret ?_
      refine P1 (v := .bool (false)) rfl ?_
      exact ⟨(by rw [validK_no2 (by omega) hx4_2 (by omega)]), (Mem.none hM4d)⟩
    · refine C.skip ?_
      refine C.region ?_
      refine O.val (v := I (((k : Nat) : Int))) rfl (Ru.move rfl) rfl ?_
      refine O.val (v := I ((((k + 1) : Nat) : Int))) rfl (Ru.congr (v := I ((((k : Nat) : Int) + 1))) (v' := I ((((k + 1) : Nat) : Int))) (Ru.add rfl rfl (by omega)) (I_congr (by first | omega | simp))) rfl ?_
      refine O.val (v := I ((((k + 1) : Nat) : Int))) rfl (Ru.assign rfl) rfl ?_
      refine O.nil ?_
      exact loopEnd (k + 1) (by (try dsimp only); omega) (Has.cons rfl (Has.cons (I_congr (by first | rfl | omega | (simp; omega) | simp)) Has.nil)) ⟨(by (try dsimp only); omega), (asc_take hi1_l2 hx4_2 (fun h0 => by omega)), (hM4d.pick [] (by decide) rfl)⟩
  · refine C.exit ?_
    refine C.seq ?_
    refine C.region ?_
    refine O.val (v := .slice (A) ((l).length) (c)) rfl (Ru.move rfl) rfl ?_
    refine O.callg [.slice (A) ((l).length) (c), I (0), I (99)] rfl en80 rfl rfl (allIn_fn A c l 0 99 w_l2 (hA.at hM_l2) (by first | omega | assumption | (simp; omega) | simp | (intros; omega))) ?_
    rintro _ w6_1 ⟨rfl, hR6_1⟩
    have hM6_1 : Mem w w6_1 [] [] := Mem.call (Ma := []) hM_l2 hR6_1 rfl
    refine O.val (v := .bool (l.all (fun a => decide (0 ≤ a) && decide (a ≤ 99)))) rfl (Ru.assign rfl) rfl ?_
    refine O.nil ?_
    refine C.ret ?_
    refine P1 (v := .bool (l.all (fun a => decide (0 ≤ a) && decide (a ≤ 99)))) rfl ?_
    exact ⟨(by rw [validK, show asc l = true from by rwa [take_all (by omega)] at hi1_l2, Bool.and_true]; rfl), (Mem.none hM6_1)⟩

theorem isIn_fn (A : Option Addr) (c : Nat) (l : List Int) (n : Int) (w : World) (hA : Rd w A ((l).map I)) (hl : l.length ≤ 1048576) :
    Does Try.prog 75 [.slice (A) ((l).length) (c), I (n)] w (fun v w1 => v = .bool (decide (n ∈ l)) ∧ Mem w w1 [] []) := by
  have hM : Mem w w [] [] := Mem.refl
  refine Does.enter1 Try.func75 rfl Try.results75 Try.ntmps75 rfl ?_
  refine C.seq ?_
  refine C.region ?_
  refine O.val (v := .bool (false)) rfl (Ru.assign rfl) rfl ?_
  refine O.nil ?_
  refine C.seq ?_
  refine C.seq ?_
  refine C.region ?_
  refine O.val (v := I (0)) rfl (Ru.assign rfl) rfl ?_
  refine O.nil ?_
  refine C.block ?_
  refine C.loop (ι := Nat) (fun k => ([(0, .slice (A) ((l).length) (c)), (1, I (n)), (5, I (((k : Nat) : Int)))] : List (Nat × Value))) (fun k w_ => (k ≤ l.length) ∧ (∀ x ∈ l.take k, x ≠ n) ∧ (Mem w w_ [] [])) (fun k => l.length - k) (0) (Has.cons rfl (Has.cons rfl (Has.cons (I_congr (by first | rfl | omega | (simp; omega) | simp)) Has.nil))) ⟨(Nat.zero_le _), (by (try dsimp only); simp), (hM.pick [] (by decide) rfl)⟩ (fun k σ w_l2 hI => ?_)
  try dsimp only at hI
  obtain ⟨hi0_l2, hi1_l2, hM_l2⟩ := hI
  refine C.seq ?_
  refine C.seq ?_
  refine C.region ?_
  refine O.val (v := I (((k : Nat) : Int))) rfl (Ru.move rfl) rfl ?_
  refine O.val (v := .slice (A) ((l).length) (c)) rfl (Ru.move rfl) rfl ?_
  refine O.val (v := I ((((l).length : Nat) : Int))) rfl (Ru.blenSlice Try.underlying71 rfl) rfl ?_
  refine O.val (v := .bool (decide (((k : Nat) : Int) < (((l).length : Nat) : Int)))) rfl (Ru.lss rfl rfl) rfl ?_
  refine O.nil ?_
  refine C.cond (p := ((k : Nat) : Int) < (((l).length : Nat) : Int)) rfl (fun c9 => ?_) (fun c9 => ?_)
  · refine C.skip ?_
    refine C.seq ?_
    refine C.block ?_
    refine C.seq ?_
    refine C.region ?_
    refine O.val (v := .slice (A) ((l).length) (c)) rfl (Ru.move rfl) rfl ?_
    refine O.val (v := I (((k : Nat) : Int))) rfl (Ru.move rfl) rfl ?_
    have hx4_2 : k < (l).length := (by first | omega | (simp; omega))
    refine O.val (v := .pointer (ofs (A) (k * 1))) rfl (Ru.indexA (j := k) Try.underlying71 el3 rfl rfl (smm (hA.at hM_l2) hx4_2) (by omega) (by first | omega | (simp; omega))) rfl ?_
    refine O.val rfl (Ru.load1 el3 rfl (ldm (hA.at hM_l2) hx4_2)) rfl ?_
    refine O.val (v := I (n)) rfl (Ru.move rfl) rfl ?_
    refine O.val (v := .bool (decide ((l)[k]'hx4_2 = n))) rfl (Ru.eql rfl rfl) rfl ?_
    refine O.nil ?_
    refine C.cond (p := (l)[k]'hx4_2 = n) rfl (fun c17 => ?_) (fun c17 => ?_)
    · refine C.seq ?_
      refine C.region ?_
      refine O.val (v := .bool (true)) rfl (Ru.assign rfl) rfl ?_
      refine O.nil ?_
      refine C.ret ?_
      refine P1 (v := .bool (true)) rfl ?_
      exact ⟨(by rw [decide_eq_true (by rw [← c17]; exact List.getElem_mem hx4_2)]), (Mem.none hM_l2)⟩
    · refine C.skip ?_
      refine C.region ?_
      refine O.val (v := I (((k : Nat) : Int))) rfl (Ru.move rfl) rfl ?_
      refine O.val (v := I ((((k + 1) : Nat) : Int))) rfl (Ru.congr (v := I ((((k : Nat) : Int) + 1))) (v' := I ((((k + 1) : Nat) : Int))) (Ru.add rfl rfl (by omega)) (I_congr (by first | omega | simp))) rfl ?_
      refine O.val (v := I ((((k + 1) : Nat) : Int))) rfl (Ru.assign rfl) rfl ?_
      refine O.nil ?_
      exact loopEnd (k + 1) (by (try dsimp only); omega) (Has.cons rfl (Has.cons rfl (Has.cons (I_congr (by first | rfl | omega | (simp; omega) | simp)) Has.nil))) ⟨(by (try dsimp only); omega), (mem_step hi1_l2 hx4_2 c17), (hM_l2.pick [] (by decide) rfl)⟩
  · refine C.exit ?_
    refine C.seq ?_
    refine C.region ?_
    refine O.val (v := .bool (false)) rfl (Ru.assign rfl) rfl ?_
    refine O.nil ?_
    refine C.ret ?_
    refine P1 (v := .bool (false)) rfl ?_
    exact ⟨(by rw [mem_end hi1_l2 (by omega)]), (Mem.none hM_l2)⟩

theorem sbelow_fn (A : Option Addr) (c : Nat) (l : List Int) (k : Int) (w : World) (hA : Rd w A ((l).map I)) (hl : l.length ≤ 1048576) :
    Does Try.prog 76 [.slice (A) ((l).length) (c), I (k)] w (fun v w1 => v = I ((below l k : Int)) ∧ Mem w w1 [] []) := by
  have hM : Mem w w [] [] := Mem.refl
  refine Does.enter1 Try.func76 rfl Try.results76 Try.ntmps76 rfl ?_
  refine C.seq ?_
  refine C.region ?_
  refine O.val (v := I (0)) rfl (Ru.assign rfl) rfl ?_
  refine O.nil ?_
  refine C.seq ?_
  refine C.region ?_
  refine O.val (v := I (0)) rfl (Ru.assign rfl) rfl ?_
  refine O.nil ?_
  refine C.seq ?_
  refine C.block ?_
  refine C.loop (ι := Nat) (fun n => ([(0, .slice (A) ((l).length) (c)), (1, I (k)), (5, I (((n : Nat) : Int)))] : List (Nat × Value))) (fun n w_ => (n ≤ below l k) ∧ (Mem w w_ [] [])) (fun n => l.length - n) (0) (Has.cons rfl (Has.cons rfl (Has.cons (I_congr (by first | rfl | omega | (simp; omega) | simp)) Has.nil))) ⟨(Nat.zero_le _), (hM.pick [] (by decide) rfl)⟩ (fun n σ w_l2 hI => ?_)
  try dsimp only at hI
  obtain ⟨hi0_l2, hM_l2⟩ := hI
  refine C.seq ?_
  refine C.seq ?_
  refine C.region ?_
  refine O.val (v := I (((n : Nat) : Int))) rfl (Ru.move rfl) rfl ?_
  refine O.val (v := .slice (A) ((l).length) (c)) rfl (Ru.move rfl) rfl ?_
  refine O.val (v := I ((((l).length : Nat) : Int))) rfl (Ru.blenSlice Try.underlying71 rfl) rfl ?_
  refine O.val (v := .bool (decide (((n : Nat) : Int) < (((l).length : Nat) : Int)))) rfl (Ru.lss rfl rfl) rfl ?_
  refine O.val (v := .bool (decide (((n : Nat) : Int) < (((l).length : Nat) : Int)))) rfl (Ru.move rfl) rfl ?_
  refine O.partp 10 (((n : Nat) : Int) < (((l).length : Nat) : Int)) rfl (fun g10 => ?_) (fun g10 => ?_)
  · refine O.val (v := .slice (A) ((l).length) (c)) rfl (Ru.move rfl) rfl ?_
    refine O.val (v := I (((n : Nat) : Int))) rfl (Ru.move rfl) rfl ?_
    have hx2_7 : n < (l).length := (by first | omega | (simp; omega))
    refine O.val (v := .pointer (ofs (A) (n * 1))) rfl (Ru.indexA (j := n) Try.underlying71 el3 rfl rfl (smm (hA.at hM_l2) hx2_7) (by omega) (by first | omega | (simp; omega))) rfl ?_
    refine O.val rfl (Ru.load1 el3 rfl (ldm (hA.at hM_l2) hx2_7)) rfl ?_
    refine O.val (v := I (k)) rfl (Ru.move rfl) rfl ?_
    refine O.val (v := .bool (decide ((l)[n]'hx2_7 < k))) rfl (Ru.lss rfl rfl) rfl ?_
    refine O.val (v := .bool (decide ((l)[n]'hx2_7 < k))) rfl (Ru.pickT rfl rfl) rfl ?_
    refine O.nil ?_
    refine C.cond (p := (l)[n]'hx2_7 < k) rfl (fun c17 => ?_) (fun c17 => ?_)
    · refine C.skip ?_
      refine C.block ?_
      refine C.region ?_
      refine O.val (v := I (((n : Nat) : Int))) rfl (Ru.move rfl) rfl ?_
      refine O.val (v := I ((((n + 1) : Nat) : Int))) rfl (Ru.congr (v := I ((((n : Nat) : Int) + 1))) (v' := I ((((n + 1) : Nat) : Int))) (Ru.add rfl rfl (by omega)) (I_congr (by first | omega | simp))) rfl ?_
      refine O.val (v := I ((((n + 1) : Nat) : Int))) rfl (Ru.assign rfl) rfl ?_
      refine O.nil ?_
      exact loopEnd (n + 1) (by (try dsimp only); omega) (Has.cons rfl (Has.cons rfl (Has.cons (I_congr (by first | rfl | omega | (simp; omega) | simp)) Has.nil))) ⟨(below_step hi0_l2 hx2_7 c17), (hM_l2.pick [] (by decide) rfl)⟩
    · refine C.exit ?_
      refine C.seq ?_
      refine C.region ?_
      refine O.val (v := I (((n : Nat) : Int))) rfl (Ru.move rfl) rfl ?_
      refine O.val (v := I (((n : Nat) : Int))) rfl (Ru.assign rfl) rfl ?_
      refine O.nil ?_
      refine C.ret ?_
      refine P1 (v := I (((n : Nat) : Int))) rfl ?_
      exact ⟨(I_congr (by rw [below_end hi0_l2 (by first | exact .inl (by omega) | exact .inr ⟨hx2_7, by omega⟩)])), (Mem.none hM_l2)⟩
  · refine O.pass rfl rfl rfl rfl rfl ?_
    refine O.pass rfl rfl rfl rfl rfl ?_
    refine O.pass rfl rfl rfl rfl rfl ?_
    refine O.pass rfl rfl rfl rfl rfl ?_
    refine O.pass rfl rfl rfl rfl rfl ?_
    refine O.pass rfl rfl rfl rfl rfl ?_
    refine O.val (v := .bool (false)) rfl (Ru.pickF rfl rfl) rfl ?_
    refine O.nil ?_
    refine C.condF rfl ?_
    refine C.exit ?_
    refine C.seq ?_
    refine C.region ?_
    refine O.val (v := I (((n : Nat) : Int))) rfl (Ru.move rfl) rfl ?_
    refine O.val (v := I (((n : Nat) : Int))) rfl (Ru.assign rfl) rfl ?_
    refine O.nil ?_
    refine C.ret ?_
    refine P1 (v := I (((n : Nat) : Int))) rfl ?_
    exact ⟨(I_congr (by rw [below_end hi0_l2 (by first | exact .inl (by omega) | exact .inr ⟨hx2_7, by omega⟩)])), (Mem.none hM_l2)⟩

theorem skeysOf_fn (A : Option Addr) (c : Nat) (l : List PairT) (w : World) (hA : Rd w A ((l).flatMap encP)) (hl : l.length ≤ 1048576) :
    Does Try.prog 74 [.slice (A) ((l).length) (c)] w (fun v w1 => ∃ (A1 : Option Addr) (c1 : Nat), v = .slice (A1) ((keysP l).length) (c1) ∧ Mem w w1 [] [[⟨.slice (A1) ((keysP l).length) (c1), 3, 1, ((keysP l).length), (keysP l).map I⟩]]) := by
  have hM : Mem w w [] [] := Mem.refl
  refine Does.enter1 Try.func74 rfl Try.results74 Try.ntmps74 rfl ?_
  refine C.seq ?_
  refine C.region ?_
  refine O.val (v := .slice (none) (0) (0)) rfl (Ru.assign rfl) rfl ?_
  refine O.nil ?_
  refine C.seq ?_
  refine C.region ?_
  refine O.mlit (sz := 1) (cs := []) hM rfl Try.underlying71 el3 rfl rfl rfl (by kernel_rfl) (by kernel_rfl) rfl rfl (fun w1_0 b1_0 hb1_0 (hM1_0 : Mem w w1_0 [] [[⟨.slice (bl b1_0) (0) (0), 3, 1, 0, ([]).map I⟩]]) => ?_)
  refine O.val (v := .slice (bl b1_0) (0) (0)) rfl (Ru.assign rfl) rfl ?_
  refine O.nil ?_
  refine C.seq ?_
  refine C.seq ?_
  refine C.region ?_
  refine O.val (v := I (0)) rfl (Ru.assign rfl) rfl ?_
  refine O.nil ?_
  refine C.block ?_
  have hq1 : ([] : List Int) = keysP (l.take 0) := (by first | rfl | simp | (simp; omega))
  have hMn1 : Mem w w1_0 [] [[⟨.slice (bl b1_0) ((keysP (l.take 0)).length) (0), 3, 1, ((keysP (l.take 0)).length), (keysP (l.take 0)).map I⟩]] := hM1_0.relen 0 (n' := (keysP (l.take 0)).length) (xs' := (keysP (l.take 0)).map I) rfl (by first | rfl | exact congrArg List.length hq1 | (have hqq := congrArg List.length hq1; first | omega | (simp at hqq ⊢; omega)) | (simp; done) | (simp; omega)) (congrArg (fun z_ => (z_).map I) hq1) rfl
  refine C.loop (ι := Nat × (Option Addr) × Nat) (fun x_ => ([(0, .slice (A) ((l).length) (c)), (3, .slice (x_.2.1) ((keysP (l.take x_.1)).length) (x_.2.2)), (4, I (((x_.1 : Nat) : Int)))] : List (Nat × Value))) (fun x_ w_ => (x_.1 ≤ l.length) ∧ (Mem w w_ [] [[⟨.slice (x_.2.1) ((keysP (l.take x_.1)).length) (x_.2.2), 3, 1, ((keysP (l.take x_.1)).length), (keysP (l.take x_.1)).map I⟩]])) (fun x_ => l.length - x_.1) (0, bl b1_0, 0) (Has.cons rfl (Has.cons (sl_congr (by first | rfl | omega | (simp; done) | (simp; omega) | exact congrArg List.length hq1 | (simp [← hq1]; done) | (simp [← hq1]; omega))) (Has.cons (I_congr (by first | rfl | omega | (simp; omega) | simp)) Has.nil))) ⟨(Nat.zero_le _), (hMn1.pick [0] (by decide) rfl)⟩ (fun ⟨k, A2, c2⟩ σ w_l3 hI => ?_)
  try dsimp only at hI
  obtain ⟨hi0_l3, hM_l3⟩ := hI
  have hcl0_l3 := (hM_l3.cap 0 rfl).1
  refine C.seq ?_
  refine C.seq ?_
  refine C.region ?_
  refine O.val (v := I (((k : Nat) : Int))) rfl (Ru.move rfl) rfl ?_
  refine O.val (v := .slice (A) ((l).length) (c)) rfl (Ru.move rfl) rfl ?_
  refine O.val (v := I ((((l).length : Nat) : Int))) rfl (Ru.blenSlice Try.underlying36 rfl) rfl ?_
  refine O.val (v := .bool (decide (((k : Nat) : Int) < (((l).length : Nat) : Int)))) rfl (Ru.lss rfl rfl) rfl ?_
  refine O.nil ?_
  refine C.cond (p := ((k : Nat) : Int) < (((l).length : Nat) : Int)) rfl (fun c9 => ?_) (fun c9 => ?_)
  · refine C.skip ?_
    refine C.seq ?_
    refine C.block ?_
    refine C.region ?_
    refine O.val (v := .slice (A2) ((keysP (l.take k)).length) (c2)) rfl (Ru.move rfl) rfl ?_
    refine O.val (v := .slice (A) ((l).length) (c)) rfl (Ru.move rfl) rfl ?_
    refine O.val (v := I (((k : Nat) : Int))) rfl (Ru.move rfl) rfl ?_
    have hx5_3 : k < (l).length := (by first | omega | (simp; omega))
    refine O.val (v := .pointer (ofs (A) (k * 2))) rfl (Ru.indexA (j := k) Try.underlying36 el53 rfl rfl (smf encP_len (hA.at hM_l3) hx5_3 rfl) (by omega) (by first | omega | (simp; omega))) rfl ?_
    refine O.val (v := .pointer (ofs (A) (k * 2 + 0))) rfl (Ru.fieldA fl53_0 rfl (smf encP_len (hA.at hM_l3) hx5_3 rfl)) rfl ?_
    refine O.val rfl (Ru.load1 el3 rfl (ldf encP_len (hA.at hM_l3) hx5_3 rfl)) rfl ?_
    refine O.mlit (sz := 1) (cs := [I (((l)[k]'hx5_3).key)]) hM_l3 rfl Try.underlying71 el3 rfl rfl rfl (by kernel_rfl) (by kernel_rfl) rfl rfl (fun w5_6 b5_6 hb5_6 (hM5_6 : Mem w w5_6 [] [[⟨.slice (bl b5_6) (1) (1), 3, 1, 1, ([((l)[k]'hx5_3).key]).map I⟩], [⟨.slice (A2) ((keysP (l.take k)).length) (c2), 3, 1, ((keysP (l.take k)).length), (keysP (l.take k)).map I⟩]]) => ?_)
    refine O.mappend (sz := 1) (news := ([((l)[k]'hx5_3).key]).map I) (m1 := (keysP (l.take k) ++ [((l)[k]'hx5_3).key]).length) (xs1 := (keysP (l.take k) ++ [((l)[k]'hx5_3).key]).map I) (M' := fun A5_7 c5_7 => [[⟨.slice (bl b5_6) (1) (1), 3, 1, 1, ([((l)[k]'hx5_3).key]).map I⟩], [⟨.slice (A5_7) ((keysP (l.take k) ++ [((l)[k]'hx5_3).key]).length) (c5_7), 3, 1, ((keysP (l.take k) ++ [((l)[k]'hx5_3).key]).length), (keysP (l.take k) ++ [((l)[k]'hx5_3).key]).map I⟩]]) 1 0 hM5_6 rfl rfl rfl Try.underlying71 el3 ⟨rfl, by decide⟩ rfl rfl rfl (hM5_6.rd 0 rfl) (by first | (simp; done) | (simp; omega)) (all_map_one (fun _ => rfl) _) (by first | omega | (simp; omega)) (by first | omega | (simp; omega)) (by first | (simp; done) | (simp; omega)) (by simp) (fun _ _ => rfl) (fun w5_7 A5_7 c5_7 hc5_7 hM5_7 => ?_)
    try dsimp only at hM5_7
    refine O.val (v := .slice (A5_7) ((keysP (l.take k) ++ [((l)[k]'hx5_3).key]).length) (c5_7)) rfl (Ru.assign rfl) rfl ?_
    refine O.nil ?_
    refine C.region ?_
    refine O.val (v := I (((k : Nat) : Int))) rfl (Ru.move rfl) rfl ?_
    refine O.val (v := I ((((k + 1) : Nat) : Int))) rfl (Ru.congr (v := I ((((k : Nat) : Int) + 1))) (v' := I ((((k + 1) : Nat) : Int))) (Ru.add rfl rfl (by omega)) (I_congr (by first | omega | simp))) rfl ?_
    refine O.val (v := I ((((k + 1) : Nat) : Int))) rfl (Ru.assign rfl) rfl ?_
    refine O.nil ?_
    have hq2 : (keysP (l.take k) ++ [((l)[k]'hx5_3).key] : List Int) = keysP (l.take (k + 1)) := (map_snoc hx5_3)
    have hMn2 : Mem w w5_7 [] [[⟨.slice (bl b5_6) (1) (1), 3, 1, 1, ([((l)[k]'hx5_3).key]).map I⟩], [⟨.slice (A5_7) ((keysP (l.take (k + 1))).length) (c5_7), 3, 1, ((keysP (l.take (k + 1))).length), (keysP (l.take (k + 1))).map I⟩]] := hM5_7.relen 1 (n' := (keysP (l.take (k + 1))).length) (xs' := (keysP (l.take (k + 1))).map I) rfl (by first | rfl | exact congrArg List.length hq2 | (have hqq := congrArg List.length hq2; first | omega | (simp at hqq ⊢; omega)) | (simp; done) | (simp; omega)) (congrArg (fun z_ => (z_).map I) hq2) rfl
    exact loopEnd (k + 1, A5_7, c5_7) (by (try dsimp only); omega) (Has.cons rfl (Has.cons (sl_congr (by first | rfl | omega | (simp; done) | (simp; omega) | exact congrArg List.length hq2 | (simp [← hq2]; done) | (simp [← hq2]; omega))) (Has.cons (I_congr (by first | rfl | omega | (simp; omega) | simp)) Has.nil))) ⟨(by (try dsimp only); omega), (hMn2.pick [1] (by decide) rfl)⟩
  · refine C.exit ?_
    refine C.seq ?_
    refine C.region ?_
    refine O.val (v := .slice (A2) ((keysP (l.take k)).length) (c2)) rfl (Ru.move rfl) rfl ?_
    refine O.val (v := .slice (A2) ((keysP (l.take k)).length) (c2)) rfl (Ru.assign rfl) rfl ?_
    refine O.nil ?_
    refine C.ret ?_
    refine P1 (v := .slice (A2) ((keysP (l.take k)).length) (c2)) rfl ?_
    have hq3 : (keysP (l.take k) : List Int) = keysP l := (by rw [take_all (by omega)])
    have hMn3 : Mem w w_l3 [] [[⟨.slice (A2) ((keysP l).length) (c2), 3, 1, ((keysP l).length), (keysP l).map I⟩]] := hM_l3.relen 0 (n' := (keysP l).length) (xs' := (keysP l).map I) rfl (by first | rfl | exact congrArg List.length hq3 | (have hqq := congrArg List.length hq3; first | omega | (simp at hqq ⊢; omega)) | (simp; done) | (simp; omega)) (congrArg (fun z_ => (z_).map I) hq3) rfl
    exact ⟨A2, c2, (by first | rfl | exact sl_congr (by first | omega | (simp; done) | (simp; omega)) | (simp; done)), (hMn3.pick [0] (by decide) rfl)⟩

theorem keysOfRow_fn (A : Option Addr) (c : Nat) (l : List PairT) (w : World) (hA : Rd w A ((l).flatMap encP)) (hl : l.length ≤ 1048576) :
    Does Try.prog 60 [.slice (A) ((l).length) (c)] w (fun v w1 => ∃ (A1 : Option Addr) (c1 : Nat), v = .slice (A1) ((keysP l).length) (c1) ∧ Mem w w1 [] [[⟨.slice (A1) ((keysP l).length) (c1), 3, 1, ((keysP l).length), (keysP l).map I⟩]]) := by
  have hM : Mem w w [] [] := Mem.refl
  refine Does.enter1 Try.func60 rfl Try.results60 Try.ntmps60 rfl ?_
  refine C.seq ?_
  refine C.region ?_
  refine O.val (v := .slice (none) (0) (0)) rfl (Ru.assign rfl) rfl ?_
  refine O.nil ?_
  refine C.seq ?_
  refine C.region ?_
  refine O.val (v := .slice (A) ((l).length) (c)) rfl (Ru.move rfl) rfl ?_
  refine O.val (v := I ((((l).length : Nat) : Int))) rfl (Ru.blenSlice Try.underlying36 rfl) rfl ?_
  refine O.mmake (k := (l).length) (sz := 1) (xs := (List.replicate ((l).length) (0 : Int)).map I) hM rfl Try.underlying71 el3 rfl rfl rfl rfl (by omega) (by omega) (zer_map rfl) (fun w1_2 b1_2 hb1_2 (hM1_2 : Mem w w1_2 [] [[⟨.slice (bl b1_2) ((l).length) ((l).length), 3, 1, ((l).length), (List.replicate ((l).length) (0 : Int)).map I⟩]]) => ?_)
  refine O.val (v := .slice (bl b1_2) ((l).length) ((l).length)) rfl (Ru.assign rfl) rfl ?_
  refine O.nil ?_
  refine C.seq ?_
  refine C.seq ?_
  refine C.region ?_
  refine O.val (v := .slice (A) ((l).length) (c)) rfl (Ru.move rfl) rfl ?_
  refine O.val (v := I ((((l).length : Nat) : Int))) rfl (Ru.blenSlice Try.underlying36 rfl) rfl ?_
  refine O.val (v := I (0)) rfl (Ru.move rfl) rfl ?_
  refine O.nil ?_
  refine C.block ?_
  have hq1 : (List.replicate ((l).length) (0 : Int) : List Int) = keysP (l.take 0) ++ List.replicate (l.length - 0) (0 : Int) := fill_zero
  have hMn1 : Mem w w1_2 [] [[⟨.slice (bl b1_2) (l.length) ((l).length), 3, 1, (l.length), (keysP (l.take 0) ++ List.replicate (l.length - 0) (0 : Int)).map I⟩]] := hM1_2.relen 0 (n' := l.length) (xs' := (keysP (l.take 0) ++ List.replicate (l.length - 0) (0 : Int)).map I) rfl (by first | rfl | exact congrArg List.length hq1 | (have hqq := congrArg List.length hq1; first | omega | (simp at hqq ⊢; omega)) | (simp; done) | (simp; omega)) (congrArg (fun z_ => (z_).map I) hq1) rfl
  refine C.loop (ι := Nat) (fun k => ([(3, .slice (bl b1_2) (l.length) (l.length)), (9, .slice (A) ((l).length) (c)), (10, I ((((l).length : Nat) : Int))), (11, I (((k : Nat) : Int)))] : List (Nat × Value))) (fun k w_ => (k ≤ l.length) ∧ (Mem w w_ [] [[⟨.slice (bl b1_2) (l.length) (l.length), 3, 1, (l.length), (keysP (l.take k) ++ List.replicate (l.length - k) (0 : Int)).map I⟩]])) (fun k => l.length - k) (0) (Has.cons (sl_congr (by first | rfl | omega | (simp; done) | (simp; omega) | exact congrArg List.length hq1 | (simp [← hq1]; done) | (simp [← hq1]; omega))) (Has.cons rfl (Has.cons rfl (Has.cons (I_congr (by first | rfl | omega | (simp; omega) | simp)) Has.nil)))) ⟨(Nat.zero_le _), (hMn1.pick [0] (by decide) rfl)⟩ (fun k σ w_l3 hI => ?_)
  try dsimp only at hI
  obtain ⟨hi0_l3, hM_l3⟩ := hI
  have hcl0_l3 := (hM_l3.cap 0 rfl).1
  refine C.seq ?_
  refine C.region ?_
  refine O.val (v := .bool (decide (((k : Nat) : Int) < (((l).length : Nat) : Int)))) rfl (Ru.lss rfl rfl) rfl ?_
  refine O.nil ?_
  refine C.seq ?_
  refine C.cond (p := ((k : Nat) : Int) < (((l).length : Nat) : Int)) rfl (fun c12 => ?_) (fun c12 => ?_)
  · refine C.skip ?_
    refine C.seq ?_
    refine C.block ?_
    refine C.seq ?_
    refine C.region ?_
    refine O.val (v := I (((k : Nat) : Int))) rfl (Ru.move rfl) rfl ?_
    have hx4_1 : k < (l).length := (by first | omega | (simp; omega))
    refine O.val (v := .pointer (ofs (A) (k * 2))) rfl (Ru.indexA (j := k) Try.underlying36 el53 rfl rfl (smf encP_len (hA.at hM_l3) hx4_1 rfl) (by omega) (by first | omega | (simp; omega))) rfl ?_
    refine O.val rfl (Ru.loadN (vs := [I (((l)[k]'hx4_1).key), I (((l)[k]'hx4_1).val)]) el53 rfl rfl (smf encP_len (hA.at hM_l3) hx4_1 rfl) (ldn encP_len (hA.at hM_l3) hx4_1)) rfl ?_
    refine O.malloc (k := 2) hM_l3 rfl rfl el53 rfl (fun w4_3 b4_3 hb4_3 (hM4_3 : Mem w w4_3 [] [[⟨.slice (bl b4_3) 1 1, 53, 2, 1, [I (0), I (0)]⟩], [⟨.slice (bl b1_2) (l.length) (l.length), 3, 1, (l.length), (keysP (l.take k) ++ List.replicate (l.length - k) (0 : Int)).map I⟩]]) => ?_)
    refine O.val (v := I (((k : Nat) : Int))) rfl (Ru.assign rfl) rfl ?_
    refine O.mstore (vs := [I (((l)[k]'hx4_1).key), I (((l)[k]'hx4_1).val)]) (xs' := [I (((l)[k]'hx4_1).key), I (((l)[k]'hx4_1).val)]) 0 0 hM4_3 rfl rfl rfl el53 rfl rfl rfl rfl rfl (by simp) (by simp) rfl rfl (fun w4_5 (hM4_5 : Mem w w4_5 [] [[⟨.slice (bl b4_3) 1 1, 53, 2, 1, [I (((l)[k]'hx4_1).key), I (((l)[k]'hx4_1).val)]⟩], [⟨.slice (bl b1_2) (l.length) (l.length), 3, 1, (l.length), (keysP (l.take k) ++ List.replicate (l.length - k) (0 : Int)).map I⟩]]) => ?_)
    refine O.nil ?_
    refine C.region ?_
    refine O.val (v := .slice (bl b1_2) (l.length) (l.length)) rfl (Ru.move rfl) rfl ?_
    refine O.val (v := I (((k : Nat) : Int))) rfl (Ru.move rfl) rfl ?_
    refine O.val (v := .pointer (ofs (bl b4_3) (0))) rfl (Ru.fieldA fl53_0 rfl rfl) rfl ?_
    refine O.val rfl (Ru.load1 el3 rfl ((hM4_5.rd 0 rfl).ld rfl)) rfl ?_
    have hx5_4 : k < (keysP (l.take k) ++ List.replicate (l.length - k) (0 : Int)).length := (by rw [fill_len hi0_l3]; exact hx4_1)
    refine O.val (v := .pointer (ofs (bl b1_2) (k * 1))) rfl (Ru.indexA (j := k) Try.underlying71 el3 rfl rfl (smm (hM4_5.rd 1 rfl) hx5_4) (by omega) (by omega)) rfl ?_
    refine O.mstore (vs := [I (((l)[k]'hx4_1).key)]) (xs' := ((keysP (l.take k) ++ List.replicate (l.length - k) (0 : Int)).set (k) (((l)[k]'hx4_1).key)).map I) 1 0 hM4_5 rfl rfl rfl el3 rfl rfl rfl rfl rfl (by simp; omega) (by simp) (spl_map (l := keysP (l.take k) ++ List.replicate (l.length - k) (0 : Int)) (a := ((l)[k]'hx4_1).key) hx5_4) rfl (fun w5_5 (hM5_5 : Mem w w5_5 [] [[⟨.slice (bl b4_3) 1 1, 53, 2, 1, [I (((l)[k]'hx4_1).key), I (((l)[k]'hx4_1).val)]⟩], [⟨.slice (bl b1_2) (l.length) (l.length), 3, 1, (l.length), ((keysP (l.take k) ++ List.replicate (l.length - k) (0 : Int)).set (k) (((l)[k]'hx4_1).key)).map I⟩]]) => ?_)
    refine O.nil ?_
    refine C.region ?_
    refine O.val (v := I ((((k + 1) : Nat) : Int))) rfl (Ru.congr (v := I ((((k : Nat) : Int) + 1))) (v' := I ((((k + 1) : Nat) : Int))) (Ru.add rfl rfl (by omega)) (I_congr (by first | omega | simp))) rfl ?_
    refine O.val (v := I ((((k + 1) : Nat) : Int))) rfl (Ru.move rfl) rfl ?_
    refine O.nil ?_
    have hq2 : ((keysP (l.take k) ++ List.replicate (l.length - k) (0 : Int)).set (k) (((l)[k]'hx4_1).key) : List Int) = keysP (l.take (k + 1)) ++ List.replicate (l.length - (k + 1)) (0 : Int) := (fill_set hx4_1)
    have hMn2 : Mem w w5_5 [] [[⟨.slice (bl b4_3) 1 1, 53, 2, 1, [I (((l)[k]'hx4_1).key), I (((l)[k]'hx4_1).val)]⟩], [⟨.slice (bl b1_2) (l.length) (l.length), 3, 1, (l.length), (keysP (l.take (k + 1)) ++ List.replicate (l.length - (k + 1)) (0 : Int)).map I⟩]] := hM5_5.relen 1 (n' := l.length) (xs' := (keysP (l.take (k + 1)) ++ List.replicate (l.length - (k + 1)) (0 : Int)).map I) rfl (by first | rfl | exact congrArg List.length hq2 | (have hqq := congrArg List.length hq2; first | omega | (simp at hqq ⊢; omega)) | (simp; done) | (simp; omega)) (congrArg (fun z_ => (z_).map I) hq2) rfl
    exact loopEnd (k + 1) (by (try dsimp only); omega) (Has.cons rfl (Has.cons rfl (Has.cons rfl (Has.cons (I_congr (by first | rfl | omega | (simp; omega) | simp)) Has.nil)))) ⟨(by (try dsimp only); omega), (hMn2.pick [1] (by decide) rfl)⟩
  · refine C.exit ?_
    refine C.seq ?_
    refine C.region ?_
    refine O.val (v := .slice (bl b1_2) (l.length) (l.length)) rfl (Ru.move rfl) rfl ?_
    refine O.val (v := .slice (bl b1_2) (l.length) (l.length)) rfl (Ru.assign rfl) rfl ?_
    refine O.nil ?_
    refine C.ret ?_
    refine P1 (v := .slice (bl b1_2) (l.length) (l.length)) rfl ?_
    have hq3 : (keysP (l.take k) ++ List.replicate (l.length - k) (0 : Int) : List Int) = keysP l := (fill_all (by omega))
    have hMn3 : Mem w w_l3 [] [[⟨.slice (bl b1_2) ((keysP l).length) (l.length), 3, 1, ((keysP l).length), (keysP l).map I⟩]] := hM_l3.relen 0 (n' := (keysP l).length) (xs' := (keysP l).map I) rfl (by first | rfl | exact congrArg List.length hq3 | (have hqq := congrArg List.length hq3; first | omega | (simp at hqq ⊢; omega)) | (simp; done) | (simp; omega)) (congrArg (fun z_ => (z_).map I) hq3) rfl
    exact ⟨bl b1_2, l.length, (by first | rfl | exact sl_congr (by first | omega | (simp; done) | (simp; omega)) | (simp; done)), (hMn3.pick [0] (by decide) rfl)⟩

theorem scopyRow_fn (A : Option Addr) (c : Nat) (l : List PairT) (w : World) (hA : Rd w A ((l).flatMap encP)) (hl : l.length ≤ 1048576) :
    Does Try.prog 67 [.slice (A) ((l).length) (c)] w (fun v w1 => ∃ (A1 : Option Addr) (c1 : Nat), v = .slice (A1) ((l).length) (c1) ∧ Mem w w1 [] [[⟨.slice (A1) ((l).length) (c1), 53, 2, ((l).length), (l).flatMap encP⟩]]) := by
  have hM : Mem w w [] [] := Mem.refl
  refine Does.enter1 Try.func67 rfl Try.results67 Try.ntmps67 rfl ?_
  refine C.seq ?_
  refine C.region ?_
  refine O.val (v := .slice (none) (0) (0)) rfl (Ru.assign rfl) rfl ?_
  refine O.nil ?_
  refine C.seq ?_
  refine C.region ?_
  refine O.mlit (sz := 2) (cs := []) hM rfl Try.underlying36 el53 rfl rfl rfl (by kernel_rfl) (by kernel_rfl) rfl rfl (fun w1_0 b1_0 hb1_0 (hM1_0 : Mem w w1_0 [] [[⟨.slice (bl b1_0) (0) (0), 53, 2, 0, ([]).flatMap encP⟩]]) => ?_)
  refine O.val (v := .slice (A) ((l).length) (c)) rfl (Ru.move rfl) rfl ?_
  refine O.mappend (sz := 2) (news := (l).flatMap encP) (m1 := (l).length) (xs1 := (l).flatMap encP) (M' := fun A1_2 c1_2 => [[⟨.slice (A1_2) ((l).length) (c1_2), 53, 2, ((l).length), (l).flatMap encP⟩]]) 0 0 hM1_0 rfl rfl rfl Try.underlying36 el53 ⟨rfl, by decide⟩ rfl rfl rfl (hA.at hM1_0) (by rw [flat_len encP_len]; first | done | (simp; done) | (simp; omega)) (all_flat_one (fun _ => rfl) _) (by first | omega | (simp; omega)) (by first | omega | (simp; omega)) (by first | (simp; done) | (simp; omega)) (by simp) (fun _ _ => rfl) (fun w1_2 A1_2 c1_2 hc1_2 hM1_2 => ?_)
  try dsimp only at hM1_2
  refine O.val (v := .slice (A1_2) ((l).length) (c1_2)) rfl (Ru.assign rfl) rfl ?_
  refine O.nil ?_
  refine C.ret ?_
  refine P1 (v := .slice (A1_2) ((l).length) (c1_2)) rfl ?_
  exact ⟨A1_2, c1_2, (by first | rfl | exact sl_congr (by first | omega | (simp; done) | (simp; omega)) | (simp; done)), (hM1_2.pick [0] (by decide) rfl)⟩

theorem ClonePair_fn (A : Option Addr) (c : Nat) (l : List PairT) (w : World) (hA : Rd w A ((l).flatMap encP)) (hl : l.length ≤ 1048576) :
    Does Try.prog 63 [.slice (A) ((l).length) (c)] w (fun v w1 => ∃ (A1 : Option Addr) (c1 : Nat), v = .slice (A1) ((l).length) (c1) ∧ Mem w w1 [] [[⟨.slice (A1) ((l).length) (c1), 53, 2, ((l).length), (l).flatMap encP⟩]]) := by
  have hM : Mem w w [] [] := Mem.refl
  refine Does.enter1 Try.func63 rfl Try.results63 Try.ntmps63 rfl ?_
  refine C.seq ?_
  refine C.region ?_
  refine O.val (v := .slice (none) (0) (0)) rfl (Ru.assign rfl) rfl ?_
  refine O.nil ?_
  refine C.seq ?_
  refine C.seq ?_
  refine C.region ?_
  refine O.val (v := .slice (A) ((l).length) (c)) rfl (Ru.move rfl) rfl ?_
  refine O.val (v := .bool ((A).isNone)) rfl (Ru.slnil Try.underlying36 rfl rfl) rfl ?_
  refine O.nil ?_
  refine C.condb (t := (A).isNone) rfl (fun c4 => ?_) (fun c4 => ?_)
  · refine C.seq ?_
    refine C.region ?_
    refine O.val (v := .slice (none) (0) (0)) rfl (Ru.assign rfl) rfl ?_
    refine O.nil ?_
    refine C.ret ?_
    refine P1 (v := .slice (none) (0) (0)) rfl ?_
    have hl0 := isNone_flat encP_len (by decide) hA c4
    have hMn1 : Mem w w [] [[⟨.slice (none) (0) (0), 53, 2, 0, ([]).flatMap encP⟩]] := Mem.addNil hM
    have hq2 : ([] : List PairT) = l := hl0.symm
    have hMn2 : Mem w w [] [[⟨.slice (none) ((l).length) (0), 53, 2, ((l).length), (l).flatMap encP⟩]] := hMn1.relen 0 (n' := (l).length) (xs' := (l).flatMap encP) rfl (by first | rfl | exact congrArg List.length hq2 | (have hqq := congrArg List.length hq2; first | omega | (simp at hqq ⊢; omega)) | (simp; done) | (simp; omega)) (congrArg (fun z_ => (z_).flatMap encP) hq2) rfl
    exact ⟨none, 0, (sl_congr (by rw [hl0]; rfl)), (hMn2.pick [0] (by decide) rfl)⟩
  · refine C.skip ?_
    refine C.seq ?_
    refine C.region ?_
    refine O.mlit (sz := 2) (cs := []) hM rfl Try.underlying36 el53 rfl rfl rfl (by kernel_rfl) (by kernel_rfl) rfl rfl (fun w3_0 b3_0 hb3_0 (hM3_0 : Mem w w3_0 [] [[⟨.slice (bl b3_0) (0) (0), 53, 2, 0, ([]).flatMap encP⟩]]) => ?_)
    refine O.val (v := .slice (A) ((l).length) (c)) rfl (Ru.move rfl) rfl ?_
    refine O.mappend (sz := 2) (news := (l).flatMap encP) (m1 := (l).length) (xs1 := (l).flatMap encP) (M' := fun A3_2 c3_2 => [[⟨.slice (A3_2) ((l).length) (c3_2), 53, 2, ((l).length), (l).flatMap encP⟩]]) 0 0 hM3_0 rfl rfl rfl Try.underlying36 el53 ⟨rfl, by decide⟩ rfl rfl rfl (hA.at hM3_0) (by rw [flat_len encP_len]; first | done | (simp; done) | (simp; omega)) (all_flat_one (fun _ => rfl) _) (by first | omega | (simp; omega)) (by first | omega | (simp; omega)) (by first | (simp; done) | (simp; omega)) (by simp) (fun _ _ => rfl) (fun w3_2 A3_2 c3_2 hc3_2 hM3_2 => ?_)
    try dsimp only at hM3_2
    refine O.val (v := .slice (A3_2) ((l).length) (c3_2)) rfl (Ru.assign rfl) rfl ?_
    refine O.nil ?_
    refine C.ret ?_
    refine P1 (v := .slice (A3_2) ((l).length) (c3_2)) rfl ?_
    exact ⟨A3_2, c3_2, (by first | rfl | exact sl_congr (by first | omega | (simp; done) | (simp; omega)) | (simp; done)), (hM3_2.pick [0] (by decide) rfl)⟩

theorem InsertPair_fn (A : Option Addr) (c : Nat) (l : List PairT) (i : Nat) (V : Option Addr) (vc : Nat) (vs : List PairT) (w : World) (hM : Mem w w [(Value.slice (A) ((l).length) (c)).ownBlock, (Value.slice (V) ((vs).length) (vc)).ownBlock] [[⟨.slice (A) ((l).length) (c), 53, 2, ((l).length), (l).flatMap encP⟩], [⟨.slice (V) ((vs).length) (vc), 53, 2, ((vs).length), (vs).flatMap encP⟩]]) (hin : i ≤ l.length) (hl : l.length ≤ 1048576) (hm : 0 < vs.length) (hv : vs.length ≤ 1000) :
    Does Try.prog 78 [.slice (A) ((l).length) (c), I (((i : Nat) : Int)), .slice (V) ((vs).length) (vc)] w (fun v w1 => ∃ (A1 : Option Addr) (c1 : Nat), v = .slice (A1) ((l.take i ++ (vs ++ l.drop i)).length) (c1) ∧ Mem w w1 [(Value.slice (A) ((l).length) (c)).ownBlock, (Value.slice (V) ((vs).length) (vc)).ownBlock] [[⟨.slice (A1) ((l.take i ++ (vs ++ l.drop i)).length) (c1), 53, 2, ((l.take i ++ (vs ++ l.drop i)).length), (l.take i ++ (vs ++ l.drop i)).flatMap encP⟩]]) := by
  have hXl : ((l).flatMap encP).length = l.length * 2 := (flat_len encP_len (l))
  have hVl : ((vs).flatMap encP).length = vs.length * 2 := (flat_len encP_len (vs))
  have hXt : (l.take i).flatMap encP = ((l).flatMap encP).take (i * 2) := (flat_take encP_len l i)
  have hXd : (l.drop i).flatMap encP = ((l).flatMap encP).drop (i * 2) := (flat_drop encP_len l i)
  have hXdl : ((l.drop i).flatMap encP).length = (l.length - i) * 2 := by rw [hXd, List.length_drop, hXl, Nat.sub_mul]
  have hXtl : ((l.take i).flatMap encP).length = i * 2 := by rw [hXt, List.length_take, hXl]; omega
  have hres : (l.take i ++ (vs ++ l.drop i)).flatMap encP = ((l).flatMap encP).take (i * 2) ++ ((vs).flatMap encP ++ ((l).flatMap encP).drop (i * 2)) := by rw [List.flatMap_append, List.flatMap_append, hXt, hXd]
  have hZl : (zer [.int .i64 0, .int .i64 0] (vs.length + l.length - i)).length = (vs.length + l.length - i) * 2 := by rw [zer_length]; rfl
  refine Does.enter1 Try.func78 rfl Try.results78 Try.ntmps78 rfl ?_
  refine C.seq ?_
  refine C.region ?_
  refine O.val (v := .slice (none) (0) (0)) rfl (Ru.assign rfl) rfl ?_
  refine O.nil ?_
  refine C.seq ?_
  refine C.region ?_
  refine O.val (v := .slice (A) ((l).length) (c)) rfl (Ru.move rfl) rfl ?_
  refine O.val (v := I (((i : Nat) : Int))) rfl (Ru.move rfl) rfl ?_
  have hcp1_2 := hM.cap 0 rfl
  refine O.val (v := .slice (if c = i then A else ofs (A) (i * 2)) (((l).drop (i)).length) (c - i)) rfl (Ru.congr (v := .slice (if c = i then A else ofs (A) (i * 2)) (((l).length) - i) (c - i)) (v' := .slice (if c = i then A else ofs (A) (i * 2)) (((l).drop (i)).length) (c - i)) (Ru.lsliceFrom (l := i) Try.underlying36 el53 rfl rfl (by omega) (by omega)) (sl_congr (by first | rfl | (simp; done) | omega | (simp; omega)))) rfl ?_
  refine O.nil ?_
  refine C.seq ?_
  refine C.region ?_
  refine O.val (v := .slice (V) ((vs).length) (vc)) rfl (Ru.move rfl) rfl ?_
  refine O.val (v := I ((((vs).length : Nat) : Int))) rfl (Ru.blenSlice Try.underlying36 rfl) rfl ?_
  refine O.val (v := I ((((vs).length : Nat) : Int))) rfl (Ru.assign rfl) rfl ?_
  refine O.nil ?_
  refine C.seq ?_
  refine C.seq ?_
  refine C.region ?_
  refine O.val (v := I ((((vs).length : Nat) : Int))) rfl (Ru.move rfl) rfl ?_
  refine O.val (v := .bool (decide ((((vs).length : Nat) : Int) = 0))) rfl (Ru.eql rfl rfl) rfl ?_
  refine O.nil ?_
  refine C.cond (p := (((vs).length : Nat) : Int) = 0) rfl (fun c16 => ?_) (fun c16 => ?_)
  · exfalso; omega
  · refine C.skip ?_
    refine C.seq ?_
    refine C.region ?_
    refine O.val (v := .slice (A) ((l).length) (c)) rfl (Ru.move rfl) rfl ?_
    refine O.val (v := I ((((l).length : Nat) : Int))) rfl (Ru.blenSlice Try.underlying36 rfl) rfl ?_
    refine O.val (v := I ((((l).length : Nat) : Int))) rfl (Ru.assign rfl) rfl ?_
    refine O.nil ?_
    refine C.seq ?_
    refine C.seq ?_
    refine C.region ?_
    refine O.val (v := I (((i : Nat) : Int))) rfl (Ru.move rfl) rfl ?_
    refine O.val (v := I ((((l).length : Nat) : Int))) rfl (Ru.move rfl) rfl ?_
    refine O.val (v := .bool (decide (((i : Nat) : Int) = (((l).length : Nat) : Int)))) rfl (Ru.eql rfl rfl) rfl ?_
    refine O.nil ?_
    refine C.cond (p := ((i : Nat) : Int) = (((l).length : Nat) : Int)) rfl (fun c22 => ?_) (fun c22 => ?_)
    · refine C.seq ?_
      refine C.region ?_
      refine O.val (v := .slice (A) ((l).length) (c)) rfl (Ru.move rfl) rfl ?_
      refine O.val (v := .slice (V) ((vs).length) (vc)) rfl (Ru.move rfl) rfl ?_
      refine O.mappend (sz := 2) (news := (vs).flatMap encP) (m1 := (l ++ vs).length) (xs1 := (l ++ vs).flatMap encP) (M' := fun A7_2 c7_2 => [[⟨.slice (A7_2) ((l ++ vs).length) (c7_2), 53, 2, ((l ++ vs).length), (l ++ vs).flatMap encP⟩], [⟨.slice (V) ((vs).length) (vc), 53, 2, ((vs).length), (vs).flatMap encP⟩]]) 0 0 hM rfl rfl rfl Try.underlying36 el53 ⟨rfl, by decide⟩ rfl rfl rfl (hM.rd 1 rfl) (by rw [flat_len encP_len]; first | done | (simp; done) | (simp; omega)) (all_flat_one (fun _ => rfl) _) (by first | omega | (simp; omega)) (by first | omega | (simp; omega)) (by first | (simp; done) | (simp; omega)) (by simp) (fun _ _ => rfl) (fun w7_2 A7_2 c7_2 hc7_2 hM7_2 => ?_)
      try dsimp only at hM7_2
      refine O.val (v := .slice (A7_2) ((l ++ vs).length) (c7_2)) rfl (Ru.assign rfl) rfl ?_
      refine O.nil ?_
      refine C.ret ?_
      refine P1 (v := .slice (A7_2) ((l ++ vs).length) (c7_2)) rfl ?_
      have hMe : Mem w w7_2 [(Value.slice (A) ((l).length) (c)).ownBlock, (Value.slice (V) ((vs).length) (vc)).ownBlock] [[⟨.slice (A7_2) ((l.take i ++ (vs ++ l.drop i)).length) (c7_2), 53, 2, ((l.take i ++ (vs ++ l.drop i)).length), (l.take i ++ (vs ++ l.drop i)).flatMap encP⟩], [⟨.slice (V) ((vs).length) (vc), 53, 2, ((vs).length), (vs).flatMap encP⟩]] := hM7_2.relen 0 (n' := (l.take i ++ (vs ++ l.drop i)).length) (xs' := (l.take i ++ (vs ++ l.drop i)).flatMap encP) rfl (by simp; omega) (by congr 1; rw [List.take_of_length_le (by omega), List.drop_of_length_le (by omega), List.append_nil]) rfl
      exact ⟨A7_2, c7_2, sl_congr (by simp; omega), hMe.pick [0] (by decide) rfl⟩
    · refine C.skip ?_
      refine C.seq ?_
      refine C.seq ?_
      refine C.region ?_
      refine O.val (v := I ((((l).length : Nat) : Int))) rfl (Ru.move rfl) rfl ?_
      refine O.val (v := I ((((vs).length : Nat) : Int))) rfl (Ru.move rfl) rfl ?_
      refine O.val (v := I (((((l).length + (vs).length) : Nat) : Int))) rfl (Ru.congr (v := I (((((l).length : Nat) : Int) + (((vs).length : Nat) : Int)))) (v' := I (((((l).length + (vs).length) : Nat) : Int))) (Ru.add rfl rfl (by omega)) (I_congr (by first | omega | simp))) rfl ?_
      refine O.val (v := .slice (A) ((l).length) (c)) rfl (Ru.move rfl) rfl ?_
      refine O.val (v := I (((c : Nat) : Int))) rfl (Ru.bcap Try.underlying36 rfl) rfl ?_
      refine O.val (v := .bool (decide (((((l).length + (vs).length) : Nat) : Int) > ((c : Nat) : Int)))) rfl (Ru.gtr rfl rfl) rfl ?_
      refine O.nil ?_
      refine C.cond (p := ((((l).length + (vs).length) : Nat) : Int) > ((c : Nat) : Int)) rfl (fun c31 => ?_) (fun c31 => ?_)
      · refine C.seq ?_
        refine C.region ?_
        refine O.val (v := .slice (A) ((l).length) (c)) rfl (Ru.move rfl) rfl ?_
        refine O.val (v := I (((i : Nat) : Int))) rfl (Ru.move rfl) rfl ?_
        have hcp9_2 := hM.cap 0 rfl
        refine O.val (v := .slice (A) (i) (c)) rfl (Ru.congr (v := .slice (A) (i) (c)) (v' := .slice (A) (i) (c)) (Ru.lsliceTo (h := i) Try.underlying36 el53 rfl rfl (by omega) (by omega)) (rfl)) rfl ?_
        refine O.val (v := I ((((l).length : Nat) : Int))) rfl (Ru.move rfl) rfl ?_
        refine O.val (v := I ((((vs).length : Nat) : Int))) rfl (Ru.move rfl) rfl ?_
        refine O.val (v := I (((((l).length + (vs).length) : Nat) : Int))) rfl (Ru.congr (v := I (((((l).length : Nat) : Int) + (((vs).length : Nat) : Int)))) (v' := I (((((l).length + (vs).length) : Nat) : Int))) (Ru.add rfl rfl (by omega)) (I_congr (by first | omega | simp))) rfl ?_
        refine O.val (v := I (((i : Nat) : Int))) rfl (Ru.move rfl) rfl ?_
        refine O.val (v := I ((((((l).length + (vs).length) : Nat) : Int) - ((i : Nat) : Int)))) rfl (Ru.sub rfl rfl (by omega)) rfl ?_
        have hXt' := (rd_takeN (k := i) encP_len (hM.rd 0 rfl))
        refine O.mgrow (A := A) (c := c) (k := i) (m := vs.length + l.length - i) (sz := 2) (olds := (l.take i).flatMap encP) (k1 := l.length + vs.length) (xs1 := (l.take i).flatMap encP ++ zer [.int .i64 0, .int .i64 0] (vs.length + l.length - i)) (M' := fun b9_8 c9_8 => [[⟨.slice (bl b9_8) (l.length + vs.length) (c9_8), 53, 2, l.length + vs.length, (l.take i).flatMap encP ++ zer [.int .i64 0, .int .i64 0] (vs.length + l.length - i)⟩], [⟨.slice (A) ((l).length) (c), 53, 2, ((l).length), (l).flatMap encP⟩], [⟨.slice (V) ((vs).length) (vc), 53, 2, ((vs).length), (vs).flatMap encP⟩]]) hM rfl Try.underlying36 Try.underlying3 el53 ⟨rfl, by decide⟩ rfl rfl (by omega) rfl hXt' hXtl (by omega) (by omega) (by omega) (by omega) (by omega) rfl (fun _ _ => rfl) (fun w9_8 b9_8 c9_8 hb9_8 hc9_8 hM9_8 => ?_)
        try dsimp only at hM9_8
        refine O.val (v := .slice (bl b9_8) (l.length + vs.length) (c9_8)) rfl (Ru.assign rfl) rfl ?_
        refine O.nil ?_
        refine C.seq ?_
        refine C.region ?_
        refine O.val (v := .slice (bl b9_8) (l.length + vs.length) (c9_8)) rfl (Ru.move rfl) rfl ?_
        refine O.val (v := I (((i : Nat) : Int))) rfl (Ru.move rfl) rfl ?_
        have hcp10_2 := hM9_8.cap 0 rfl
        refine O.val (v := .slice (if c9_8 = i then bl b9_8 else ofs (bl b9_8) (i * 2)) ((l.length + vs.length) - i) (c9_8 - i)) rfl (Ru.lsliceFrom (l := i) Try.underlying36 el53 rfl rfl (by omega) (by omega)) rfl ?_
        refine O.val (v := .slice (V) ((vs).length) (vc)) rfl (Ru.move rfl) rfl ?_
        refine O.mcopy (i := 0) (k := i * 2) (news := (vs).flatMap encP) (xs' := spl ((l.take i).flatMap encP ++ zer [.int .i64 0, .int .i64 0] (vs.length + l.length - i)) (i * 2) ((vs).flatMap encP)) hM9_8 rfl rfl Try.underlying36 el53 rfl rfl rfl rfl (fun h0 => if_neg (by omega)) (hM9_8.rd 2 rfl) (by rw [hVl]; congr 1; first | omega | (simp only [List.length_drop, List.length_take]; omega)) (by rw [List.length_append, hXtl, hZl, hVl, ← Nat.add_mul, ← Nat.add_mul]; exact Nat.mul_le_mul_right _ (by omega)) (all_flat_one (fun _ => rfl) _) rfl rfl (fun w10_4 (hM10_4 : Mem w w10_4 [(Value.slice (A) ((l).length) (c)).ownBlock, (Value.slice (V) ((vs).length) (vc)).ownBlock] [[⟨.slice (bl b9_8) (l.length + vs.length) (c9_8), 53, 2, l.length + vs.length, spl ((l.take i).flatMap encP ++ zer [.int .i64 0, .int .i64 0] (vs.length + l.length - i)) (i * 2) ((vs).flatMap encP)⟩], [⟨.slice (A) ((l).length) (c), 53, 2, ((l).length), (l).flatMap encP⟩], [⟨.slice (V) ((vs).length) (vc), 53, 2, ((vs).length), (vs).flatMap encP⟩]]) => ?_)
        refine O.nil ?_
        refine C.seq ?_
        refine C.any (f := 9) (ls := [false, false, false, false, false, false, false, false, false]) (fun w2 => Mem w w2 [(Value.slice (A) ((l).length) (c)).ownBlock, (Value.slice (V) ((vs).length) (vc)).ownBlock] [[⟨.slice (A) ((l).length) (c), 53, 2, ((l).length), (l).flatMap encP⟩], [⟨.slice (V) ((vs).length) (vc), 53, 2, ((vs).length), (vs).flatMap encP⟩]]) mixed rfl rfl (fun w2 hw2 => Mem0.ext (hM10_4.pick [1, 2] (by decide) rfl) hw2) (fun w11a hE11a => ?_)
        have hM11a : Mem w w11a [(Value.slice (A) ((l).length) (c)).ownBlock, (Value.slice (V) ((vs).length) (vc)).ownBlock] [[⟨.slice (bl b9_8) (l.length + vs.length) (c9_8), 53, 2, l.length + vs.length, spl ((l.take i).flatMap encP ++ zer [.int .i64 0, .int .i64 0] (vs.length + l.length - i)) (i * 2) ((vs).flatMap encP)⟩], [⟨.slice (A) ((l).length) (c), 53, 2, ((l).length), (l).flatMap encP⟩], [⟨.slice (V) ((vs).length) (vc), 53, 2, ((vs).length), (vs).flatMap encP⟩]] := Mem0.ext hM10_4 hE11a
        refine AO.val (v := .slice (bl b9_8) (l.length + vs.length) (c9_8)) 0 (ls' := [true, false, false, false, false, false, false, false, false]) rfl (by kernel_rfl) rfl rfl (fun w2 hw2 => Ru.move rfl) rfl ?_
        refine AO.val (v := I (((i : Nat) : Int))) 1 (ls' := [true, true, false, false, false, false, false, false, false]) rfl (by kernel_rfl) rfl rfl (fun w2 hw2 => Ru.move rfl) rfl ?_
        refine AO.val (v := I ((((vs).length : Nat) : Int))) 2 (ls' := [true, true, true, false, false, false, false, false, false]) rfl (by kernel_rfl) rfl rfl (fun w2 hw2 => Ru.move rfl) rfl ?_
        refine AO.val (v := I ((((i + (vs).length) : Nat) : Int))) 3 (ls' := [true, true, true, true, false, false, false, false, false]) rfl (by kernel_rfl) rfl rfl (fun w2 hw2 => Ru.congr (v := I ((((i : Nat) : Int) + (((vs).length : Nat) : Int)))) (v' := I ((((i + (vs).length) : Nat) : Int))) (Ru.add rfl rfl (by omega)) (I_congr (by first | omega | simp))) rfl ?_
        have hcp11_4 := hM11a.cap 0 rfl
        refine AO.val (v := .slice (if c9_8 = (i + (vs).length) then bl b9_8 else ofs (bl b9_8) ((i + (vs).length) * 2)) ((l.length + vs.length) - (i + (vs).length)) (c9_8 - (i + (vs).length))) 4 (ls' := [true, true, true, true, true, false, false, false, false]) rfl (by kernel_rfl) rfl rfl (fun w2 hw2 => Ru.lsliceFrom (l := (i + (vs).length)) Try.underlying36 el53 rfl rfl (by omega) (by omega)) rfl ?_
        refine AO.val (v := .slice (A) ((l).length) (c)) 5 (ls' := [true, true, true, true, true, true, false, false, false]) rfl (by kernel_rfl) rfl rfl (fun w2 hw2 => Ru.move rfl) rfl ?_
        refine AO.val (v := I (((i : Nat) : Int))) 6 (ls' := [true, true, true, true, true, true, true, false, false]) rfl (by kernel_rfl) rfl rfl (fun w2 hw2 => Ru.move rfl) rfl ?_
        have hcp11_7 := hM11a.cap 1 rfl
        refine AO.val (v := .slice (if c = i then A else ofs (A) (i * 2)) (((l).drop (i)).length) (c - i)) 7 (ls' := [true, true, true, true, true, true, true, true, false]) rfl (by kernel_rfl) rfl rfl (fun w2 hw2 => Ru.congr (v := .slice (if c = i then A else ofs (A) (i * 2)) (((l).length) - i) (c - i)) (v' := .slice (if c = i then A else ofs (A) (i * 2)) (((l).drop (i)).length) (c - i)) (Ru.lsliceFrom (l := i) Try.underlying36 el53 rfl rfl (by omega) (by omega)) (sl_congr (by first | rfl | (simp; done) | omega | (simp; omega)))) rfl ?_
        refine AO.one 8 (by kernel_rfl) ?_
        refine step1 (ls' := [true, true, true, true, true, true, true, true, true]) rfl rfl ?_
        have hsl : (spl ((l.take i).flatMap encP ++ zer [.int .i64 0, .int .i64 0] (vs.length + l.length - i)) (i * 2) ((vs).flatMap encP)).length = (l.length + vs.length) * 2 := by rw [spl_length (by rw [List.length_append, hXtl, hZl, hVl, ← Nat.add_mul, ← Nat.add_mul]; exact Nat.mul_le_mul_right _ (by omega)), List.length_append, hXtl, hZl, ← Nat.add_mul]; congr 1; omega
        have hcp := hM11a.cap 1 rfl
        refine O.mcopy (i := 0) (k := (i + vs.length) * 2) (news := (l.drop i).flatMap encP) (xs' := (l.take i ++ (vs ++ l.drop i)).flatMap encP) hM11a rfl rfl Try.underlying36 el53 rfl rfl rfl rfl (fun h0 => if_neg (by omega)) (rd_dropN encP_len (hM11a.rd 1 rfl) hin (by omega)) (by rw [hXdl]; congr 1; first | omega | (simp only [List.length_drop, List.length_take]; omega)) (by rw [hXdl, hsl, ← Nat.add_mul]; exact Nat.mul_le_mul_right _ (by omega)) (all_flat_one (fun _ => rfl) _) (by rw [hres, hXd, hXt, Nat.add_mul, ← hVl]; exact grow_cells (by rw [hXl]; exact Nat.mul_le_mul_right _ hin) (by rw [hZl, hVl, hXl, ← Nat.sub_mul, ← Nat.add_mul]; congr 1; omega)) rfl (fun w11_8 (hM11_8 : Mem w w11_8 [(Value.slice (A) ((l).length) (c)).ownBlock, (Value.slice (V) ((vs).length) (vc)).ownBlock] [[⟨.slice (bl b9_8) (l.length + vs.length) (c9_8), 53, 2, (l.length + vs.length), (l.take i ++ (vs ++ l.drop i)).flatMap encP⟩], [⟨.slice (A) ((l).length) (c), 53, 2, ((l).length), (l).flatMap encP⟩], [⟨.slice (V) ((vs).length) (vc), 53, 2, ((vs).length), (vs).flatMap encP⟩]]) => ?_)
        refine O.stop (hM11_8.pick [1, 2] (by decide) rfl) ?_
        refine AO.nil (by kernel_rfl) ?_
        refine C.seq ?_
        refine C.region ?_
        refine O.val (v := .slice (bl b9_8) (l.length + vs.length) (c9_8)) rfl (Ru.move rfl) rfl ?_
        refine O.val (v := .slice (bl b9_8) (l.length + vs.length) (c9_8)) rfl (Ru.assign rfl) rfl ?_
        refine O.nil ?_
        refine C.ret ?_
        refine P1 (v := .slice (bl b9_8) (l.length + vs.length) (c9_8)) rfl ?_
        have hMe : Mem w w11_8 [(Value.slice (A) ((l).length) (c)).ownBlock, (Value.slice (V) ((vs).length) (vc)).ownBlock] [[⟨.slice (bl b9_8) ((l.take i ++ (vs ++ l.drop i)).length) (c9_8), 53, 2, ((l.take i ++ (vs ++ l.drop i)).length), (l.take i ++ (vs ++ l.drop i)).flatMap encP⟩], [⟨.slice (A) ((l).length) (c), 53, 2, ((l).length), (l).flatMap encP⟩], [⟨.slice (V) ((vs).length) (vc), 53, 2, ((vs).length), (vs).flatMap encP⟩]] := hM11_8.relen 0 (n' := (l.take i ++ (vs ++ l.drop i)).length) (xs' := (l.take i ++ (vs ++ l.drop i)).flatMap encP) rfl (by simp; omega) rfl rfl
        exact ⟨bl b9_8, c9_8, sl_congr (by simp; omega), hMe.pick [0] (by decide) rfl⟩
      · refine C.skip ?_
        refine C.seq ?_
        refine C.region ?_
        refine O.val (v := .slice (A) ((l).length) (c)) rfl (Ru.move rfl) rfl ?_
        refine O.val (v := I ((((l).length : Nat) : Int))) rfl (Ru.move rfl) rfl ?_
        refine O.val (v := I ((((vs).length : Nat) : Int))) rfl (Ru.move rfl) rfl ?_
        refine O.val (v := I (((((l).length + (vs).length) : Nat) : Int))) rfl (Ru.congr (v := I (((((l).length : Nat) : Int) + (((vs).length : Nat) : Int)))) (v' := I (((((l).length + (vs).length) : Nat) : Int))) (Ru.add rfl rfl (by omega)) (I_congr (by first | omega | simp))) rfl ?_
        have hcp := hM.cap 0 rfl
        have hAs : A.isSome = true := (by cases l with | nil => exfalso; simp only [List.length_nil] at *; omega | cons a l => exact (smf (k := 0) encP_len (hM.rd 0 rfl) (by simp) rfl))
        obtain ⟨ys, hys, hMx⟩ := Mem.extend (k := vs.length) hM (i := 0) rfl (by omega) (fun _ => hAs)
        replace hMx : Mem w w [(Value.slice (A) ((l).length) (c)).ownBlock, (Value.slice (V) ((vs).length) (vc)).ownBlock] [[⟨.slice (A) (l.length + vs.length) (c), 53, 2, l.length + vs.length, (l).flatMap encP ++ ys⟩], [⟨.slice (V) ((vs).length) (vc), 53, 2, ((vs).length), (vs).flatMap encP⟩]] := hMx
        refine O.val (v := .slice A (l.length + vs.length) c) rfl (Ru.congr (Ru.lsliceTo (h := l.length + vs.length) Try.underlying36 el53 rfl rfl (by omega) (by omega)) rfl) rfl ?_
        refine O.val (v := .slice (A) (l.length + vs.length) (c)) rfl (Ru.assign rfl) rfl ?_
        refine O.nil ?_
        refine C.seq ?_
        refine C.seq ?_
        refine C.region ?_
        refine O.val (v := .slice (V) ((vs).length) (vc)) rfl (Ru.move rfl) rfl ?_
        refine O.val (v := .slice (A) (l.length + vs.length) (c)) rfl (Ru.move rfl) rfl ?_
        refine O.val (v := I (((i : Nat) : Int))) rfl (Ru.move rfl) rfl ?_
        refine O.val (v := I ((((vs).length : Nat) : Int))) rfl (Ru.move rfl) rfl ?_
        refine O.val (v := I ((((i + (vs).length) : Nat) : Int))) rfl (Ru.congr (v := I ((((i : Nat) : Int) + (((vs).length : Nat) : Int)))) (v' := I ((((i + (vs).length) : Nat) : Int))) (Ru.add rfl rfl (by omega)) (I_congr (by first | omega | simp))) rfl ?_
        have hcp14_5 := hMx.cap 0 rfl
        refine O.val (v := .slice (if c = (i + (vs).length) then A else ofs (A) ((i + (vs).length) * 2)) ((l.length + vs.length) - (i + (vs).length)) (c - (i + (vs).length))) rfl (Ru.lsliceFrom (l := (i + (vs).length)) Try.underlying36 el53 rfl rfl (by omega) (by omega)) rfl ?_
        refine O.val (v := .bool false) rfl (Ru.extern (vs := [.slice V vs.length vc, .slice (if c = i + vs.length then A else ofs A ((i + vs.length) * 2)) (l.length + vs.length - (i + vs.length)) (c - (i + vs.length))]) rfl ((run_callFunc_extern Try.func82 (by kernel_rfl) (by kernel_rfl) (by kernel_rfl) (e := Extern.SlicesOverlaps.overlaps #[36, 36] #[4]) (by kernel_rfl) _ _).trans (by rw [overlaps_own (i := 1) (j := 0) (k := (i + vs.length) * 2) hMx (by decide) rfl rfl Try.underlying36 el53 (by omega) (by decide) _ (if_neg (by omega))]; rfl))) rfl ?_
        refine O.val (v := .bool (true)) rfl (Ru.not (b := false) rfl) rfl ?_
        refine O.nil ?_
        refine C.condT rfl ?_
        refine C.seq ?_
        refine C.any (f := 9) (ls := [false, false, false, false, false, false, false, false, false]) (fun w2 => Mem w w2 [(Value.slice (A) ((l).length) (c)).ownBlock, (Value.slice (V) ((vs).length) (vc)).ownBlock] [[⟨.slice (V) ((vs).length) (vc), 53, 2, ((vs).length), (vs).flatMap encP⟩]]) mixed rfl rfl (fun w2 hw2 => Mem0.ext (hMx.pick [1] (by decide) rfl) hw2) (fun w15a hE15a => ?_)
        have hM15a : Mem w w15a [(Value.slice (A) ((l).length) (c)).ownBlock, (Value.slice (V) ((vs).length) (vc)).ownBlock] [[⟨.slice (A) (l.length + vs.length) (c), 53, 2, l.length + vs.length, (l).flatMap encP ++ ys⟩], [⟨.slice (V) ((vs).length) (vc), 53, 2, ((vs).length), (vs).flatMap encP⟩]] := Mem0.ext hMx hE15a
        refine AO.val (v := .slice (A) (l.length + vs.length) (c)) 0 (ls' := [true, false, false, false, false, false, false, false, false]) rfl (by kernel_rfl) rfl rfl (fun w2 hw2 => Ru.move rfl) rfl ?_
        refine AO.val (v := I (((i : Nat) : Int))) 1 (ls' := [true, true, false, false, false, false, false, false, false]) rfl (by kernel_rfl) rfl rfl (fun w2 hw2 => Ru.move rfl) rfl ?_
        refine AO.val (v := I ((((vs).length : Nat) : Int))) 2 (ls' := [true, true, true, false, false, false, false, false, false]) rfl (by kernel_rfl) rfl rfl (fun w2 hw2 => Ru.move rfl) rfl ?_
        refine AO.val (v := I ((((i + (vs).length) : Nat) : Int))) 3 (ls' := [true, true, true, true, false, false, false, false, false]) rfl (by kernel_rfl) rfl rfl (fun w2 hw2 => Ru.congr (v := I ((((i : Nat) : Int) + (((vs).length : Nat) : Int)))) (v' := I ((((i + (vs).length) : Nat) : Int))) (Ru.add rfl rfl (by omega)) (I_congr (by first | omega | simp))) rfl ?_
        have hcp15_4 := hM15a.cap 0 rfl
        refine AO.val (v := .slice (if c = (i + (vs).length) then A else ofs (A) ((i + (vs).length) * 2)) ((l.length + vs.length) - (i + (vs).length)) (c - (i + (vs).length))) 4 (ls' := [true, true, true, true, true, false, false, false, false]) rfl (by kernel_rfl) rfl rfl (fun w2 hw2 => Ru.lsliceFrom (l := (i + (vs).length)) Try.underlying36 el53 rfl rfl (by omega) (by omega)) rfl ?_
        refine AO.val (v := .slice (A) (l.length + vs.length) (c)) 5 (ls' := [true, true, true, true, true, true, false, false, false]) rfl (by kernel_rfl) rfl rfl (fun w2 hw2 => Ru.move rfl) rfl ?_
        refine AO.val (v := I (((i : Nat) : Int))) 6 (ls' := [true, true, true, true, true, true, true, false, false]) rfl (by kernel_rfl) rfl rfl (fun w2 hw2 => Ru.move rfl) rfl ?_
        have hcp15_7 := hM15a.cap 0 rfl
        refine AO.val (v := .slice (if c = i then A else ofs (A) (i * 2)) ((l.length + vs.length) - i) (c - i)) 7 (ls' := [true, true, true, true, true, true, true, true, false]) rfl (by kernel_rfl) rfl rfl (fun w2 hw2 => Ru.lsliceFrom (l := i) Try.underlying36 el53 rfl rfl (by omega) (by omega)) rfl ?_
        refine AO.one 8 (by kernel_rfl) ?_
        refine step1 (ls' := [true, true, true, true, true, true, true, true, true]) rfl rfl ?_
        have hRl := Rd.left (hM15a.rd 0 rfl)
        refine O.mcopy (i := 0) (k := i * 2 + ((vs).flatMap encP).length) (news := (l.drop i).flatMap encP) (xs' := spl ((l).flatMap encP ++ ys) (i * 2 + ((vs).flatMap encP).length) ((l.drop i).flatMap encP)) hM15a rfl rfl Try.underlying36 el53 rfl rfl rfl rfl (fun h0 => (by rw [if_neg (by omega), hVl, ← Nat.add_mul])) (rd_dropN encP_len hRl hin (by omega)) (by rw [hXdl]; congr 1; first | omega | (simp only [List.length_drop, List.length_take]; omega)) (by rw [hXdl, List.length_append, hXl, hVl, hys, ← Nat.add_mul, ← Nat.add_mul, ← Nat.add_mul]; exact Nat.mul_le_mul_right _ (by omega)) (all_flat_one (fun _ => rfl) _) rfl rfl (fun w15_8 (hM15_8 : Mem w w15_8 [(Value.slice (A) ((l).length) (c)).ownBlock, (Value.slice (V) ((vs).length) (vc)).ownBlock] [[⟨.slice (A) (l.length + vs.length) (c), 53, 2, l.length + vs.length, spl ((l).flatMap encP ++ ys) (i * 2 + ((vs).flatMap encP).length) ((l.drop i).flatMap encP)⟩], [⟨.slice (V) ((vs).length) (vc), 53, 2, ((vs).length), (vs).flatMap encP⟩]]) => ?_)
        refine O.stop (hM15_8.pick [1] (by decide) rfl) ?_
        refine AO.nil (by kernel_rfl) ?_
        refine C.seq ?_
        refine C.region ?_
        refine O.val (v := .slice (A) (l.length + vs.length) (c)) rfl (Ru.move rfl) rfl ?_
        refine O.val (v := I (((i : Nat) : Int))) rfl (Ru.move rfl) rfl ?_
        have hcp16_2 := hM15_8.cap 0 rfl
        refine O.val (v := .slice (if c = i then A else ofs (A) (i * 2)) ((l.length + vs.length) - i) (c - i)) rfl (Ru.lsliceFrom (l := i) Try.underlying36 el53 rfl rfl (by omega) (by omega)) rfl ?_
        refine O.val (v := .slice (V) ((vs).length) (vc)) rfl (Ru.move rfl) rfl ?_
        refine O.mcopy (i := 0) (k := i * 2) (news := (vs).flatMap encP) (xs' := (l.take i ++ (vs ++ l.drop i)).flatMap encP) hM15_8 rfl rfl Try.underlying36 el53 rfl rfl rfl rfl (fun h0 => if_neg (by omega)) (hM15_8.rd 1 rfl) (by rw [hVl]; congr 1; first | omega | (simp only [List.length_drop, List.length_take]; omega)) (by rw [spl_length (by rw [hXdl, List.length_append, hXl, hVl, hys, ← Nat.add_mul, ← Nat.add_mul, ← Nat.add_mul]; exact Nat.mul_le_mul_right _ (by omega)), List.length_append, hXl, hVl, hys, ← Nat.add_mul, ← Nat.add_mul]; exact Nat.mul_le_mul_right _ (by omega)) (all_flat_one (fun _ => rfl) _) (by rw [hres, hXd]; exact ins_cells (by rw [hXl]; exact Nat.mul_le_mul_right _ hin) (by rw [hys, hVl])) rfl (fun w16_4 (hM16_4 : Mem w w16_4 [(Value.slice (A) ((l).length) (c)).ownBlock, (Value.slice (V) ((vs).length) (vc)).ownBlock] [[⟨.slice (A) (l.length + vs.length) (c), 53, 2, (l.length + vs.length), (l.take i ++ (vs ++ l.drop i)).flatMap encP⟩], [⟨.slice (V) ((vs).length) (vc), 53, 2, ((vs).length), (vs).flatMap encP⟩]]) => ?_)
        refine O.nil ?_
        refine C.seq ?_
        refine C.region ?_
        refine O.val (v := .slice (A) (l.length + vs.length) (c)) rfl (Ru.move rfl) rfl ?_
        refine O.val (v := .slice (A) (l.length + vs.length) (c)) rfl (Ru.assign rfl) rfl ?_
        refine O.nil ?_
        refine C.ret ?_
        refine P1 (v := .slice (A) (l.length + vs.length) (c)) rfl ?_
        have hMe : Mem w w16_4 [(Value.slice (A) ((l).length) (c)).ownBlock, (Value.slice (V) ((vs).length) (vc)).ownBlock] [[⟨.slice (A) ((l.take i ++ (vs ++ l.drop i)).length) (c), 53, 2, ((l.take i ++ (vs ++ l.drop i)).length), (l.take i ++ (vs ++ l.drop i)).flatMap encP⟩], [⟨.slice (V) ((vs).length) (vc), 53, 2, ((vs).length), (vs).flatMap encP⟩]] := hM16_4.relen 0 (n' := (l.take i ++ (vs ++ l.drop i)).length) (xs' := (l.take i ++ (vs ++ l.drop i)).flatMap encP) rfl (by simp; omega) rfl rfl
        exact ⟨A, c, sl_congr (by simp; omega), hMe.pick [0] (by decide) rfl⟩

theorem DeletePair_fn (A : Option Addr) (c : Nat) (l : List PairT) (i : Nat) (j : Nat) (w : World) (hM : Mem w w [(Value.slice (A) ((l).length) (c)).ownBlock] [[⟨.slice (A) ((l).length) (c), 53, 2, ((l).length), (l).flatMap encP⟩]]) (hij : i < j) (hj : j ≤ l.length) (hl : l.length ≤ 1048576) :
    Does Try.prog 79 [.slice (A) ((l).length) (c), I (((i : Nat) : Int)), I (((j : Nat) : Int))] w (fun v w1 => ∃ (A1 : Option Addr) (c1 : Nat), v = .slice (A1) ((l.take i ++ l.drop j).length) (c1) ∧ Mem w w1 [(Value.slice (A) ((l).length) (c)).ownBlock] [[⟨.slice (A1) ((l.take i ++ l.drop j).length) (c1), 53, 2, ((l.take i ++ l.drop j).length), (l.take i ++ l.drop j).flatMap encP⟩]]) := by
  refine Does.enter1 Try.func79 rfl Try.results79 Try.ntmps79 rfl ?_
  refine C.seq ?_
  refine C.region ?_
  refine O.val (v := .slice (none) (0) (0)) rfl (Ru.assign rfl) rfl ?_
  refine O.nil ?_
  refine C.seq ?_
  refine C.region ?_
  refine O.val (v := .slice (A) ((l).length) (c)) rfl (Ru.move rfl) rfl ?_
  refine O.val (v := I (((i : Nat) : Int))) rfl (Ru.move rfl) rfl ?_
  refine O.val (v := I (((j : Nat) : Int))) rfl (Ru.move rfl) rfl ?_
  refine O.val (v := .slice (A) ((l).length) (c)) rfl (Ru.move rfl) rfl ?_
  refine O.val (v := I ((((l).length : Nat) : Int))) rfl (Ru.blenSlice Try.underlying36 rfl) rfl ?_
  have hcp := hM.cap 0 rfl
  refine O.val rfl (Ru.lslice3 Try.underlying36 el53 rfl rfl rfl rfl (by omega) rfl) rfl ?_
  refine O.nil ?_
  refine C.seq ?_
  refine C.seq ?_
  refine C.region ?_
  refine O.val (v := I (((i : Nat) : Int))) rfl (Ru.move rfl) rfl ?_
  refine O.val (v := I (((j : Nat) : Int))) rfl (Ru.move rfl) rfl ?_
  refine O.val (v := .bool (decide (((i : Nat) : Int) = ((j : Nat) : Int)))) rfl (Ru.eql rfl rfl) rfl ?_
  refine O.nil ?_
  refine C.cond (p := ((i : Nat) : Int) = ((j : Nat) : Int)) rfl (fun c16 => ?_) (fun c16 => ?_)
  · exfalso; omega
  · refine C.skip ?_
    refine C.seq ?_
    refine C.region ?_
    refine O.val (v := .slice (A) ((l).length) (c)) rfl (Ru.move rfl) rfl ?_
    refine O.val (v := I ((((l).length : Nat) : Int))) rfl (Ru.blenSlice Try.underlying36 rfl) rfl ?_
    refine O.val (v := I ((((l).length : Nat) : Int))) rfl (Ru.assign rfl) rfl ?_
    refine O.nil ?_
    refine C.seq ?_
    refine C.any (f := 8) (ls := [false, false, false, false, false, false, false, false]) (fun w2 => Mem w w2 [(Value.slice (A) ((l).length) (c)).ownBlock] []) mixed rfl rfl (fun w2 hw2 => Mem0.ext (Mem.none hM) hw2) (fun w5a hE5a => ?_)
    have hM5a : Mem w w5a [(Value.slice (A) ((l).length) (c)).ownBlock] [[⟨.slice (A) ((l).length) (c), 53, 2, ((l).length), (l).flatMap encP⟩]] := Mem0.ext hM hE5a
    refine AO.val (v := .slice (A) ((l).length) (c)) 0 (ls' := [true, false, false, false, false, false, false, false]) rfl (by kernel_rfl) rfl rfl (fun w2 hw2 => Ru.move rfl) rfl ?_
    refine AO.val (v := I (((i : Nat) : Int))) 1 (ls' := [true, true, false, false, false, false, false, false]) rfl (by kernel_rfl) rfl rfl (fun w2 hw2 => Ru.move rfl) rfl ?_
    have hcp5_2 := hM5a.cap 0 rfl
    refine AO.val (v := .slice (A) (i) (c)) 2 (ls' := [true, true, true, false, false, false, false, false]) rfl (by kernel_rfl) rfl rfl (fun w2 hw2 => Ru.congr (v := .slice (A) (i) (c)) (v' := .slice (A) (i) (c)) (Ru.lsliceTo (h := i) Try.underlying36 el53 rfl rfl (by omega) (by omega)) (rfl)) rfl ?_
    refine AO.val (v := .slice (A) ((l).length) (c)) 3 (ls' := [true, true, true, true, false, false, false, false]) rfl (by kernel_rfl) rfl rfl (fun w2 hw2 => Ru.move rfl) rfl ?_
    refine AO.val (v := I (((j : Nat) : Int))) 4 (ls' := [true, true, true, true, true, false, false, false]) rfl (by kernel_rfl) rfl rfl (fun w2 hw2 => Ru.move rfl) rfl ?_
    have hcp5_5 := hM5a.cap 0 rfl
    refine AO.val (v := .slice (if c = j then A else ofs (A) (j * 2)) (l.length - j) (c - j)) 5 (ls' := [true, true, true, true, true, true, false, false]) rfl (by kernel_rfl) rfl rfl (fun w2 hw2 => Ru.congr (v := .slice (if c = j then A else ofs (A) (j * 2)) (((l).length) - j) (c - j)) (v' := .slice (if c = j then A else ofs (A) (j * 2)) (l.length - j) (c - j)) (Ru.lsliceFrom (l := j) Try.underlying36 el53 rfl rfl (by omega) (by omega)) (rfl)) rfl ?_
    refine AO.one 6 (by kernel_rfl) ?_
    refine step1 (ls' := [true, true, true, true, true, true, true, false]) rfl rfl ?_
    have hcq := hM5a.cap 0 rfl
    have hRj := (rd_dropN (k := j) (c := c) encP_len (hM5a.rd 0 rfl) (by omega) (by omega))
    have hMs : Mem w w5a [(Value.slice (A) ((l).length) (c)).ownBlock] [[⟨.slice (A) (i) (c), 53, 2, i, (l.take i).flatMap encP⟩]] := Mem.shrink (i := 0) (k := i) hM5a rfl (by omega) (by rw [show (l.take i).flatMap encP = ((l).flatMap encP).take (i * 2) from (flat_take encP_len l i)]; rfl)
    refine O.mappendIn (i := 0) (A := A) (m := i) (k := l.length - j) (c := c) (news := (l.drop j).flatMap encP) (m1 := i + (l.length - j)) (xs1 := (l.take i ++ l.drop j).flatMap encP) hMs rfl rfl Try.underlying36 el53 rfl rfl rfl rfl hRj (by rw [flat_len encP_len]; try simp) (all_flat_one (fun _ => rfl) _) (by omega) (fun h0 => (by cases l with | nil => exfalso; simp only [List.length_nil] at *; omega | cons a l => exact (smf (k := 0) encP_len (hM5a.rd 0 rfl) (by simp) rfl))) rfl (by rw [List.flatMap_append]) rfl (fun w5_6 (hM5_6 : Mem w w5_6 [(Value.slice (A) ((l).length) (c)).ownBlock] [[⟨.slice (A) (i + (l.length - j)) (c), 53, 2, (i + (l.length - j)), (l.take i ++ l.drop j).flatMap encP⟩]]) => ?_)
    refine O.stop (Mem.none hM5_6) ?_
    refine AO.val (v := .slice (A) (i + (l.length - j)) (c)) 7 (ls' := [true, true, true, true, true, true, true, true]) rfl (by kernel_rfl) rfl rfl (fun w2 hw2 => Ru.assign rfl) rfl ?_
    refine AO.nil (by kernel_rfl) ?_
    refine C.seq ?_
    refine C.region ?_
    refine O.val (v := .slice (A) (i + (l.length - j)) (c)) rfl (Ru.move rfl) rfl ?_
    refine O.val (v := .slice (A) (i + (l.length - j)) (c)) rfl (Ru.move rfl) rfl ?_
    refine O.val (v := I (((i + (l.length - j) : Nat) : Int))) rfl (Ru.blenSlice Try.underlying36 rfl) rfl ?_
    refine O.val (v := I ((((l).length : Nat) : Int))) rfl (Ru.move rfl) rfl ?_
    have hcp6_4 := hM5_6.cap 0 rfl
    refine O.val (v := .slice (if c = (i + (l.length - j)) then A else ofs (A) ((i + (l.length - j)) * 2)) (l.length - (i + (l.length - j))) (c - (i + (l.length - j)))) rfl (Ru.congr (v := .slice (if c = i + (l.length - j) then A else ofs (A) ((i + (l.length - j)) * 2)) ((l.length) - (i + (l.length - j))) (c - (i + (l.length - j)))) (v' := .slice (if c = (i + (l.length - j)) then A else ofs (A) ((i + (l.length - j)) * 2)) (l.length - (i + (l.length - j))) (c - (i + (l.length - j)))) (Ru.lslice (l := i + (l.length - j)) (h := l.length) Try.underlying36 el53 rfl rfl rfl (by omega) (by omega) (by omega)) (rfl)) rfl ?_
    refine O.mclear0 (i := 0) (j := l.length - (i + (l.length - j))) hM5_6 rfl rfl Try.underlying36 el53 rfl rfl (fun h0 => if_neg (by omega)) (by omega) rfl (fun w6_5 (hM6_5 : Mem w w6_5 [(Value.slice (A) ((l).length) (c)).ownBlock] [[⟨.slice (A) (i + (l.length - j)) (c), 53, 2, (i + (l.length - j)), (l.take i ++ l.drop j).flatMap encP⟩]]) => ?_)
    refine O.nil ?_
    refine C.seq ?_
    refine C.region ?_
    refine O.val (v := .slice (A) (i + (l.length - j)) (c)) rfl (Ru.move rfl) rfl ?_
    refine O.val (v := .slice (A) (i + (l.length - j)) (c)) rfl (Ru.assign rfl) rfl ?_
    refine O.nil ?_
    refine C.ret ?_
    refine P1 (v := .slice (A) (i + (l.length - j)) (c)) rfl ?_
    have hq1 : (l.take i ++ l.drop j : List PairT) = l.take i ++ l.drop j := rfl
    have hMn1 : Mem w w6_5 [(Value.slice (A) ((l).length) (c)).ownBlock] [[⟨.slice (A) ((l.take i ++ l.drop j).length) (c), 53, 2, ((l.take i ++ l.drop j).length), (l.take i ++ l.drop j).flatMap encP⟩]] := hM6_5.relen 0 (n' := (l.take i ++ l.drop j).length) (xs' := (l.take i ++ l.drop j).flatMap encP) rfl (by first | rfl | exact congrArg List.length hq1 | (have hqq := congrArg List.length hq1; first | omega | (simp at hqq ⊢; omega)) | (simp; done) | (simp; omega)) (congrArg (fun z_ => (z_).flatMap encP) hq1) rfl
    exact ⟨A, c, (sl_congr (by simp; omega)), (hMn1.pick [0] (by decide) rfl)⟩

theorem search_fn (n : Nat) (F : FuncId) (caps : List Value) (p : Nat → Bool) (w : World) (hen : Enters Try.prog F) (hf : ∀ t, t < n → ∀ w1, Mem w w1 [] [] → Does Try.prog F (I (t : Nat) :: caps) w1 (fun v w2 => v = .bool (p t) ∧ Mem w1 w2 [] [])) (hm : ∀ a b, a ≤ b → b < n → p a = true → p b = true) (hn : n ≤ 1048576) :
    Does Try.prog 84 [I (((n : Nat) : Int)), (.func (.func F) #[] caps.toArray)] w (fun v w1 => ∃ (k : Nat), v = I (((k : Nat) : Int)) ∧ (k ≤ n) ∧ (∀ t, t < k → p t = false) ∧ (∀ t, k ≤ t → t < n → p t = true) ∧ Mem w w1 [] []) := by
  have hM : Mem w w [] [] := Mem.refl
  refine Does.enter1 Try.func84 rfl Try.results84 Try.ntmps84 rfl ?_
  refine C.seq ?_
  refine C.region ?_
  refine O.val (v := I (0)) rfl (Ru.assign rfl) rfl ?_
  refine O.nil ?_
  refine C.seq ?_
  refine C.region ?_
  refine O.val (v := I (((n : Nat) : Int))) rfl (Ru.move rfl) rfl ?_
  refine O.val (v := I (0)) rfl (Ru.assign rfl) rfl ?_
  refine O.val (v := I (((n : Nat) : Int))) rfl (Ru.assign rfl) rfl ?_
  refine O.nil ?_
  refine C.seq ?_
  refine C.block ?_
  refine C.loop (ι := Nat × Nat) (fun x_ => ([(1, (.func (.func F) #[] caps.toArray)), (5, I (((x_.1 : Nat) : Int))), (6, I (((x_.2 : Nat) : Int)))] : List (Nat × Value))) (fun x_ w_ => (x_.1 ≤ x_.2 ∧ x_.2 ≤ n) ∧ (∀ t, t < x_.1 → p t = false) ∧ (∀ t, x_.2 ≤ t → t < n → p t = true) ∧ (Mem w w_ [] [])) (fun x_ => x_.2 - x_.1) (0, n) (Has.cons rfl (Has.cons (I_congr (by first | rfl | omega | (simp; omega) | simp)) (Has.cons rfl Has.nil))) ⟨(by (try dsimp only); omega), (by (try dsimp only); omega), (by (try dsimp only); omega), (hM.pick [] (by decide) rfl)⟩ (fun ⟨i, j⟩ σ w_l2 hI => ?_)
  try dsimp only at hI
  obtain ⟨hi0_l2, hi1_l2, hi2_l2, hM_l2⟩ := hI
  refine C.seq ?_
  refine C.seq ?_
  refine C.region ?_
  refine O.val (v := I (((i : Nat) : Int))) rfl (Ru.move rfl) rfl ?_
  refine O.val (v := I (((j : Nat) : Int))) rfl (Ru.move rfl) rfl ?_
  refine O.val (v := .bool (decide (((i : Nat) : Int) < ((j : Nat) : Int)))) rfl (Ru.lss rfl rfl) rfl ?_
  refine O.nil ?_
  refine C.cond (p := ((i : Nat) : Int) < ((j : Nat) : Int)) rfl (fun c11 => ?_) (fun c11 => ?_)
  · refine C.skip ?_
    refine C.block ?_
    refine C.seq ?_
    refine C.region ?_
    refine O.val (v := I (((i : Nat) : Int))) rfl (Ru.move rfl) rfl ?_
    refine O.val (v := I (((j : Nat) : Int))) rfl (Ru.move rfl) rfl ?_
    refine O.val (v := I ((((i + j) : Nat) : Int))) rfl (Ru.congr (v := I ((((i : Nat) : Int) + ((j : Nat) : Int)))) (v' := I ((((i + j) : Nat) : Int))) (Ru.add rfl rfl (by omega)) (I_congr (by first | omega | simp))) rfl ?_
    refine O.val (v := .int .u64 ((((i + j) : Nat) : Int))) rfl (Ru.conv64 Try.underlying3 Try.underlying90 rfl (by omega)) rfl ?_
    refine O.val (v := .int .u64 ((((i + j) / 2 : Nat) : Int))) rfl (Ru.congr (v := .int .u64 (((((i + j) : Nat) : Int) / 2))) (v' := .int .u64 ((((i + j) / 2 : Nat) : Int))) (Ru.half rfl rfl (by omega)) (by first | rfl | (congr 1; done) | (congr 1; omega))) rfl ?_
    refine O.val (v := I ((((i + j) / 2 : Nat) : Int))) rfl (Ru.conv64i Try.underlying90 Try.underlying3 rfl (by omega)) rfl ?_
    refine O.val (v := I ((((i + j) / 2 : Nat) : Int))) rfl (Ru.assign rfl) rfl ?_
    refine O.nil ?_
    refine C.seq ?_
    refine C.region ?_
    refine O.val rfl (Ru.move rfl) rfl ?_
    refine O.val (v := I ((((i + j) / 2 : Nat) : Int))) rfl (Ru.move rfl) rfl ?_
    refine O.callv [I (((i + j) / 2 : Nat) : Int)] rfl rfl hen rfl rfl (hf ((i + j) / 2) (by omega) w_l2 hM_l2) ?_
    rintro _ w4_2 ⟨rfl, hR4_2⟩
    have hM4_2 : Mem w w4_2 [] [] := Mem.call0 hM_l2 hR4_2
    refine O.val (v := .bool (!(p ((i + j) / 2)))) rfl (Ru.not rfl) rfl ?_
    refine O.nil ?_
    refine C.condn (b := (p ((i + j) / 2))) rfl (fun c21 => ?_) (fun c21 => ?_)
    · refine C.region ?_
      refine O.val (v := I ((((i + j) / 2 : Nat) : Int))) rfl (Ru.move rfl) rfl ?_
      refine O.val (v := I (((((i + j) / 2 + 1) : Nat) : Int))) rfl (Ru.congr (v := I (((((i + j) / 2 : Nat) : Int) + 1))) (v' := I (((((i + j) / 2 + 1) : Nat) : Int))) (Ru.add rfl rfl (by omega)) (I_congr (by first | omega | simp))) rfl ?_
      refine O.val (v := I (((((i + j) / 2 + 1) : Nat) : Int))) rfl (Ru.assign rfl) rfl ?_
      refine O.nil ?_
      exact loopEnd (((i + j) / 2 + 1), j) (by (try dsimp only); omega) (Has.cons rfl (Has.cons rfl (Has.cons rfl Has.nil))) ⟨(by (try dsimp only); omega), (mid_search hm (by omega) (by omega) (by simpa using c21) hi1_l2), hi2_l2, (hM4_2.pick [] (by decide) rfl)⟩
    · refine C.region ?_
      refine O.val (v := I ((((i + j) / 2 : Nat) : Int))) rfl (Ru.move rfl) rfl ?_
      refine O.val (v := I ((((i + j) / 2 : Nat) : Int))) rfl (Ru.assign rfl) rfl ?_
      refine O.nil ?_
      exact loopEnd (i, ((i + j) / 2)) (by (try dsimp only); omega) (Has.cons rfl (Has.cons rfl (Has.cons (I_congr (by first | rfl | omega | (simp; omega) | simp)) Has.nil))) ⟨(by (try dsimp only); omega), hi1_l2, (mid_search2 hm (by simpa using c21)), (hM4_2.pick [] (by decide) rfl)⟩
  · refine C.exit ?_
    refine C.seq ?_
    refine C.region ?_
    refine O.val (v := I (((i : Nat) : Int))) rfl (Ru.move rfl) rfl ?_
    refine O.val (v := I (((i : Nat) : Int))) rfl (Ru.assign rfl) rfl ?_
    refine O.nil ?_
    refine C.ret ?_
    refine P1 (v := I (((i : Nat) : Int))) rfl ?_
    exact ⟨i, (by first | rfl | exact sl_congr (by first | omega | (simp; done) | (simp; omega)) | (simp; done)), (by omega), hi1_l2, (fun t h1 h2 => hi2_l2 t (by omega) h2), (Mem.none hM_l2)⟩

theorem KeysBelow1_fn (i : Nat) (b1 : Nat) (b2 : Nat) (A : Option Addr) (c : Nat) (l : List Int) (key : Int) (w : World) (h1 : Rd w (bl b1) [.slice A l.length c]) (h2 : Rd w (bl b2) [I key]) (hA : Rd w A (l.map I)) (hi : i < l.length) :
    Does Try.prog 85 [I (((i : Nat) : Int)), .pointer (ofs (bl b1) (0)), .pointer (ofs (bl b2) (0))] w (fun v w1 => v = .bool (decide (key ≤ l.getD i 0)) ∧ Mem w w1 [] []) := by
  have hM : Mem w w [] [] := Mem.refl
  refine Does.enter1 Try.func85 rfl Try.results85 Try.ntmps85 rfl ?_
  refine C.seq ?_
  refine C.region ?_
  refine O.val (v := .bool (false)) rfl (Ru.assign rfl) rfl ?_
  refine O.nil ?_
  refine C.seq ?_
  refine C.draws (fun w2 => Mem w w2 [] []) mixed (by kernel_rfl) (hM.ext (kdrawn _)) ?_
  refine QO.val rfl (fun w2 hw2 => Ru.load1 el71 rfl ((h1.at hw2).ld rfl)) rfl ?_
  refine QO.val (v := I (((i : Nat) : Int))) rfl (fun w2 hw2 => Ru.move rfl) rfl ?_
  have hx1_2 : i < (l).length := (by first | omega | (simp; omega))
  refine QO.val (v := .pointer (ofs (A) (i * 1))) rfl (fun w2 hw2 => Ru.indexA (j := i) Try.underlying71 el3 rfl rfl (smm (hA.at hw2) hx1_2) (by omega) (by first | omega | (simp; omega))) rfl ?_
  refine QO.val rfl (fun w2 hw2 => Ru.load1 el3 rfl (ldm (hA.at hw2) hx1_2)) rfl ?_
  refine QO.val rfl (fun w2 hw2 => Ru.load1 el3 rfl ((h2.at hw2).ld rfl)) rfl ?_
  refine QO.val (v := .bool (decide ((l)[i]'hx1_2 ≥ key))) rfl (fun w2 hw2 => Ru.geq rfl rfl) rfl ?_
  refine QO.val (v := .bool (decide ((l)[i]'hx1_2 ≥ key))) rfl (fun w2 hw2 => Ru.assign rfl) rfl ?_
  refine QO.nil ?_
  intro w1d hM1d
  refine C.ret ?_
  refine P1 (v := .bool (decide ((l)[i]'hx1_2 ≥ key))) rfl ?_
  exact ⟨(by rw [getD_lt hi]), (Mem.none hM1d)⟩

theorem KeysBelow_fn (A : Option Addr) (c : Nat) (l : List Int) (key : Int) (w : World) (hA : Rd w A ((l).map I)) (hl : l.length ≤ 1048576) :
    Does Try.prog 81 [.slice (A) ((l).length) (c), I (key)] w (fun v w1 => v = I ((if validK l then (below l key : Int) else -1)) ∧ Mem w w1 [] []) := by
  have hM : Mem w w [] [] := Mem.refl
  refine Does.enter1 Try.func81 rfl Try.results81 Try.ntmps81 rfl ?_
  refine C.seq ?_
  refine C.region ?_
  refine O.mbox (k := 1) (vs := [.slice (A) ((l).length) (c)]) hM rfl rfl rfl rfl rfl (fun w0_0 b0_0 hb0_0 (hM0_0 : Mem w w0_0 [] [[⟨.slice (bl b0_0) 1 1, 71, 1, 1, [.slice (A) ((l).length) (c)]⟩]]) => ?_)
  refine O.mbox (k := 1) (vs := [I (key)]) hM0_0 rfl rfl rfl rfl rfl (fun w0_1 b0_1 hb0_1 (hM0_1 : Mem w w0_1 [] [[⟨.slice (bl b0_1) 1 1, 3, 1, 1, [I (key)]⟩], [⟨.slice (bl b0_0) 1 1, 71, 1, 1, [.slice (A) ((l).length) (c)]⟩]]) => ?_)
  refine O.val (v := I (0)) rfl (Ru.assign rfl) rfl ?_
  refine O.nil ?_
  refine C.seq ?_
  refine C.seq ?_
  refine C.region ?_
  refine O.val rfl (Ru.load1 el71 rfl ((hM0_1.rd 1 rfl).ld rfl)) rfl ?_
  refine O.callg [.slice (A) ((l).length) (c)] rfl en59 rfl rfl (ValidKeys_fn A c l w0_1 (hA.at hM0_1) (by first | omega | assumption | (simp; omega) | simp | (intros; omega))) ?_
  rintro _ w1_1 ⟨rfl, hR1_1⟩
  have hM1_1 : Mem w w1_1 [] [[⟨.slice (bl b0_1) 1 1, 3, 1, 1, [I (key)]⟩], [⟨.slice (bl b0_0) 1 1, 71, 1, 1, [.slice (A) ((l).length) (c)]⟩]] := Mem.call (Ma := []) hM0_1 hR1_1 rfl
  refine O.val (v := .bool (!(validK l))) rfl (Ru.not rfl) rfl ?_
  refine O.nil ?_
  refine C.condn (b := (validK l)) rfl (fun c7 => ?_) (fun c7 => ?_)
  · refine C.seq ?_
    refine C.region ?_
    refine O.val (v := I ((-1))) rfl (Ru.assign rfl) rfl ?_
    refine O.nil ?_
    refine C.ret ?_
    refine P1 (v := I ((-1))) rfl ?_
    exact ⟨(by rw [if_neg (by simp [c7])]), (Mem.none hM1_1)⟩
  · refine C.skip ?_
    refine C.seq ?_
    refine C.region ?_
    refine O.val rfl (Ru.load1 el71 rfl ((hM1_1.rd 1 rfl).ld rfl)) rfl ?_
    refine O.val (v := I ((((l).length : Nat) : Int))) rfl (Ru.blenSlice Try.underlying71 rfl) rfl ?_
    refine O.val rfl (Ru.mkfun (vs := [.pointer (ofs (bl b0_0) (0)), .pointer (ofs (bl b0_1) (0))]) rfl) rfl ?_
    have hbx1 := hM1_1.rd 1 rfl
    have hbx2 := hM1_1.rd 0 rfl
    have hv : validK l = true := by simpa using c7
    have hAn := hA.at hM1_1
    refine O.callg [I (l.length : Int), .func (.func 85) #[] #[.pointer (ofs (bl b0_0) 0), .pointer (ofs (bl b0_1) 0)]] rfl en84 rfl rfl (search_fn l.length 85 [.pointer (ofs (bl b0_0) 0), .pointer (ofs (bl b0_1) 0)] (fun t => decide (key ≤ l.getD t 0)) w1_1 en85 (fun t ht w1 hw1 => KeysBelow1_fn t b0_0 b0_1 A c l key w1 (hbx1.at hw1) (hbx2.at hw1) (hAn.at hw1) ht) (fun a b hab hb hp => ?_) hl) ?_
    · have h2 := asc_lt (validK_iff.1 hv).2; simp only [decide_eq_true_eq] at hp ⊢; rw [getD_lt (by omega)] at hp ⊢; rcases Nat.eq_or_lt_of_le hab with h3 | h3 <;> first | (subst h3; exact hp) | (have := h2 a b h3 hb; omega)
    rintro _ w3_3 ⟨k3_3, rfl, hk3_3, hlt3_3, hge3_3, hR3_3⟩
    have hM3_3 : Mem w w3_3 [] [[⟨.slice (bl b0_1) 1 1, 3, 1, 1, [I (key)]⟩], [⟨.slice (bl b0_0) 1 1, 71, 1, 1, [.slice (A) ((l).length) (c)]⟩]] := Mem.call0 hM1_1 hR3_3
    refine O.val (v := I (((k3_3 : Nat) : Int))) rfl (Ru.assign rfl) rfl ?_
    refine O.nil ?_
    refine C.ret ?_
    refine P1 (v := I (((k3_3 : Nat) : Int))) rfl ?_
    exact ⟨(by rw [if_pos hv, search_below hk3_3 (fun t ht => by have := hlt3_3 t ht; rw [getD_lt (show t < l.length by omega)] at this; simpa using this) (fun t h1 h2 => by have := hge3_3 t h1 h2; rw [getD_lt h2] at this; simpa using this)]), (Mem.none hM3_3)⟩

theorem ValidRow_fn (A : Option Addr) (c : Nat) (l : List PairT) (w : World) (hA : Rd w A ((l).flatMap encP)) (hl : l.length ≤ 1048576) :
    Does Try.prog 33 [.slice (A) ((l).length) (c)] w (fun v w1 => v = .bool (validR l) ∧ Mem w w1 [] []) := by
  have hM : Mem w w [] [] := Mem.refl
  refine Does.enter1 Try.func33 rfl Try.results33 Try.ntmps33 rfl ?_
  refine C.seq ?_
  refine C.region ?_
  refine O.val (v := .bool (false)) rfl (Ru.assign rfl) rfl ?_
  refine O.nil ?_
  refine C.seq ?_
  refine C.seq ?_
  refine C.region ?_
  refine O.val (v := .slice (A) ((l).length) (c)) rfl (Ru.move rfl) rfl ?_
  refine O.val (v := I ((((l).length : Nat) : Int))) rfl (Ru.blenSlice Try.underlying36 rfl) rfl ?_
  refine O.val (v := .bool (decide ((((l).length : Nat) : Int) > 24))) rfl (Ru.gtr rfl rfl) rfl ?_
  refine O.nil ?_
  refine C.cond (p := (((l).length : Nat) : Int) > 24) rfl (fun c7 => ?_) (fun c7 => ?_)
  · refine C.seq ?_
    refine C.region ?_
    refine O.val (v := .bool (false)) rfl (Ru.assign rfl) rfl ?_
    refine O.nil ?_
    refine C.ret ?_
    refine P1 (v := .bool (false)) rfl ?_
    exact ⟨(by simp [validR]; omega), (Mem.none hM)⟩
  · refine C.skip ?_
    refine C.seq ?_
    refine C.seq ?_
    refine C.region ?_
    refine O.val (v := .slice (A) ((l).length) (c)) rfl (Ru.move rfl) rfl ?_
    refine O.val (v := I ((((l).length : Nat) : Int))) rfl (Ru.blenSlice Try.underlying36 rfl) rfl ?_
    refine O.val (v := I (0)) rfl (Ru.move rfl) rfl ?_
    refine O.nil ?_
    refine C.block ?_
    refine C.loop (ι := Nat) (fun k => ([(0, .slice (A) ((l).length) (c)), (8, .slice (A) ((l).length) (c)), (9, I ((((l).length : Nat) : Int))), (10, I (((k : Nat) : Int)))] : List (Nat × Value))) (fun k w_ => (k ≤ l.length) ∧ ((l.take k).all (fun p => isValB p.val) = true) ∧ (Mem w w_ [] [])) (fun k => l.length - k) (0) (Has.cons rfl (Has.cons rfl (Has.cons rfl (Has.cons (I_congr (by first | rfl | omega | (simp; omega) | simp)) Has.nil)))) ⟨(Nat.zero_le _), (by (try dsimp only); simp), (hM.pick [] (by decide) rfl)⟩ (fun k σ w_l4 hI => ?_)
    try dsimp only at hI
    obtain ⟨hi0_l4, hi1_l4, hM_l4⟩ := hI
    refine C.seq ?_
    refine C.region ?_
    refine O.val (v := .bool (decide (((k : Nat) : Int) < (((l).length : Nat) : Int)))) rfl (Ru.lss rfl rfl) rfl ?_
    refine O.nil ?_
    refine C.seq ?_
    refine C.cond (p := ((k : Nat) : Int) < (((l).length : Nat) : Int)) rfl (fun c11 => ?_) (fun c11 => ?_)
    · refine C.skip ?_
      refine C.seq ?_
      refine C.block ?_
      refine C.seq ?_
      refine C.region ?_
      have hx5_0 : k < (l).length := (by first | omega | (simp; omega))
      refine O.val (v := .pointer (ofs (A) (k * 2))) rfl (Ru.indexA (j := k) Try.underlying36 el53 rfl rfl (smf encP_len (hA.at hM_l4) hx5_0 rfl) (by omega) (by first | omega | (simp; omega))) rfl ?_
      refine O.val rfl (Ru.loadN (vs := [I (((l)[k]'hx5_0).key), I (((l)[k]'hx5_0).val)]) el53 rfl rfl (smf encP_len (hA.at hM_l4) hx5_0 rfl) (ldn encP_len (hA.at hM_l4) hx5_0)) rfl ?_
      refine O.malloc (k := 2) hM_l4 rfl rfl el53 rfl (fun w5_2 b5_2 hb5_2 (hM5_2 : Mem w w5_2 [] [[⟨.slice (bl b5_2) 1 1, 53, 2, 1, [I (0), I (0)]⟩]]) => ?_)
      refine O.mstore (vs := [I (((l)[k]'hx5_0).key), I (((l)[k]'hx5_0).val)]) (xs' := [I (((l)[k]'hx5_0).key), I (((l)[k]'hx5_0).val)]) 0 0 hM5_2 rfl rfl rfl el53 rfl rfl rfl rfl rfl (by simp) (by simp) rfl rfl (fun w5_3 (hM5_3 : Mem w w5_3 [] [[⟨.slice (bl b5_2) 1 1, 53, 2, 1, [I (((l)[k]'hx5_0).key), I (((l)[k]'hx5_0).val)]⟩]]) => ?_)
      refine O.nil ?_
      refine C.seq ?_
      refine C.region ?_
      refine O.val (v := .pointer (ofs (bl b5_2) (1))) rfl (Ru.fieldA fl53_1 rfl rfl) rfl ?_
      refine O.val rfl (Ru.load1 el3 rfl ((hM5_3.rd 0 rfl).ld rfl)) rfl ?_
      refine O.callg [I (((l)[k]'hx5_0).val)] rfl en58 rfl rfl (isValue_fn (((l)[k]'hx5_0).val) w5_3 ) ?_
      rintro _ w6_2 ⟨rfl, hR6_2⟩
      have hM6_2 : Mem w w6_2 [] [[⟨.slice (bl b5_2) 1 1, 53, 2, 1, [I (((l)[k]'hx5_0).key), I (((l)[k]'hx5_0).val)]⟩]] := Mem.call (Ma := []) hM5_3 hR6_2 rfl
      refine O.val (v := .bool (!(isValB (((l)[k]'hx5_0).val)))) rfl (Ru.not rfl) rfl ?_
      refine O.nil ?_
      refine C.condn (b := (isValB (((l)[k]'hx5_0).val))) rfl (fun c17 => ?_) (fun c17 => ?_)
      · refine C.seq ?_
        refine C.region ?_
        refine O.val (v := .bool (false)) rfl (Ru.assign rfl) rfl ?_
        refine O.nil ?_
        refine C.ret ?_
        refine P1 (v := .bool (false)) rfl ?_
        exact ⟨(by rw [validR_no hx5_0 c17]), (Mem.none hM6_2)⟩
      · refine C.skip ?_
        refine C.region ?_
        refine O.val (v := I ((((k + 1) : Nat) : Int))) rfl (Ru.congr (v := I ((((k : Nat) : Int) + 1))) (v' := I ((((k + 1) : Nat) : Int))) (Ru.add rfl rfl (by omega)) (I_congr (by first | omega | simp))) rfl ?_
        refine O.val (v := I ((((k + 1) : Nat) : Int))) rfl (Ru.move rfl) rfl ?_
        refine O.nil ?_
        exact loopEnd (k + 1) (by (try dsimp only); omega) (Has.cons rfl (Has.cons rfl (Has.cons rfl (Has.cons (I_congr (by first | rfl | omega | (simp; omega) | simp)) Has.nil)))) ⟨(by (try dsimp only); omega), (all_step hi1_l4 hx5_0 c17), (hM6_2.pick [] (by decide) rfl)⟩
    · refine C.exit ?_
      refine C.seq ?_
      refine C.region ?_
      refine O.val (v := .slice (A) ((l).length) (c)) rfl (Ru.move rfl) rfl ?_
      refine O.callg [.slice (A) ((l).length) (c)] rfl en60 rfl rfl (keysOfRow_fn A c l w_l4 (hA.at hM_l4) (by first | omega | assumption | (simp; omega) | simp | (intros; omega))) ?_
      rintro _ w9_1 ⟨A19_1, c19_1, rfl, hR9_1⟩
      have hM9_1 : Mem w w9_1 [] [[⟨.slice (A19_1) ((keysP l).length) (c19_1), 3, 1, ((keysP l).length), (keysP l).map I⟩]] := Mem.call (Ma := []) hM_l4 hR9_1 rfl
      have hcr9_1_0 := (hM9_1.cap 0 rfl).1
      refine O.callg [.slice (A19_1) ((keysP l).length) (c19_1)] rfl en59 rfl rfl (ValidKeys_fn A19_1 c19_1 (keysP l) w9_1 (hM9_1.rd 0 rfl) (by first | omega | assumption | (simp; omega) | simp | (intros; omega))) ?_
      rintro _ w9_2 ⟨rfl, hR9_2⟩
      have hM9_2 : Mem w w9_2 [] [[⟨.slice (A19_1) ((keysP l).length) (c19_1), 3, 1, ((keysP l).length), (keysP l).map I⟩]] := Mem.call (Ma := []) hM9_1 hR9_2 rfl
      refine O.val (v := .bool (validK (keysP l))) rfl (Ru.assign rfl) rfl ?_
      refine O.nil ?_
      refine C.ret ?_
      refine P1 (v := .bool (validK (keysP l))) rfl ?_
      exact ⟨(by rw [validR, all_end hi1_l4 (by omega), decide_eq_true (by omega)]; simp), (Mem.none hM9_2)⟩

theorem validRow_fn (A : Option Addr) (c : Nat) (l : List PairT) (w : World) (hA : Rd w A ((l).flatMap encP)) (hl : l.length ≤ 1048576) :
    Does Try.prog 56 [.slice (A) ((l).length) (c)] w (fun v w1 => v = .bool (validR l) ∧ Mem w w1 [] []) := by
  have hM : Mem w w [] [] := Mem.refl
  refine Does.enter1 Try.func56 rfl Try.results56 Try.ntmps56 rfl ?_
  refine C.seq ?_
  refine C.region ?_
  refine O.val (v := .bool (false)) rfl (Ru.assign rfl) rfl ?_
  refine O.nil ?_
  refine C.seq ?_
  refine C.seq ?_
  refine C.region ?_
  refine O.val (v := I (0)) rfl (Ru.assign rfl) rfl ?_
  refine O.nil ?_
  refine C.block ?_
  refine C.loop (ι := Nat) (fun k => ([(0, .slice (A) ((l).length) (c)), (3, I (((k : Nat) : Int)))] : List (Nat × Value))) (fun k w_ => (k ≤ l.length) ∧ ((l.take k).all (fun p => isValB p.val) = true) ∧ (Mem w w_ [] [])) (fun k => l.length - k) (0) (Has.cons rfl (Has.cons (I_congr (by first | rfl | omega | (simp; omega) | simp)) Has.nil)) ⟨(Nat.zero_le _), (by (try dsimp only); simp), (hM.pick [] (by decide) rfl)⟩ (fun k σ w_l2 hI => ?_)
  try dsimp only at hI
  obtain ⟨hi0_l2, hi1_l2, hM_l2⟩ := hI
  refine C.seq ?_
  refine C.seq ?_
  refine C.region ?_
  refine O.val (v := I (((k : Nat) : Int))) rfl (Ru.move rfl) rfl ?_
  refine O.val (v := .slice (A) ((l).length) (c)) rfl (Ru.move rfl) rfl ?_
  refine O.val (v := I ((((l).length : Nat) : Int))) rfl (Ru.blenSlice Try.underlying36 rfl) rfl ?_
  refine O.val (v := .bool (decide (((k : Nat) : Int) < (((l).length : Nat) : Int)))) rfl (Ru.lss rfl rfl) rfl ?_
  refine O.nil ?_
  refine C.cond (p := ((k : Nat) : Int) < (((l).length : Nat) : Int)) rfl (fun c7 => ?_) (fun c7 => ?_)
  · refine C.skip ?_
    refine C.seq ?_
    refine C.block ?_
    refine C.seq ?_
    refine C.region ?_
    refine O.val (v := .slice (A) ((l).length) (c)) rfl (Ru.move rfl) rfl ?_
    refine O.val (v := I (((k : Nat) : Int))) rfl (Ru.move rfl) rfl ?_
    have hx4_2 : k < (l).length := (by first | omega | (simp; omega))
    refine O.val (v := .pointer (ofs (A) (k * 2))) rfl (Ru.indexA (j := k) Try.underlying36 el53 rfl rfl (smf encP_len (hA.at hM_l2) hx4_2 rfl) (by omega) (by first | omega | (simp; omega))) rfl ?_
    refine O.val (v := .pointer (ofs (A) (k * 2 + 1))) rfl (Ru.fieldA fl53_1 rfl (smf encP_len (hA.at hM_l2) hx4_2 rfl)) rfl ?_
    refine O.val rfl (Ru.load1 el3 rfl (ldf encP_len (hA.at hM_l2) hx4_2 rfl)) rfl ?_
    refine O.callg [I (((l)[k]'hx4_2).val), I ((-1000)), I (1000)] rfl en70 rfl rfl (inRange_fn (((l)[k]'hx4_2).val) (-1000) 1000 w_l2 ) ?_
    rintro _ w4_5 ⟨rfl, hR4_5⟩
    have hM4_5 : Mem w w4_5 [] [] := Mem.call (Ma := []) hM_l2 hR4_5 rfl
    refine O.val (v := .bool (!(decide ((-1000) ≤ (((l)[k]'hx4_2).val)) && decide ((((l)[k]'hx4_2).val) ≤ 1000)))) rfl (Ru.not rfl) rfl ?_
    refine O.nil ?_
    refine C.condn (b := (decide ((-1000) ≤ (((l)[k]'hx4_2).val)) && decide ((((l)[k]'hx4_2).val) ≤ 1000))) rfl (fun c16 => ?_) (fun c16 => ?_)
    · refine C.seq ?_
      refine C.region ?_
      refine O.val (v := .bool (false)) rfl (Ru.assign rfl) rfl ?_
      refine O.nil ?_
      refine C.ret ?_
      refine P1 (v := .bool (false)) rfl ?_
      exact ⟨(by rw [validR_no hx4_2 c16]), (Mem.none hM4_5)⟩
    · refine C.skip ?_
      refine C.region ?_
      refine O.val (v := I (((k : Nat) : Int))) rfl (Ru.move rfl) rfl ?_
      refine O.val (v := I ((((k + 1) : Nat) : Int))) rfl (Ru.congr (v := I ((((k : Nat) : Int) + 1))) (v' := I ((((k + 1) : Nat) : Int))) (Ru.add rfl rfl (by omega)) (I_congr (by first | omega | simp))) rfl ?_
      refine O.val (v := I ((((k + 1) : Nat) : Int))) rfl (Ru.assign rfl) rfl ?_
      refine O.nil ?_
      exact loopEnd (k + 1) (by (try dsimp only); omega) (Has.cons rfl (Has.cons (I_congr (by first | rfl | omega | (simp; omega) | simp)) Has.nil)) ⟨(by (try dsimp only); omega), (all_step hi1_l2 hx4_2 c16), (hM4_5.pick [] (by decide) rfl)⟩
  · refine C.exit ?_
    refine C.seq ?_
    refine C.region ?_
    refine O.val (v := .slice (A) ((l).length) (c)) rfl (Ru.move rfl) rfl ?_
    refine O.val (v := I ((((l).length : Nat) : Int))) rfl (Ru.blenSlice Try.underlying36 rfl) rfl ?_
    refine O.val (v := .bool (decide ((((l).length : Nat) : Int) ≤ 24))) rfl (Ru.leq rfl rfl) rfl ?_
    refine O.val (v := .bool (decide ((((l).length : Nat) : Int) ≤ 24))) rfl (Ru.move rfl) rfl ?_
    refine O.partp 20 ((((l).length : Nat) : Int) ≤ 24) rfl (fun g20 => ?_) (fun g20 => ?_)
    · refine O.val (v := .slice (A) ((l).length) (c)) rfl (Ru.move rfl) rfl ?_
      refine O.callg [.slice (A) ((l).length) (c)] rfl en74 rfl rfl (skeysOf_fn A c l w_l2 (hA.at hM_l2) (by first | omega | assumption | (simp; omega) | simp | (intros; omega))) ?_
      rintro _ w6_5 ⟨A16_5, c16_5, rfl, hR6_5⟩
      have hM6_5 : Mem w w6_5 [] [[⟨.slice (A16_5) ((keysP l).length) (c16_5), 3, 1, ((keysP l).length), (keysP l).map I⟩]] := Mem.call (Ma := []) hM_l2 hR6_5 rfl
      have hcr6_5_0 := (hM6_5.cap 0 rfl).1
      refine O.callg [.slice (A16_5) ((keysP l).length) (c16_5)] rfl en73 rfl rfl (validKeys_fn A16_5 c16_5 (keysP l) w6_5 (hM6_5.rd 0 rfl) (by first | omega | assumption | (simp; omega) | simp | (intros; omega))) ?_
      rintro _ w6_6 ⟨rfl, hR6_6⟩
      have hM6_6 : Mem w w6_6 [] [[⟨.slice (A16_5) ((keysP l).length) (c16_5), 3, 1, ((keysP l).length), (keysP l).map I⟩]] := Mem.call (Ma := []) hM6_5 hR6_6 rfl
      refine O.val (v := .bool (validK (keysP l))) rfl (Ru.pickT rfl rfl) rfl ?_
      refine O.val (v := .bool (validK (keysP l))) rfl (Ru.assign rfl) rfl ?_
      refine O.nil ?_
      refine C.ret ?_
      refine P1 (v := .bool (validK (keysP l))) rfl ?_
      exact ⟨(by first | (rw [validR, all_end hi1_l2 (by omega), decide_eq_true (by omega)]; simp; done) | (rw [validR, decide_eq_false (by omega)]; simp)), (Mem.none hM6_6)⟩
    · refine O.pass rfl rfl rfl rfl rfl ?_
      refine O.pass rfl rfl rfl rfl rfl ?_
      refine O.pass rfl rfl rfl rfl rfl ?_
      refine O.val (v := .bool (false)) rfl (Ru.pickF rfl rfl) rfl ?_
      refine O.val (v := .bool (false)) rfl (Ru.assign rfl) rfl ?_
      refine O.nil ?_
      refine C.ret ?_
      refine P1 (v := .bool (false)) rfl ?_
      exact ⟨(by first | (rw [validR, all_end hi1_l2 (by omega), decide_eq_true (by omega)]; simp; done) | (rw [validR, decide_eq_false (by omega)]; simp)), (Mem.none hM_l2)⟩

theorem placeInRow_fn (A : Option Addr) (c : Nat) (l : List PairT) (k : Int) (w : World) (hA : Rd w A ((l).flatMap encP)) (hl : l.length ≤ 1048576) (hv : validK (keysP l) = true) :
    Does Try.prog 77 [.slice (A) ((l).length) (c), I (k)] w (fun v w1 => v = .tuple #[I ((plc l k : Int)), .bool (isInB l k)] ∧ Mem w w1 [] []) := by
  have hM : Mem w w [] [] := Mem.refl
  refine Does.enter2 Try.func77 rfl Try.results77 Try.ntmps77 rfl ?_
  refine C.seq ?_
  refine C.region ?_
  refine O.val (v := I (0)) rfl (Ru.assign rfl) rfl ?_
  refine O.val (v := .bool (false)) rfl (Ru.assign rfl) rfl ?_
  refine O.nil ?_
  refine C.seq ?_
  refine C.region ?_
  refine O.val (v := .slice (A) ((l).length) (c)) rfl (Ru.move rfl) rfl ?_
  refine O.callg [.slice (A) ((l).length) (c)] rfl en60 rfl rfl (keysOfRow_fn A c l w (hA.at hM) (by first | omega | assumption | (simp; omega) | simp | (intros; omega))) ?_
  rintro _ w1_1 ⟨A11_1, c11_1, rfl, hR1_1⟩
  have hM1_1 : Mem w w1_1 [] [[⟨.slice (A11_1) ((keysP l).length) (c11_1), 3, 1, ((keysP l).length), (keysP l).map I⟩]] := Mem.call (Ma := []) hM hR1_1 rfl
  have hcr1_1_0 := (hM1_1.cap 0 rfl).1
  refine O.val (v := I (k)) rfl (Ru.move rfl) rfl ?_
  refine O.callg [.slice (A11_1) ((keysP l).length) (c11_1), I (k)] rfl en81 rfl rfl (KeysBelow_fn A11_1 c11_1 (keysP l) k w1_1 (hM1_1.rd 0 rfl) (by first | omega | assumption | (simp; omega) | simp | (intros; omega))) ?_
  rintro _ w1_3 ⟨rfl, hR1_3⟩
  have hM1_3 : Mem w w1_3 [] [[⟨.slice (A11_1) ((keysP l).length) (c11_1), 3, 1, ((keysP l).length), (keysP l).map I⟩]] := Mem.call (Ma := []) hM1_1 hR1_3 rfl
  have hpl := plc_le l k
  have hifv : (if validK (keysP l) then (below (keysP l) k : Int) else -1) = (plc l k : Int) := by rw [if_pos hv]; rfl
  have hasc := (validK_iff.1 hv).2
  refine O.val (v := I ((plc l k : Int))) rfl (Ru.congr (v := I ((if validK (keysP l) then (below (keysP l) k : Int) else -1))) (v' := I ((plc l k : Int))) (Ru.assign rfl) (congrArg _ hifv)) rfl ?_
  refine O.nil ?_
  refine C.seq ?_
  refine C.draws (fun w2 => Mem w w2 [] [[⟨.slice (A11_1) ((keysP l).length) (c11_1), 3, 1, ((keysP l).length), (keysP l).map I⟩]]) mixed (by kernel_rfl) (hM1_3.ext (kdrawn _)) ?_
  refine QO.val (v := I ((plc l k : Int))) rfl (fun w2 hw2 => Ru.move rfl) rfl ?_
  refine QO.val (v := I ((plc l k : Int))) rfl (fun w2 hw2 => Ru.move rfl) rfl ?_
  refine QO.val (v := .bool (decide ((plc l k : Int) ≥ 0))) rfl (fun w2 hw2 => Ru.geq rfl rfl) rfl ?_
  refine QO.val (v := .bool (decide ((plc l k : Int) ≥ 0))) rfl (fun w2 hw2 => Ru.move rfl) rfl ?_
  refine QO.partp 14 ((plc l k : Int) ≥ 0) rfl (fun g14 => ?_) (fun g14 => ?_)
  · refine QO.val (v := I ((plc l k : Int))) rfl (fun w2 hw2 => Ru.move rfl) rfl ?_
    refine QO.val (v := .slice (A) ((l).length) (c)) rfl (fun w2 hw2 => Ru.move rfl) rfl ?_
    refine QO.val (v := I ((((l).length : Nat) : Int))) rfl (fun w2 hw2 => Ru.blenSlice Try.underlying36 rfl) rfl ?_
    refine QO.val (v := .bool (decide ((plc l k : Int) < (((l).length : Nat) : Int)))) rfl (fun w2 hw2 => Ru.lss rfl rfl) rfl ?_
    refine QO.val (v := .bool (decide ((plc l k : Int) < (((l).length : Nat) : Int)))) rfl (fun w2 hw2 => Ru.pickT rfl rfl) rfl ?_
    refine QO.val (v := .bool (decide ((plc l k : Int) < (((l).length : Nat) : Int)))) rfl (fun w2 hw2 => Ru.move rfl) rfl ?_
    refine QO.partp 20 ((plc l k : Int) < (((l).length : Nat) : Int)) rfl (fun g20 => ?_) (fun g20 => ?_)
    · refine QO.val (v := .slice (A) ((l).length) (c)) rfl (fun w2 hw2 => Ru.move rfl) rfl ?_
      refine QO.val (v := I ((plc l k : Int))) rfl (fun w2 hw2 => Ru.move rfl) rfl ?_
      have hx2_12 : plc l k < (l).length := (by first | omega | (simp; omega))
      refine QO.val (v := .pointer (ofs (A) ((plc l k) * 2))) rfl (fun w2 hw2 => Ru.indexA (j := plc l k) Try.underlying36 el53 rfl rfl (smf encP_len (hA.at hw2) hx2_12 rfl) (by omega) (by first | omega | (simp; omega))) rfl ?_
      refine QO.val (v := .pointer (ofs (A) ((plc l k) * 2 + 0))) rfl (fun w2 hw2 => Ru.fieldA fl53_0 rfl (smf encP_len (hA.at hw2) hx2_12 rfl)) rfl ?_
      refine QO.val rfl (fun w2 hw2 => Ru.load1 el3 rfl (ldf encP_len (hA.at hw2) hx2_12 rfl)) rfl ?_
      refine QO.val (v := I (k)) rfl (fun w2 hw2 => Ru.move rfl) rfl ?_
      refine QO.val (v := .bool (decide (((l)[plc l k]'hx2_12).key = k))) rfl (fun w2 hw2 => Ru.eql rfl rfl) rfl ?_
      refine QO.val (v := .bool (decide (((l)[plc l k]'hx2_12).key = k))) rfl (fun w2 hw2 => Ru.pickT rfl rfl) rfl ?_
      refine QO.val (v := I ((plc l k : Int))) rfl (fun w2 hw2 => Ru.assign rfl) rfl ?_
      refine QO.val (v := .bool (decide (((l)[plc l k]'hx2_12).key = k))) rfl (fun w2 hw2 => Ru.assign rfl) rfl ?_
      refine QO.nil ?_
      intro w2d hM2d
      refine C.ret ?_
      refine P2 (v := I ((plc l k : Int))) (v' := .bool (decide (((l)[plc l k]'hx2_12).key = k))) rfl rfl ?_
      exact ⟨(by first | (rw [← isIn_dec hasc hx2_12]; done) | (rw [isIn_out hasc (by omega)]; done) | (exfalso; omega)), (Mem.none hM2d)⟩
    · refine QO.pass rfl rfl rfl rfl rfl ?_
      refine QO.pass rfl rfl rfl rfl rfl ?_
      refine QO.pass rfl rfl rfl rfl rfl ?_
      refine QO.pass rfl rfl rfl rfl rfl ?_
      refine QO.pass rfl rfl rfl rfl rfl ?_
      refine QO.pass rfl rfl rfl rfl rfl ?_
      refine QO.pass rfl rfl rfl rfl rfl ?_
      refine QO.val (v := .bool (false)) rfl (fun w2 hw2 => Ru.pickF rfl rfl) rfl ?_
      refine QO.val (v := I ((plc l k : Int))) rfl (fun w2 hw2 => Ru.assign rfl) rfl ?_
      refine QO.val (v := .bool (false)) rfl (fun w2 hw2 => Ru.assign rfl) rfl ?_
      refine QO.nil ?_
      intro w2d hM2d
      refine C.ret ?_
      refine P2 (v := I ((plc l k : Int))) (v' := .bool (false)) rfl rfl ?_
      exact ⟨(by first | (rw [← isIn_dec hasc hx2_12]; done) | (rw [isIn_out hasc (by omega)]; done) | (exfalso; omega)), (Mem.none hM2d)⟩
  · refine QO.pass rfl rfl rfl rfl rfl ?_
    refine QO.pass rfl rfl rfl rfl rfl ?_
    refine QO.pass rfl rfl rfl rfl rfl ?_
    refine QO.pass rfl rfl rfl rfl rfl ?_
    refine QO.val (v := .bool (false)) rfl (fun w2 hw2 => Ru.pickF rfl rfl) rfl ?_
    refine QO.val (v := .bool (false)) rfl (fun w2 hw2 => Ru.move rfl) rfl ?_
    refine QO.pass rfl rfl rfl rfl rfl ?_
    refine QO.pass rfl rfl rfl rfl rfl ?_
    refine QO.pass rfl rfl rfl rfl rfl ?_
    refine QO.pass rfl rfl rfl rfl rfl ?_
    refine QO.pass rfl rfl rfl rfl rfl ?_
    refine QO.pass rfl rfl rfl rfl rfl ?_
    refine QO.pass rfl rfl rfl rfl rfl ?_
    refine QO.val (v := .bool (false)) rfl (fun w2 hw2 => Ru.pickF rfl rfl) rfl ?_
    refine QO.val (v := I ((plc l k : Int))) rfl (fun w2 hw2 => Ru.assign rfl) rfl ?_
    refine QO.val (v := .bool (false)) rfl (fun w2 hw2 => Ru.assign rfl) rfl ?_
    refine QO.nil ?_
    intro w2d hM2d
    refine C.ret ?_
    refine P2 (v := I ((plc l k : Int))) (v' := .bool (false)) rfl rfl ?_
    exact ⟨(by first | (rw [← isIn_dec hasc hx2_12]; done) | (rw [isIn_out hasc (by omega)]; done) | (exfalso; omega)), (Mem.none hM2d)⟩

theorem putInRow_fn (A : Option Addr) (c : Nat) (l : List PairT) (x : PairT) (w : World) (hA : Rd w A ((l).flatMap encP)) (hl : l.length ≤ 1048576) (hv : validK (keysP l) = true) :
    Does Try.prog 64 [.slice (A) ((l).length) (c), .agg #[I ((x).key), I ((x).val)]] w (fun v w1 => ∃ (A1 : Option Addr) (c1 : Nat), v = .slice (A1) ((putP l x).length) (c1) ∧ Mem w w1 [] [[⟨.slice (A1) ((putP l x).length) (c1), 53, 2, ((putP l x).length), (putP l x).flatMap encP⟩]]) := by
  have hM : Mem w w [] [] := Mem.refl
  refine Does.enter1 Try.func64 rfl Try.results64 Try.ntmps64 rfl ?_
  refine C.seq ?_
  refine C.region ?_
  refine O.mbox (k := 2) (vs := [I ((x).key), I ((x).val)]) hM rfl rfl rfl rfl rfl (fun w0_0 b0_0 hb0_0 (hM0_0 : Mem w w0_0 [] [[⟨.slice (bl b0_0) 1 1, 53, 2, 1, [I ((x).key), I ((x).val)]⟩]]) => ?_)
  refine O.val (v := .slice (none) (0) (0)) rfl (Ru.assign rfl) rfl ?_
  refine O.nil ?_
  refine C.seq ?_
  refine C.region ?_
  refine O.val (v := .slice (A) ((l).length) (c)) rfl (Ru.move rfl) rfl ?_
  refine O.val (v := .pointer (ofs (bl b0_0) (0))) rfl (Ru.fieldA fl53_0 rfl rfl) rfl ?_
  refine O.val rfl (Ru.load1 el3 rfl ((hM0_0.rd 0 rfl).ld rfl)) rfl ?_
  refine O.callg [.slice (A) ((l).length) (c), I ((x).key)] rfl en77 rfl rfl (placeInRow_fn A c l ((x).key) w0_0 (hA.at hM0_0) (by first | omega | assumption | (simp; omega) | simp | (intros; omega)) (by first | omega | assumption | (simp; omega) | simp | (intros; omega))) ?_
  rintro _ w1_3 ⟨rfl, hR1_3⟩
  have hM1_3 : Mem w w1_3 [] [[⟨.slice (bl b0_0) 1 1, 53, 2, 1, [I ((x).key), I ((x).val)]⟩]] := Mem.call (Ma := []) hM0_0 hR1_3 rfl
  have hasc := (validK_iff.1 hv).2
  have hpl := plc_le l x.key
  refine O.val (v := .tuple #[I ((plc l ((x).key) : Int)), .bool (isInB l ((x).key))]) rfl (Ru.move rfl) rfl ?_
  refine O.val (v := I ((plc l ((x).key) : Int))) rfl (Ru.extract rfl rfl) rfl ?_
  refine O.val (v := .bool (isInB l ((x).key))) rfl (Ru.extract rfl rfl) rfl ?_
  refine O.val (v := I ((plc l ((x).key) : Int))) rfl (Ru.assign rfl) rfl ?_
  refine O.val (v := .bool (isInB l ((x).key))) rfl (Ru.assign rfl) rfl ?_
  refine O.nil ?_
  refine C.seq ?_
  refine C.region ?_
  refine O.val (v := .slice (A) ((l).length) (c)) rfl (Ru.move rfl) rfl ?_
  refine O.callg [.slice (A) ((l).length) (c)] rfl en63 rfl rfl (ClonePair_fn A c l w1_3 (hA.at hM1_3) (by first | omega | assumption | (simp; omega) | simp | (intros; omega))) ?_
  rintro _ w2_1 ⟨A12_1, c12_1, rfl, hR2_1⟩
  have hM2_1 : Mem w w2_1 [] [[⟨.slice (A12_1) ((l).length) (c12_1), 53, 2, ((l).length), (l).flatMap encP⟩], [⟨.slice (bl b0_0) 1 1, 53, 2, 1, [I ((x).key), I ((x).val)]⟩]] := Mem.call (Ma := []) hM1_3 hR2_1 rfl
  have hcr2_1_0 := (hM2_1.cap 0 rfl).1
  refine O.val (v := .slice (A12_1) ((l).length) (c12_1)) rfl (Ru.assign rfl) rfl ?_
  refine O.nil ?_
  refine C.seq ?_
  refine C.seq ?_
  refine C.region ?_
  refine O.val (v := .bool (isInB l ((x).key))) rfl (Ru.move rfl) rfl ?_
  refine O.nil ?_
  refine C.condb (t := isInB l ((x).key)) rfl (fun c17 => ?_) (fun c17 => ?_)
  · obtain ⟨hpb, hpk⟩ := (isIn_at hasc).1 c17
    refine C.seq ?_
    refine C.region ?_
    refine O.val (v := .slice (A12_1) ((l).length) (c12_1)) rfl (Ru.move rfl) rfl ?_
    refine O.val (v := I ((plc l ((x).key) : Int))) rfl (Ru.move rfl) rfl ?_
    refine O.val rfl (Ru.loadN (vs := [I ((x).key), I ((x).val)]) el53 rfl rfl rfl ((mem_blk (i := 1) (j := 0) hM2_1 rfl rfl).lds (k := 0) rfl)) rfl ?_
    have hx4_3 : plc l ((x).key) < (l).length := (by first | omega | (simp; omega))
    refine O.val (v := .pointer (ofs (A12_1) ((plc l ((x).key)) * 2))) rfl (Ru.indexA (j := plc l ((x).key)) Try.underlying36 el53 rfl rfl (smf encP_len (hM2_1.rd 0 rfl) hx4_3 rfl) (by omega) (by first | omega | (simp; omega))) rfl ?_
    refine O.mstore (vs := [I ((x).key), I ((x).val)]) (xs' := ((l).set (plc l ((x).key)) x).flatMap encP) 0 0 hM2_1 rfl rfl rfl el53 rfl rfl rfl rfl rfl (by rw [flat_len encP_len]; simp; omega) (by simp) (spl_flat encP_len (l := l) (a := x) hx4_3) rfl (fun w4_4 (hM4_4 : Mem w w4_4 [] [[⟨.slice (A12_1) ((l).length) (c12_1), 53, 2, ((l).length), ((l).set (plc l ((x).key)) x).flatMap encP⟩], [⟨.slice (bl b0_0) 1 1, 53, 2, 1, [I ((x).key), I ((x).val)]⟩]]) => ?_)
    refine O.nil ?_
    refine C.seq ?_
    refine C.region ?_
    refine O.val (v := .slice (A12_1) ((l).length) (c12_1)) rfl (Ru.move rfl) rfl ?_
    refine O.val (v := .slice (A12_1) ((l).length) (c12_1)) rfl (Ru.assign rfl) rfl ?_
    refine O.nil ?_
    refine C.ret ?_
    refine P1 (v := .slice (A12_1) ((l).length) (c12_1)) rfl ?_
    have hq1 : ((l).set (plc l ((x).key)) x : List PairT) = putP l x := (put_in c17 hpb)
    have hMn1 : Mem w w4_4 [] [[⟨.slice (A12_1) ((putP l x).length) (c12_1), 53, 2, ((putP l x).length), (putP l x).flatMap encP⟩], [⟨.slice (bl b0_0) 1 1, 53, 2, 1, [I ((x).key), I ((x).val)]⟩]] := hM4_4.relen 0 (n' := (putP l x).length) (xs' := (putP l x).flatMap encP) rfl (by first | rfl | exact congrArg List.length hq1 | (have hqq := congrArg List.length hq1; first | omega | (simp at hqq ⊢; omega)) | (simp; done) | (simp; omega)) (congrArg (fun z_ => (z_).flatMap encP) hq1) rfl
    exact ⟨A12_1, c12_1, (sl_congr (by rw [← put_in c17 hpb]; simp)), (hMn1.pick [0] (by decide) rfl)⟩
  · refine C.skip ?_
    refine C.seq ?_
    refine C.region ?_
    refine O.val (v := .slice (A12_1) ((l).length) (c12_1)) rfl (Ru.move rfl) rfl ?_
    refine O.val (v := I ((plc l ((x).key) : Int))) rfl (Ru.move rfl) rfl ?_
    refine O.val rfl (Ru.loadN (vs := [I ((x).key), I ((x).val)]) el53 rfl rfl rfl ((mem_blk (i := 1) (j := 0) hM2_1 rfl rfl).lds (k := 0) rfl)) rfl ?_
    refine O.mlit (sz := 2) (cs := [I ((x).key), I ((x).val)]) hM2_1 rfl Try.underlying36 el53 rfl rfl rfl (by kernel_rfl) (by kernel_rfl) rfl rfl (fun w6_3 b6_3 hb6_3 (hM6_3 : Mem w w6_3 [] [[⟨.slice (bl b6_3) (1) (1), 53, 2, 1, ([x]).flatMap encP⟩], [⟨.slice (A12_1) ((l).length) (c12_1), 53, 2, ((l).length), (l).flatMap encP⟩], [⟨.slice (bl b0_0) 1 1, 53, 2, 1, [I ((x).key), I ((x).val)]⟩]]) => ?_)
    have hMf6_4 : Mem w w6_3 [] [[⟨.slice (A12_1) ((l).length) (c12_1), 53, 2, ((l).length), (l).flatMap encP⟩], [⟨.slice (bl b6_3) (1) (1), 53, 2, 1, ([x]).flatMap encP⟩], [⟨.slice (bl b0_0) 1 1, 53, 2, 1, [I ((x).key), I ((x).val)]⟩]] := hM6_3.pick [1, 0, 2] (by decide) rfl
    refine O.callg [.slice (A12_1) ((l).length) (c12_1), I ((plc l ((x).key) : Int)), .slice (bl b6_3) (([x]).length) (1)] rfl en78 (by first | rfl | (rw [show ([x]).length = 1 from (by first | rfl | (simp; done) | omega | (simp; omega))]; rfl)) rfl (InsertPair_fn A12_1 c12_1 l (plc l ((x).key)) (bl b6_3) 1 [x] w6_3 (Mem.focus (Ma := [[⟨.slice (A12_1) ((l).length) (c12_1), 53, 2, ((l).length), (l).flatMap encP⟩], [⟨.slice (bl b6_3) (1) (1), 53, 2, 1, ([x]).flatMap encP⟩]]) (rest := [[⟨.slice (bl b0_0) 1 1, 53, 2, 1, [I ((x).key), I ((x).val)]⟩]]) hMf6_4 rfl) (by first | omega | (simp; done) | (simp; omega)) (by first | omega | (simp; done) | (simp; omega)) (by first | omega | (simp; done) | (simp; omega)) (by first | omega | (simp; done) | (simp; omega))) ?_
    rintro _ w6_4 ⟨A16_4, c16_4, rfl, hR6_4⟩
    have hM6_4 : Mem w w6_4 [] [[⟨.slice (A16_4) ((l.take (plc l ((x).key)) ++ ([x] ++ l.drop (plc l ((x).key)))).length) (c16_4), 53, 2, ((l.take (plc l ((x).key)) ++ ([x] ++ l.drop (plc l ((x).key)))).length), (l.take (plc l ((x).key)) ++ ([x] ++ l.drop (plc l ((x).key)))).flatMap encP⟩], [⟨.slice (bl b0_0) 1 1, 53, 2, 1, [I ((x).key), I ((x).val)]⟩]] := Mem.call (Ma := [[⟨.slice (A12_1) ((l).length) (c12_1), 53, 2, ((l).length), (l).flatMap encP⟩], [⟨.slice (bl b6_3) (1) (1), 53, 2, 1, ([x]).flatMap encP⟩]]) hMf6_4 hR6_4 rfl
    have hcr6_4_0 := (hM6_4.cap 0 rfl).1
    refine O.val (v := .slice (A16_4) ((l.take (plc l ((x).key)) ++ ([x] ++ l.drop (plc l ((x).key)))).length) (c16_4)) rfl (Ru.assign rfl) rfl ?_
    refine O.nil ?_
    refine C.ret ?_
    refine P1 (v := .slice (A16_4) ((l.take (plc l ((x).key)) ++ ([x] ++ l.drop (plc l ((x).key)))).length) (c16_4)) rfl ?_
    have hq2 : (l.take (plc l ((x).key)) ++ ([x] ++ l.drop (plc l ((x).key))) : List PairT) = putP l x := (put_out c17)
    have hMn2 : Mem w w6_4 [] [[⟨.slice (A16_4) ((putP l x).length) (c16_4), 53, 2, ((putP l x).length), (putP l x).flatMap encP⟩], [⟨.slice (bl b0_0) 1 1, 53, 2, 1, [I ((x).key), I ((x).val)]⟩]] := hM6_4.relen 0 (n' := (putP l x).length) (xs' := (putP l x).flatMap encP) rfl (by first | rfl | exact congrArg List.length hq2 | (have hqq := congrArg List.length hq2; first | omega | (simp at hqq ⊢; omega)) | (simp; done) | (simp; omega)) (congrArg (fun z_ => (z_).flatMap encP) hq2) rfl
    exact ⟨A16_4, c16_4, (sl_congr (by rw [← put_out c17])), (hMn2.pick [0] (by decide) rfl)⟩

theorem dropFromRow_fn (A : Option Addr) (c : Nat) (l : List PairT) (k : Int) (w : World) (hA : Rd w A ((l).flatMap encP)) (hl : l.length ≤ 1048576) (hv : validK (keysP l) = true) :
    Does Try.prog 65 [.slice (A) ((l).length) (c), I (k)] w (fun v w1 => ∃ (A1 : Option Addr) (c1 : Nat), v = .tuple #[.slice (A1) ((dropP l k).length) (c1), .bool (isInB l k)] ∧ Mem w w1 [] [[⟨.slice (A1) ((dropP l k).length) (c1), 53, 2, ((dropP l k).length), (dropP l k).flatMap encP⟩]]) := by
  have hM : Mem w w [] [] := Mem.refl
  refine Does.enter2 Try.func65 rfl Try.results65 Try.ntmps65 rfl ?_
  refine C.seq ?_
  refine C.region ?_
  refine O.val (v := .slice (none) (0) (0)) rfl (Ru.assign rfl) rfl ?_
  refine O.val (v := .bool (false)) rfl (Ru.assign rfl) rfl ?_
  refine O.nil ?_
  refine C.seq ?_
  refine C.region ?_
  refine O.val (v := .slice (A) ((l).length) (c)) rfl (Ru.move rfl) rfl ?_
  refine O.val (v := I (k)) rfl (Ru.move rfl) rfl ?_
  refine O.callg [.slice (A) ((l).length) (c), I (k)] rfl en77 rfl rfl (placeInRow_fn A c l k w (hA.at hM) (by first | omega | assumption | (simp; omega) | simp | (intros; omega)) (by first | omega | assumption | (simp; omega) | simp | (intros; omega))) ?_
  rintro _ w1_2 ⟨rfl, hR1_2⟩
  have hM1_2 : Mem w w1_2 [] [] := Mem.call (Ma := []) hM hR1_2 rfl
  have hasc := (validK_iff.1 hv).2
  have hpl := plc_le l k
  refine O.val (v := .tuple #[I ((plc l k : Int)), .bool (isInB l k)]) rfl (Ru.move rfl) rfl ?_
  refine O.val (v := I ((plc l k : Int))) rfl (Ru.extract rfl rfl) rfl ?_
  refine O.val (v := .bool (isInB l k)) rfl (Ru.extract rfl rfl) rfl ?_
  refine O.val (v := I ((plc l k : Int))) rfl (Ru.assign rfl) rfl ?_
  refine O.val (v := .bool (isInB l k)) rfl (Ru.assign rfl) rfl ?_
  refine O.nil ?_
  refine C.seq ?_
  refine C.region ?_
  refine O.val (v := .slice (A) ((l).length) (c)) rfl (Ru.move rfl) rfl ?_
  refine O.callg [.slice (A) ((l).length) (c)] rfl en63 rfl rfl (ClonePair_fn A c l w1_2 (hA.at hM1_2) (by first | omega | assumption | (simp; omega) | simp | (intros; omega))) ?_
  rintro _ w2_1 ⟨A12_1, c12_1, rfl, hR2_1⟩
  have hM2_1 : Mem w w2_1 [] [[⟨.slice (A12_1) ((l).length) (c12_1), 53, 2, ((l).length), (l).flatMap encP⟩]] := Mem.call (Ma := []) hM1_2 hR2_1 rfl
  have hcr2_1_0 := (hM2_1.cap 0 rfl).1
  refine O.val (v := .slice (A12_1) ((l).length) (c12_1)) rfl (Ru.assign rfl) rfl ?_
  refine O.nil ?_
  refine C.seq ?_
  refine C.seq ?_
  refine C.region ?_
  refine O.val (v := .bool (isInB l k)) rfl (Ru.move rfl) rfl ?_
  refine O.val (v := .bool (!(isInB l k))) rfl (Ru.not rfl) rfl ?_
  refine O.nil ?_
  refine C.condn (b := (isInB l k)) rfl (fun c18 => ?_) (fun c18 => ?_)
  · have c19 : isInB l k = false := by simpa using c18
    refine C.seq ?_
    refine C.region ?_
    refine O.val (v := .slice (A12_1) ((l).length) (c12_1)) rfl (Ru.move rfl) rfl ?_
    refine O.val (v := .slice (A12_1) ((l).length) (c12_1)) rfl (Ru.assign rfl) rfl ?_
    refine O.val (v := .bool (false)) rfl (Ru.assign rfl) rfl ?_
    refine O.nil ?_
    refine C.ret ?_
    refine P2 (v := .slice (A12_1) ((l).length) (c12_1)) (v' := .bool (false)) rfl rfl ?_
    have hq1 : (l : List PairT) = dropP l k := (drop_out c19).symm
    have hMn1 : Mem w w2_1 [] [[⟨.slice (A12_1) ((dropP l k).length) (c12_1), 53, 2, ((dropP l k).length), (dropP l k).flatMap encP⟩]] := hM2_1.relen 0 (n' := (dropP l k).length) (xs' := (dropP l k).flatMap encP) rfl (by first | rfl | exact congrArg List.length hq1 | (have hqq := congrArg List.length hq1; first | omega | (simp at hqq ⊢; omega)) | (simp; done) | (simp; omega)) (congrArg (fun z_ => (z_).flatMap encP) hq1) rfl
    exact ⟨A12_1, c12_1, (by rw [c19, drop_out c19]), (hMn1.pick [0] (by decide) rfl)⟩
  · have c19 : isInB l k = true := by simpa using c18
    obtain ⟨hpb, hpk⟩ := (isIn_at hasc).1 c19
    refine C.skip ?_
    refine C.seq ?_
    refine C.region ?_
    refine O.val (v := .slice (A12_1) ((l).length) (c12_1)) rfl (Ru.move rfl) rfl ?_
    refine O.val (v := I ((plc l k : Int))) rfl (Ru.move rfl) rfl ?_
    refine O.val (v := I ((plc l k : Int))) rfl (Ru.move rfl) rfl ?_
    refine O.val (v := I ((((plc l k + 1) : Nat) : Int))) rfl (Ru.congr (v := I (((plc l k : Int) + 1))) (v' := I ((((plc l k + 1) : Nat) : Int))) (Ru.add rfl rfl (by omega)) (I_congr (by first | omega | simp))) rfl ?_
    refine O.callg [.slice (A12_1) ((l).length) (c12_1), I ((plc l k : Int)), I ((((plc l k + 1) : Nat) : Int))] rfl en79 rfl rfl (DeletePair_fn A12_1 c12_1 l (plc l k) (plc l k + 1) w2_1 (Mem.focus (Ma := [[⟨.slice (A12_1) ((l).length) (c12_1), 53, 2, ((l).length), (l).flatMap encP⟩]]) (rest := []) hM2_1 rfl) (by omega) (by omega) (by omega)) ?_
    rintro _ w5_4 ⟨A15_4, c15_4, rfl, hR5_4⟩
    have hM5_4 : Mem w w5_4 [] [[⟨.slice (A15_4) ((l.take (plc l k) ++ l.drop (plc l k + 1)).length) (c15_4), 53, 2, ((l.take (plc l k) ++ l.drop (plc l k + 1)).length), (l.take (plc l k) ++ l.drop (plc l k + 1)).flatMap encP⟩]] := Mem.call (Ma := [[⟨.slice (A12_1) ((l).length) (c12_1), 53, 2, ((l).length), (l).flatMap encP⟩]]) hM2_1 hR5_4 rfl
    have hcr5_4_0 := (hM5_4.cap 0 rfl).1
    refine O.val (v := .slice (A15_4) ((l.take (plc l k) ++ l.drop (plc l k + 1)).length) (c15_4)) rfl (Ru.assign rfl) rfl ?_
    refine O.val (v := .bool (true)) rfl (Ru.assign rfl) rfl ?_
    refine O.nil ?_
    refine C.ret ?_
    refine P2 (v := .slice (A15_4) ((l.take (plc l k) ++ l.drop (plc l k + 1)).length) (c15_4)) (v' := .bool (true)) rfl rfl ?_
    have hq2 : (l.take (plc l k) ++ l.drop (plc l k + 1) : List PairT) = dropP l k := (drop_in c19)
    have hMn2 : Mem w w5_4 [] [[⟨.slice (A15_4) ((dropP l k).length) (c15_4), 53, 2, ((dropP l k).length), (dropP l k).flatMap encP⟩]] := hM5_4.relen 0 (n' := (dropP l k).length) (xs' := (dropP l k).flatMap encP) rfl (by first | rfl | exact congrArg List.length hq2 | (have hqq := congrArg List.length hq2; first | omega | (simp at hqq ⊢; omega)) | (simp; done) | (simp; omega)) (congrArg (fun z_ => (z_).flatMap encP) hq2) rfl
    exact ⟨A15_4, c15_4, (by rw [c19, drop_in c19]), (hMn2.pick [0] (by decide) rfl)⟩
end Go.Proofs.Ytgflcaeibbnkcaa
