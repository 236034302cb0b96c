/- Own layer: part of this seat (F1). Plain theorems; no conditions. -/
import Derived.Test.YtekfncmhinbghaaF0
set_option linter.unusedVariables false
set_option linter.unusedSimpArgs false
namespace Go.Proofs.Ytekfncmhinbghaa
open Go.Px
theorem pick_fn (gr p : Nat) (n : Int) (w : World) (hR : Rdr 66 w gr p) (hp : p ≤ 1000000100000) :
    Does Try.prog 55 [.pointer (ofs (bl gr) (0)), I (n)] w (fun v w1 => (∃ k : Int, v = I k ∧ 0 ≤ k ∧ (k < n ∨ k = 0)) ∧ Rdr 66 w1 gr (p + 1) ∧ w.grownBy w1 (some gr)) := by
  obtain ⟨A, l, c, q, hB, hA, hl, hq, hN⟩ := hR
  refine Does.enter1 Try.func55 rfl Try.results55 Try.ntmps55 rfl ?_
  refine C.seq ?_
  refine C.region ?_
  refine O.val rfl (Ru.assign rfl) rfl ?_
  refine O.nil ?_
  refine C.seq ?_
  refine C.region ?_
  refine O.val rfl (Ru.move rfl) rfl ?_
  refine O.val rfl (Ru.move rfl) rfl ?_
  refine O.val rfl (Ru.nilc rfl rfl) rfl ?_
  refine O.val rfl (Ru.fieldA fl66_1 rfl rfl) rfl ?_
  refine O.val rfl (Ru.load1 el3 rfl (hB.ld rfl)) rfl ?_
  refine O.val rfl (Ru.add rfl rfl (by omega)) rfl ?_
  refine O.val rfl (Ru.nilc rfl rfl) rfl ?_
  refine O.val rfl (Ru.fieldA fl66_1 rfl rfl) rfl ?_
  refine O.store (vs := [I (((q : Int) + 1))]) rfl el3 rfl rfl rfl rfl rfl hB (by simp) (fun w1_8 hE1_8 hs1_8 hn1_8 => ?_)
  have hK1_8 := ksame (krefl w (some gr)) hE1_8
  replace hA := rd_kp hA hE1_8 hN
  replace hB := hn1_8.cast (l' := [.slice (A) (l.length) (c), I (((q : Int) + 1))]) rfl
  refine O.nil ?_
  refine C.seq ?_
  refine C.seq ?_
  refine C.region ?_
  refine O.val rfl (Ru.move rfl) rfl ?_
  refine O.val rfl (Ru.lss rfl rfl) rfl ?_
  refine O.val rfl (Ru.move rfl) rfl ?_
  refine O.partp 17 (n < 1) rfl (fun g17 => ?_) (fun g17 => ?_)
  · refine O.pass rfl rfl rfl rfl rfl ?_
    refine O.pass rfl rfl rfl rfl rfl ?_
    refine O.pass rfl rfl rfl rfl rfl ?_
    refine O.pass rfl rfl rfl rfl rfl ?_
    refine O.pass rfl rfl rfl rfl rfl ?_
    refine O.pass rfl rfl rfl rfl rfl ?_
    refine O.val rfl (Ru.pickT rfl rfl) rfl ?_
    refine O.nil ?_
    refine C.condT rfl ?_
    refine C.seq ?_
    refine C.region ?_
    refine O.val rfl (Ru.assign rfl) rfl ?_
    refine O.nil ?_
    refine C.ret ?_
    refine P1 (v := I (0)) rfl ?_
    exact ⟨⟨0, rfl, Int.le_refl _, .inr rfl⟩, ⟨A, l, c, q + 1, hB.cast (by simp), hA, hl, by omega, hN⟩, hK1_8⟩
  · refine O.val rfl (Ru.move rfl) rfl ?_
    refine O.val rfl (Ru.nilc rfl rfl) rfl ?_
    refine O.val rfl (Ru.fieldA fl66_0 rfl rfl) rfl ?_
    refine O.val rfl (Ru.load1 el29 rfl (hB.ld rfl)) rfl ?_
    refine O.val rfl (Ru.blenSlice Try.underlying29 rfl) rfl ?_
    refine O.val rfl (Ru.eql rfl rfl) rfl ?_
    refine O.val rfl (Ru.pickF rfl rfl) rfl ?_
    refine O.nil ?_
    refine C.cond (p := ((l.length : Nat) : Int) = 0) rfl (fun c24 => ?_) (fun c24 => ?_)
    · refine C.seq ?_
      refine C.region ?_
      refine O.val rfl (Ru.assign rfl) rfl ?_
      refine O.nil ?_
      refine C.ret ?_
      refine P1 (v := I (0)) rfl ?_
      exact ⟨⟨0, rfl, Int.le_refl _, .inr rfl⟩, ⟨A, l, c, q + 1, hB.cast (by simp), hA, hl, by omega, hN⟩, hK1_8⟩
    · refine C.skip ?_
      refine C.seq ?_
      refine C.region ?_
      refine O.val rfl (Ru.move rfl) rfl ?_
      refine O.val rfl (Ru.nilc rfl rfl) rfl ?_
      refine O.val rfl (Ru.fieldA fl66_1 rfl rfl) rfl ?_
      refine O.val rfl (Ru.load1 el3 rfl (hB.ld rfl)) rfl ?_
      refine O.val rfl (Ru.congr (v := I ((((q : Int) + 1) - 1))) (v' := I ((q : Int))) (Ru.sub rfl rfl (by omega)) (I_congr (by omega))) rfl ?_
      refine O.val rfl (Ru.assign rfl) rfl ?_
      refine O.nil ?_
      refine C.seq ?_
      refine C.seq ?_
      refine C.region ?_
      refine O.val rfl (Ru.move rfl) rfl ?_
      refine O.val rfl (Ru.move rfl) rfl ?_
      refine O.val rfl (Ru.nilc rfl rfl) rfl ?_
      refine O.val rfl (Ru.fieldA fl66_0 rfl rfl) rfl ?_
      refine O.val rfl (Ru.load1 el29 rfl (hB.ld rfl)) rfl ?_
      refine O.val rfl (Ru.blenSlice Try.underlying29 rfl) rfl ?_
      refine O.val rfl (Ru.lss rfl rfl) rfl ?_
      refine O.nil ?_
      refine C.cond (p := (q : Int) < ((l.length : Nat) : Int)) rfl (fun c36 => ?_) (fun c36 => ?_)
      · have hk1 : q < l.length := by omega
        refine C.seq ?_
        refine C.region ?_
        refine O.val rfl (Ru.move rfl) rfl ?_
        refine O.val rfl (Ru.nilc rfl rfl) rfl ?_
        refine O.val rfl (Ru.fieldA fl66_0 rfl rfl) rfl ?_
        refine O.val rfl (Ru.load1 el29 rfl (hB.ld rfl)) rfl ?_
        refine O.val rfl (Ru.move rfl) rfl ?_
        refine O.val rfl (Ru.indexA (j := q) Try.underlying29 el5 rfl rfl (smm hA hk1) (by omega) (by omega)) rfl ?_
        refine O.val rfl (Ru.load1 el5 rfl (ldm hA hk1)) rfl ?_
        refine O.val rfl (Ru.conv (c := (((l)[q]'hk1).toNat : Int)) Try.underlying5 Try.underlying3 rfl (wrap_u8 _ (by have := u8_le l[q]; omega))) rfl ?_
        refine O.val rfl (Ru.move rfl) rfl ?_
        refine O.val rfl (Ru.rem rfl rfl (by omega)) rfl ?_
        refine O.val rfl (Ru.assign rfl) rfl ?_
        refine O.nil ?_
        refine C.ret ?_
        refine P1 (v := I (((((l)[q]'hk1).toNat : Int) % n))) rfl ?_
        exact ⟨⟨_, rfl, Int.emod_nonneg _ (by omega), .inl (Int.emod_lt_of_pos _ (by omega))⟩, ⟨A, l, c, q + 1, hB.cast (by simp), hA, hl, by omega, hN⟩, hK1_8⟩
      · have hq0 := Nat.mod_lt q (show 0 < l.length by omega)
        have hq1 := Nat.mod_lt (q * 7 + 3) (show 0 < l.length by omega)
        have hu0 := u8_le (l[q % l.length])
        have hu1 := u8_le (l[(q * 7 + 3) % l.length])
        obtain ⟨dv, hdq, hdv⟩ : ∃ dv : Nat, dv = q / l.length ∧ dv ≤ q := ⟨_, rfl, Nat.div_le_self _ _⟩
        refine C.skip ?_
        refine C.seq ?_
        refine C.draws (fun w2 => w1_8.grownBy w2 none) mixed (by kernel_rfl) (kdrawn _) ?_
        refine QO.val rfl (fun w2 hw2 => Ru.move rfl) rfl ?_
        refine QO.val rfl (fun w2 hw2 => Ru.nilc rfl rfl) rfl ?_
        refine QO.val rfl (fun w2 hw2 => Ru.fieldA fl66_0 rfl rfl) rfl ?_
        refine QO.val rfl (fun w2 hw2 => Ru.load1 el29 rfl ((hB.ext hw2).ld rfl)) rfl ?_
        refine QO.val rfl (fun w2 hw2 => Ru.move rfl) rfl ?_
        refine QO.val rfl (fun w2 hw2 => Ru.move rfl) rfl ?_
        refine QO.val rfl (fun w2 hw2 => Ru.nilc rfl rfl) rfl ?_
        refine QO.val rfl (fun w2 hw2 => Ru.fieldA fl66_0 rfl rfl) rfl ?_
        refine QO.val rfl (fun w2 hw2 => Ru.load1 el29 rfl ((hB.ext hw2).ld rfl)) rfl ?_
        refine QO.val rfl (fun w2 hw2 => Ru.blenSlice Try.underlying29 rfl) rfl ?_
        refine QO.val rfl (fun w2 hw2 => Ru.congr (v := I (((q : Int) % ((l.length : Nat) : Int)))) (v' := I (((q % l.length : Nat) : Int))) (Ru.rem rfl rfl (by omega)) (I_congr (by simp))) rfl ?_
        refine QO.val rfl (fun w2 hw2 => Ru.indexA (j := q % l.length) Try.underlying29 el5 rfl rfl (smm (hA.ext hw2) hq0) (by omega) (by omega)) rfl ?_
        refine QO.val rfl (fun w2 hw2 => Ru.load1 el5 rfl (ldm (hA.ext hw2) hq0)) rfl ?_
        refine QO.val rfl (fun w2 hw2 => Ru.conv (c := (((l)[q % l.length]'hq0).toNat : Int)) Try.underlying5 Try.underlying3 rfl (wrap_u8 _ (by omega))) rfl ?_
        refine QO.val rfl (fun w2 hw2 => Ru.mul rfl rfl (by omega)) rfl ?_
        refine QO.val rfl (fun w2 hw2 => Ru.move rfl) rfl ?_
        refine QO.val rfl (fun w2 hw2 => Ru.nilc rfl rfl) rfl ?_
        refine QO.val rfl (fun w2 hw2 => Ru.fieldA fl66_0 rfl rfl) rfl ?_
        refine QO.val rfl (fun w2 hw2 => Ru.load1 el29 rfl ((hB.ext hw2).ld rfl)) rfl ?_
        refine QO.val rfl (fun w2 hw2 => Ru.move rfl) rfl ?_
        refine QO.val rfl (fun w2 hw2 => Ru.mul rfl rfl (by omega)) rfl ?_
        refine QO.val rfl (fun w2 hw2 => Ru.add rfl rfl (by omega)) rfl ?_
        refine QO.val rfl (fun w2 hw2 => Ru.move rfl) rfl ?_
        refine QO.val rfl (fun w2 hw2 => Ru.nilc rfl rfl) rfl ?_
        refine QO.val rfl (fun w2 hw2 => Ru.fieldA fl66_0 rfl rfl) rfl ?_
        refine QO.val rfl (fun w2 hw2 => Ru.load1 el29 rfl ((hB.ext hw2).ld rfl)) rfl ?_
        refine QO.val rfl (fun w2 hw2 => Ru.blenSlice Try.underlying29 rfl) rfl ?_
        refine QO.val rfl (fun w2 hw2 => Ru.congr (v := I (((((q : Int) * 7) + 3) % ((l.length : Nat) : Int)))) (v' := I ((((q * 7 + 3) % l.length : Nat) : Int))) (Ru.rem rfl rfl (by omega)) (I_congr (by simp))) rfl ?_
        refine QO.val rfl (fun w2 hw2 => Ru.indexA (j := (q * 7 + 3) % l.length) Try.underlying29 el5 rfl rfl (smm (hA.ext hw2) hq1) (by omega) (by omega)) rfl ?_
        refine QO.val rfl (fun w2 hw2 => Ru.load1 el5 rfl (ldm (hA.ext hw2) hq1)) rfl ?_
        refine QO.val rfl (fun w2 hw2 => Ru.conv (c := (((l)[(q * 7 + 3) % l.length]'hq1).toNat : Int)) Try.underlying5 Try.underlying3 rfl (wrap_u8 _ (by omega))) rfl ?_
        refine QO.val rfl (fun w2 hw2 => Ru.mul rfl rfl (by omega)) rfl ?_
        refine QO.val rfl (fun w2 hw2 => Ru.add rfl rfl (by omega)) rfl ?_
        refine QO.val rfl (fun w2 hw2 => Ru.move rfl) rfl ?_
        refine QO.val rfl (fun w2 hw2 => Ru.mul rfl rfl (by omega)) rfl ?_
        refine QO.val rfl (fun w2 hw2 => Ru.add rfl rfl (by omega)) rfl ?_
        refine QO.val rfl (fun w2 hw2 => Ru.move rfl) rfl ?_
        refine QO.val rfl (fun w2 hw2 => Ru.move rfl) rfl ?_
        refine QO.val rfl (fun w2 hw2 => Ru.nilc rfl rfl) rfl ?_
        refine QO.val rfl (fun w2 hw2 => Ru.fieldA fl66_0 rfl rfl) rfl ?_
        refine QO.val rfl (fun w2 hw2 => Ru.load1 el29 rfl ((hB.ext hw2).ld rfl)) rfl ?_
        refine QO.val rfl (fun w2 hw2 => Ru.blenSlice Try.underlying29 rfl) rfl ?_
        refine QO.val rfl (fun w2 hw2 => Ru.congr (v := I (((q : Int) / ((l.length : Nat) : Int)))) (v' := I ((dv : Int))) (Ru.quo rfl rfl (by omega)) (I_congr (by rw [hdq]; simp))) rfl ?_
        refine QO.val rfl (fun w2 hw2 => Ru.mul rfl rfl (by omega)) rfl ?_
        refine QO.val rfl (fun w2 hw2 => Ru.add rfl rfl (by omega)) rfl ?_
        refine QO.val rfl (fun w2 hw2 => Ru.assign rfl) rfl ?_
        refine QO.nil ?_
        intro w7d hE7d
        have hK7d := kext hK1_8 hE7d
        replace hB := hB.ext hE7d
        replace hA := hA.ext hE7d
        refine C.seq ?_
        refine C.region ?_
        refine O.val rfl (Ru.move rfl) rfl ?_
        refine O.val rfl (Ru.move rfl) rfl ?_
        refine O.val rfl (Ru.quo rfl rfl (by omega)) rfl ?_
        refine O.val rfl (Ru.xor rfl rfl (by omega) (by omega)) rfl ?_
        refine O.val rfl (Ru.assign rfl) rfl ?_
        refine O.nil ?_
        refine C.seq ?_
        refine C.region ?_
        refine O.val rfl (Ru.move rfl) rfl ?_
        refine O.val rfl (Ru.move rfl) rfl ?_
        refine O.val rfl (Ru.rem rfl rfl (by omega)) rfl ?_
        refine O.val rfl (Ru.assign rfl) rfl ?_
        refine O.nil ?_
        refine C.ret ?_
        refine P1 (v := I ((((((((((((l)[q % l.length]'hq0).toNat : Int) * 131) + ((((l)[(q * 7 + 3) % l.length]'hq1).toNat : Int) * 1117)) + ((q : Int) * 29)) + ((dv : Int) * 53))).toNat ^^^ (((((((((l)[q % l.length]'hq0).toNat : Int) * 131) + ((((l)[(q * 7 + 3) % l.length]'hq1).toNat : Int) * 1117)) + ((q : Int) * 29)) + ((dv : Int) * 53)) / 64)).toNat : Nat) : Int) % n))) rfl ?_
        exact ⟨⟨_, rfl, Int.emod_nonneg _ (by omega), .inl (Int.emod_lt_of_pos _ (by omega))⟩, ⟨A, l, c, q + 1, hB.cast (by simp), hA, hl, by omega, hN⟩, hK7d⟩

theorem newReader_fn (A : Option Addr) (c : Nat) (l : List UInt8) (w : World) (hA : Rd w A (l.map byteV)) (hl : l.length ≤ 1048576) (hc : l.length ≤ c) :
    Does Try.prog 53 [.slice (A) (l.length) (c)] w (fun v w1 => (∃ gr, v = .pointer (ofs (bl gr) 0) ∧ w.heap.size ≤ gr ∧ Rdr 66 w1 gr 0) ∧ w.grownBy w1 none) := by
  refine Does.enter1 Try.func53 rfl Try.results53 Try.ntmps53 rfl ?_
  refine C.seq ?_
  refine C.region ?_
  refine O.val rfl (Ru.assign rfl) rfl ?_
  refine O.nil ?_
  refine C.seq ?_
  refine C.seq ?_
  refine C.region ?_
  refine O.val rfl (Ru.move rfl) rfl ?_
  refine O.val rfl (Ru.blenSlice Try.underlying29 rfl) rfl ?_
  refine O.val rfl (Ru.gtr rfl rfl) rfl ?_
  refine O.nil ?_
  refine C.cond (p := ((l.length : Nat) : Int) > 2000) rfl (fun c5 => ?_) (fun c5 => ?_)
  · refine C.region ?_
    refine O.val rfl (Ru.move rfl) rfl ?_
    refine O.val rfl (Ru.lsliceTo (h := 2000) Try.underlying29 el5 rfl rfl (by omega) (by omega)) rfl ?_
    refine O.val rfl (Ru.assign rfl) rfl ?_
    refine O.nil ?_
    refine C.seq ?_
    refine C.region ?_
    refine O.val rfl (Ru.move rfl) rfl ?_
    refine O.val rfl (Ru.build of66 rfl rfl rfl) rfl ?_
    refine O.box (vs := [.slice (A) (2000) (c), I (0)]) rfl rfl rfl rfl (fun w3_2 b3_2 hb3_2 hE3_2 hB3_2 => ?_)
    have hs3_2 := (krefl w none).size
    have hK3_2 := kext (krefl w none) hE3_2
    refine O.val rfl (Ru.assign rfl) rfl ?_
    refine O.nil ?_
    refine C.ret ?_
    refine P1 (v := .pointer (ofs (bl b3_2) (0))) rfl ?_
    exact ⟨⟨b3_2, rfl, by omega, ⟨A, l.take 2000, c, 0, hB3_2.cast (by simp; omega), rd_take1 (hA.ext hK3_2), by simp; omega, Nat.le_refl _, ((rd_old (rd_take1 hA (k := 2000))).imp id (fun h a ha => by have := h a ha; omega))⟩⟩, hK3_2⟩
  · refine C.skip ?_
    refine C.seq ?_
    refine C.region ?_
    refine O.val rfl (Ru.move rfl) rfl ?_
    refine O.val rfl (Ru.build of66 rfl rfl rfl) rfl ?_
    refine O.box (vs := [.slice (A) (l.length) (c), I (0)]) rfl rfl rfl rfl (fun w3_2 b3_2 hb3_2 hE3_2 hB3_2 => ?_)
    have hs3_2 := (krefl w none).size
    have hK3_2 := kext (krefl w none) hE3_2
    refine O.val rfl (Ru.assign rfl) rfl ?_
    refine O.nil ?_
    refine C.ret ?_
    refine P1 (v := .pointer (ofs (bl b3_2) (0))) rfl ?_
    exact ⟨⟨b3_2, rfl, by omega, ⟨A, l, c, 0, hB3_2, hA.ext hK3_2, by omega, Nat.le_refl _, ((rd_old hA).imp id (fun h a ha => by have := h a ha; omega))⟩⟩, hK3_2⟩

theorem of_fn (gr p : Nat) (A : Option Addr) (c : Nat) (l : List Str) (w : World) (hR : Rdr 66 w gr p) (hA : Rd w A (l.map S)) (hp : p ≤ 1000000099990) (hl : 0 < l.length) (hm : l.length ≤ 1000) (hN : Ng A gr) :
    Does Try.prog 61 [.pointer (ofs (bl gr) (0)), .slice (A) (l.length) (c)] w (fun v w1 => (∃ s : Str, v = S s ∧ s ∈ l) ∧ Rdr 66 w1 gr (p + 1) ∧ w.grownBy w1 (some gr)) := by
  refine Does.enter1 Try.func61 rfl Try.results61 Try.ntmps61 rfl ?_
  refine C.seq ?_
  refine C.region ?_
  refine O.val rfl (Ru.assign rfl) rfl ?_
  refine O.nil ?_
  refine C.seq ?_
  refine C.region ?_
  refine O.val rfl (Ru.move rfl) rfl ?_
  refine O.val rfl (Ru.move rfl) rfl ?_
  refine O.val rfl (Ru.move rfl) rfl ?_
  refine O.val rfl (Ru.blenSlice Try.underlying24 rfl) rfl ?_
  refine O.callg [.pointer (ofs (bl gr) (0)), I (((l.length : Nat) : Int))] rfl en55 rfl rfl (pick_fn gr (p) (((l.length : Nat) : Int)) w hR (by omega)) ?_
  rintro _ w1_4 ⟨⟨k1_4, rfl, hk1_4⟩, hR1_4, hE1_4⟩
  have hK1_4 := ksame (krefl w (some gr)) hE1_4
  replace hA := hA.kp hE1_4 (ng_ne hN)
  have hk1 : k1_4.toNat < l.length := by omega
  refine O.val rfl (Ru.indexA (j := k1_4.toNat) Try.underlying24 el9 rfl rfl (smm hA hk1) (by omega) (by omega)) rfl ?_
  refine O.val rfl (Ru.load1 el9 rfl (ldm hA hk1)) rfl ?_
  refine O.val rfl (Ru.assign rfl) rfl ?_
  refine O.nil ?_
  refine C.ret ?_
  refine P1 (v := S ((l)[k1_4.toNat]'hk1)) rfl ?_
  exact ⟨⟨_, rfl, List.getElem_mem hk1⟩, hR1_4, hK1_4⟩

theorem one_fn (gr p : Nat) (A : Option Addr) (c : Nat) (l : List Int) (w : World) (hR : Rdr 66 w gr p) (hA : Rd w A (l.map I)) (hp : p ≤ 1000000099990) (hl : 0 < l.length) (hm : l.length ≤ 1000) (hN : Ng A gr) :
    Does Try.prog 60 [.pointer (ofs (bl gr) (0)), .slice (A) (l.length) (c)] w (fun v w1 => (∃ k : Int, v = I k ∧ k ∈ l) ∧ Rdr 66 w1 gr (p + 1) ∧ w.grownBy w1 (some gr)) := by
  refine Does.enter1 Try.func60 rfl Try.results60 Try.ntmps60 rfl ?_
  refine C.seq ?_
  refine C.region ?_
  refine O.val rfl (Ru.assign rfl) rfl ?_
  refine O.nil ?_
  refine C.seq ?_
  refine C.region ?_
  refine O.val rfl (Ru.move rfl) rfl ?_
  refine O.val rfl (Ru.move rfl) rfl ?_
  refine O.val rfl (Ru.move rfl) rfl ?_
  refine O.val rfl (Ru.blenSlice Try.underlying59 rfl) rfl ?_
  refine O.callg [.pointer (ofs (bl gr) (0)), I (((l.length : Nat) : Int))] rfl en55 rfl rfl (pick_fn gr (p) (((l.length : Nat) : Int)) w hR (by omega)) ?_
  rintro _ w1_4 ⟨⟨k1_4, rfl, hk1_4⟩, hR1_4, hE1_4⟩
  have hK1_4 := ksame (krefl w (some gr)) hE1_4
  replace hA := hA.kp hE1_4 (ng_ne hN)
  have hk1 : k1_4.toNat < l.length := by omega
  refine O.val rfl (Ru.indexA (j := k1_4.toNat) Try.underlying59 el3 rfl rfl (smm hA hk1) (by omega) (by omega)) rfl ?_
  refine O.val rfl (Ru.load1 el3 rfl (ldm hA hk1)) rfl ?_
  refine O.val rfl (Ru.assign rfl) rfl ?_
  refine O.nil ?_
  refine C.ret ?_
  refine P1 (v := I ((l)[k1_4.toNat]'hk1)) rfl ?_
  exact ⟨⟨_, rfl, List.getElem_mem hk1⟩, hR1_4, hK1_4⟩

theorem someWord_fn (gr p : Nat) (w : World) (hR : Rdr 66 w gr p) (hp : p ≤ 1000000099980) :
    Does Try.prog 54 [.pointer (ofs (bl gr) (0))] w (fun v w1 => (∃ s : Str, v = S s ∧ s.length ≤ 8) ∧ Rdr 66 w1 gr (p + 2) ∧ w.grownBy w1 (some gr)) := by
  have hr0 := hR.lt
  refine Does.enter1 Try.func54 rfl Try.results54 Try.ntmps54 rfl ?_
  refine C.seq ?_
  refine C.region ?_
  refine O.val rfl (Ru.assign rfl) rfl ?_
  refine O.nil ?_
  refine C.seq ?_
  refine C.region ?_
  refine O.val rfl (Ru.move rfl) rfl ?_
  refine O.lit (cs := [S ([]), S ([97]), S ([97, 98]), S ([97, 98, 99]), S ([98])]) rfl Try.underlying24 el9 rfl rfl rfl (by kernel_rfl) (fun w1_1 b1_1 hb1_1 hE1_1 hB1_1 => ?_)
  have hs1_1 := (krefl w (some gr)).size
  have hK1_1 := kext (krefl w (some gr)) hE1_1
  replace hR := hR.ext hE1_1
  refine O.callg [.pointer (ofs (bl gr) (0)), .slice (bl b1_1) (5) (5)] rfl en61 rfl rfl (of_fn gr (p) (bl b1_1) (5) ([[], [97], [97, 98], [97, 98, 99], [98]]) w1_1 hR hB1_1.rd (by omega) (by simp) (by simp) (ng_bl (by omega))) ?_
  rintro _ w1_2 ⟨⟨s1_2, rfl, hs1_2⟩, hR1_2, hE1_2⟩
  have hK1_2 := ksame hK1_1 hE1_2
  have hln1_2 : s1_2.length ≤ 4 := (by decide : ∀ s ∈ ([[], [97], [97, 98], [97, 98, 99], [98]] : List Str), s.length ≤ 4) _ hs1_2
  refine O.val rfl (Ru.move rfl) rfl ?_
  refine O.lit (cs := [S ([97]), S ([98]), S ([98, 97]), S ([99]), S ([97, 98, 99, 100]), S ([122, 122]), S ([]), S ([65])]) rfl Try.underlying24 el9 rfl rfl rfl (by kernel_rfl) (fun w1_4 b1_4 hb1_4 hE1_4 hB1_4 => ?_)
  have hs1_4 := hK1_2.size
  have hK1_4 := kext hK1_2 hE1_4
  replace hR1_2 := hR1_2.ext hE1_4
  refine O.callg [.pointer (ofs (bl gr) (0)), .slice (bl b1_4) (8) (8)] rfl en61 rfl rfl (of_fn gr (p + 1) (bl b1_4) (8) ([[97], [98], [98, 97], [99], [97, 98, 99, 100], [122, 122], [], [65]]) w1_4 hR1_2 hB1_4.rd (by omega) (by simp) (by simp) (ng_bl (by omega))) ?_
  rintro _ w1_5 ⟨⟨s1_5, rfl, hs1_5⟩, hR1_5, hE1_5⟩
  have hK1_5 := ksame hK1_4 hE1_5
  have hln1_5 : s1_5.length ≤ 4 := (by decide : ∀ s ∈ ([[97], [98], [98, 97], [99], [97, 98, 99, 100], [122, 122], [], [65]] : List Str), s.length ≤ 4) _ hs1_5
  refine O.val rfl (Ru.sadd rfl rfl (by omega)) rfl ?_
  refine O.val rfl (Ru.assign rfl) rfl ?_
  refine O.nil ?_
  refine C.ret ?_
  refine P1 (v := S ((s1_2 ++ s1_5))) rfl ?_
  exact ⟨⟨_, rfl, by simp; omega⟩, hR1_5, hK1_5⟩

theorem DrawSeparator_fn (A : Option Addr) (c : Nat) (l : List UInt8) (w : World) (hA : Rd w A (l.map byteV)) (hl : l.length ≤ 1048576) (hc : l.length ≤ c) :
    Does Try.prog 27 [.slice (A) (l.length) (c)] w (fun v w1 => (∃ a b : Str, v = .tuple #[S a, S b] ∧ a.length ≤ 8 ∧ b.length ≤ 8) ∧ w.grownBy w1 none) := by
  refine Does.enter2 Try.func27 rfl Try.results27 Try.ntmps27 rfl ?_
  refine C.seq ?_
  refine C.region ?_
  refine O.val rfl (Ru.assign rfl) rfl ?_
  refine O.val rfl (Ru.assign rfl) rfl ?_
  refine O.nil ?_
  refine C.seq ?_
  refine C.region ?_
  refine O.val rfl (Ru.move rfl) rfl ?_
  refine O.callg [.slice (A) (l.length) (c)] rfl en53 rfl rfl (newReader_fn (A) (c) (l) w (hA.ext (krefl w none)) hl hc) ?_
  rintro _ w1_1 ⟨⟨gr, rfl, hgr, hR1_1⟩, hE1_1⟩
  have hlt1_1 := hR1_1.lt
  have hK1_1 := kext (krefl w none) hE1_1
  refine O.val rfl (Ru.assign rfl) rfl ?_
  refine O.nil ?_
  refine C.seq ?_
  refine C.region ?_
  refine O.val rfl (Ru.move rfl) rfl ?_
  refine O.callg [.pointer (ofs (bl gr) (0))] rfl en54 rfl rfl (someWord_fn gr (0) w1_1 hR1_1 (by omega)) ?_
  rintro _ w2_1 ⟨⟨s2_1, rfl, hs2_1⟩, hR2_1, hE2_1⟩
  have hK2_1 := kown hK1_1 hE2_1 (by omega)
  refine O.val rfl (Ru.assign rfl) rfl ?_
  refine O.nil ?_
  refine C.seq ?_
  refine C.region ?_
  refine O.val rfl (Ru.move rfl) rfl ?_
  refine O.callg [.pointer (ofs (bl gr) (0))] rfl en54 rfl rfl (someWord_fn gr (0 + 2) w2_1 hR2_1 (by omega)) ?_
  rintro _ w3_1 ⟨⟨s3_1, rfl, hs3_1⟩, hR3_1, hE3_1⟩
  have hK3_1 := kown hK2_1 hE3_1 (by omega)
  refine O.val rfl (Ru.assign rfl) rfl ?_
  refine O.nil ?_
  refine C.seq ?_
  refine C.seq ?_
  refine C.region ?_
  refine O.val rfl (Ru.move rfl) rfl ?_
  refine O.val rfl (Ru.move rfl) rfl ?_
  refine O.val rfl (Ru.sgtr rfl rfl) rfl ?_
  refine O.val rfl (Ru.move rfl) rfl ?_
  refine O.part 16 ((!(blt (s2_1) (s3_1)) && !decide (s2_1 = s3_1))) rfl (fun g16 => ?_) (fun g16 => ?_)
  · refine O.val rfl (Ru.move rfl) rfl ?_
    refine O.callg [.pointer (ofs (bl gr) (0)), I (4)] rfl en55 rfl rfl (pick_fn gr (0 + 2 + 2) (4) w3_1 hR3_1 (by omega)) ?_
    rintro _ w4_5 ⟨⟨k4_5, rfl, hk4_5⟩, hR4_5, hE4_5⟩
    have hK4_5 := kown hK3_1 hE4_5 (by omega)
    refine O.val rfl (Ru.gtr rfl rfl) rfl ?_
    refine O.val rfl (Ru.pickT rfl rfl) rfl ?_
    refine O.nil ?_
    refine C.cond (p := k4_5 > 0) rfl (fun c20 => ?_) (fun c20 => ?_)
    · refine C.seq ?_
      refine C.region ?_
      refine O.val rfl (Ru.move rfl) rfl ?_
      refine O.val rfl (Ru.move rfl) rfl ?_
      refine O.val rfl (Ru.assign rfl) rfl ?_
      refine O.val rfl (Ru.assign rfl) rfl ?_
      refine O.nil ?_
      refine C.ret ?_
      refine P2 (v := S (s3_1)) (v' := S (s2_1)) rfl rfl ?_
      exact ⟨⟨_, _, rfl, by omega, by omega⟩, hK4_5⟩
    · refine C.skip ?_
      refine C.seq ?_
      refine C.region ?_
      refine O.val rfl (Ru.move rfl) rfl ?_
      refine O.val rfl (Ru.move rfl) rfl ?_
      refine O.val rfl (Ru.assign rfl) rfl ?_
      refine O.val rfl (Ru.assign rfl) rfl ?_
      refine O.nil ?_
      refine C.ret ?_
      refine P2 (v := S (s2_1)) (v' := S (s3_1)) rfl rfl ?_
      exact ⟨⟨_, _, rfl, by omega, by omega⟩, hK4_5⟩
  · refine O.pass rfl rfl rfl rfl rfl ?_
    refine O.pass rfl rfl rfl rfl rfl ?_
    refine O.pass rfl rfl rfl rfl rfl ?_
    refine O.val rfl (Ru.pickF rfl rfl) rfl ?_
    refine O.nil ?_
    refine C.condF rfl ?_
    refine C.skip ?_
    refine C.seq ?_
    refine C.region ?_
    refine O.val rfl (Ru.move rfl) rfl ?_
    refine O.val rfl (Ru.move rfl) rfl ?_
    refine O.val rfl (Ru.assign rfl) rfl ?_
    refine O.val rfl (Ru.assign rfl) rfl ?_
    refine O.nil ?_
    refine C.ret ?_
    refine P2 (v := S (s2_1)) (v' := S (s3_1)) rfl rfl ?_
    exact ⟨⟨_, _, rfl, by omega, by omega⟩, hK3_1⟩
end Go.Proofs.Ytekfncmhinbghaa
