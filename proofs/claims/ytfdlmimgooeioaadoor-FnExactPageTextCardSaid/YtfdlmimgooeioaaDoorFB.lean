/- Own layer: part of this seat (FB). Plain theorems; no conditions. -/
import Derived.Test.YtfdlmimgooeioaaDoorFA
set_option linter.unusedVariables false
set_option linter.unusedSimpArgs false
namespace Go.Proofs.YtfdlmimgooeioaaDoor
open Go.Px
theorem heightOf_fn (T : TreeL) (w : World) (hNT : TrN w T) (hs : SzT T) :
    Does Tryd.prog 88 [.agg #[I ((T).root), .slice ((T).A) ((T).l.length) ((T).cp)]] w (fun v w1 => v = I (((heightT (T).t : Nat) : Int)) ∧ Mem w w1 [] []) := by
  have hM : Mem w w [] [] := Mem.refl
  refine Does.enter1 Tryd.func88 rfl Tryd.results88 Tryd.ntmps88 rfl ?_
  refine C.seq ?_
  have hs1 := hs.1
  refine C.region ?_
  refine O.mbox (k := 2) (vs := [I ((T).root), .slice ((T).A) ((T).l.length) ((T).cp)]) hM rfl rfl rfl rfl rfl (fun w0_0 b0_0 hb0_0 (hM0_0 : Mem w w0_0 [] [[⟨.slice (bl b0_0) 1 1, 39, 2, 1, [I ((T).root), .slice ((T).A) ((T).l.length) ((T).cp)]⟩]]) => ?_)
  refine O.val (v := I (0)) rfl (Ru.assign rfl) rfl ?_
  refine O.nil ?_
  refine C.seq ?_
  refine C.region ?_
  refine O.val (v := I (1)) rfl (Ru.assign rfl) rfl ?_
  refine O.nil ?_
  refine C.seq ?_
  refine C.region ?_
  refine O.val (v := .pointer (ofs (bl b0_0) (0))) rfl (Ru.fieldA fl39_0 rfl rfl) rfl ?_
  refine O.val rfl (Ru.load1 el3 rfl ((hM0_0.rd 0 rfl).ld rfl)) rfl ?_
  refine O.val (v := I ((T).root)) rfl (Ru.assign rfl) rfl ?_
  refine O.nil ?_
  refine C.seq ?_
  refine C.block ?_
  refine C.loop (ι := Nat × Int) (fun x_ => ([(1, .pointer (ofs (bl b0_0) (0))), (3, I (((x_.1 : Nat) : Int))), (4, I (x_.2))] : List (Nat × Value))) (fun x_ w_ => (1 ≤ x_.1 ∧ x_.1 ≤ 4) ∧ (heightT (T).t = x_.1 + hgt (T).t (4 - x_.1) x_.2) ∧ (Mem w w_ [] [[⟨.slice (bl b0_0) 1 1, 39, 2, 1, [I ((T).root), .slice ((T).A) ((T).l.length) ((T).cp)]⟩]])) (fun x_ => 4 - x_.1) (1, (T).root) (Has.cons rfl (Has.cons (I_congr (by first | rfl | omega | (simp; omega) | simp)) (Has.cons rfl Has.nil))) ⟨(by (try dsimp only); omega), rfl, (hM0_0.pick [0] (by decide) rfl)⟩ (fun ⟨n, a⟩ σ w_l3 hI => ?_)
  try dsimp only at hI
  obtain ⟨hi0_l3, hi1_l3, hM_l3⟩ := hI
  refine C.seq ?_
  refine C.seq ?_
  refine C.region ?_
  refine O.val (v := I (((n : Nat) : Int))) rfl (Ru.move rfl) rfl ?_
  refine O.val (v := .bool (decide (((n : Nat) : Int) ≤ 3))) rfl (Ru.leq rfl rfl) rfl ?_
  refine O.val (v := .bool (decide (((n : Nat) : Int) ≤ 3))) rfl (Ru.move rfl) rfl ?_
  refine O.partp 9 (((n : Nat) : Int) ≤ 3) rfl (fun g9 => ?_) (fun g9 => ?_)
  · refine O.val (v := I (a)) rfl (Ru.move rfl) rfl ?_
    refine O.val (v := .pointer (ofs (bl b0_0) (1))) rfl (Ru.fieldA fl39_1 rfl rfl) rfl ?_
    refine O.val rfl (Ru.load1 el37 rfl ((hM_l3.rd 0 rfl).ld rfl)) rfl ?_
    refine O.val (v := I ((((T).l.length : Nat) : Int))) rfl (Ru.blenSlice Tryd.underlying37 rfl) rfl ?_
    refine O.val (v := I (((((T).l.length : Nat) : Int) - 1))) rfl (Ru.sub rfl rfl (by omega)) rfl ?_
    refine O.callg [I (a), I (0), I (((((T).l.length : Nat) : Int) - 1))] rfl en54 rfl rfl (inRange_fn a 0 ((((T).l.length : Nat) : Int) - 1) w_l3 ) ?_
    rintro _ w3_8 ⟨rfl, hR3_8⟩
    have hM3_8 : Mem w w3_8 [] [[⟨.slice (bl b0_0) 1 1, 39, 2, 1, [I ((T).root), .slice ((T).A) ((T).l.length) ((T).cp)]⟩]] := Mem.call (Ma := []) hM_l3 hR3_8 rfl
    refine O.val (v := .bool (decide (0 ≤ a) && decide (a ≤ ((((T).l.length : Nat) : Int) - 1)))) rfl (Ru.pickT rfl rfl) rfl ?_
    refine O.val (v := .bool (decide (0 ≤ a) && decide (a ≤ ((((T).l.length : Nat) : Int) - 1)))) rfl (Ru.move rfl) rfl ?_
    refine O.part 17 (decide (0 ≤ a) && decide (a ≤ ((((T).l.length : Nat) : Int) - 1))) rfl (fun g17 => ?_) (fun g17 => ?_)
    · have hin : inT (T).t a = true := inT_t.2 (by simp only [Bool.and_eq_true, decide_eq_true_eq] at g17; omega)
      refine O.val (v := .pointer (ofs (bl b0_0) (1))) rfl (Ru.fieldA fl39_1 rfl rfl) rfl ?_
      refine O.val rfl (Ru.load1 el37 rfl ((hM3_8.rd 0 rfl).ld rfl)) rfl ?_
      refine O.val (v := I (a)) rfl (Ru.move rfl) rfl ?_
      have hx3_14 : (a).toNat < ((T).l).length := (by have := inT_t.1 hin; omega)
      refine O.val (v := .pointer (ofs ((T).A) (((a).toNat) * 3))) rfl (Ru.indexA (j := (a).toNat) Tryd.underlying37 el58 rfl rfl (smf encPg_len (hNT.at hM3_8).1 hx3_14 rfl) (by omega) (by have := inT_t.1 hin; omega)) rfl ?_
      have hki : (gP (T).t a).kids = (((T).l[(a).toNat]'hx3_14)).c.l := by rw [gP_at rfl hx3_14]; rfl
      refine O.val (v := .pointer (ofs ((T).A) (((a).toNat) * 3 + 1))) rfl (Ru.fieldA fl58_1 rfl (smf encPg_len (hNT.at hM3_8).1 hx3_14 rfl)) rfl ?_
      refine O.val rfl (Ru.load1 el51 rfl (ldf encPg_len (hNT.at hM3_8).1 hx3_14 rfl)) rfl ?_
      refine O.val (v := I ((((((T).l)[(a).toNat]'hx3_14).c.l.length : Nat) : Int))) rfl (Ru.blenSlice Tryd.underlying51 rfl) rfl ?_
      refine O.val (v := .bool (decide ((((((T).l)[(a).toNat]'hx3_14).c.l.length : Nat) : Int) > 0))) rfl (Ru.gtr rfl rfl) rfl ?_
      refine O.val (v := .bool (decide ((((((T).l)[(a).toNat]'hx3_14).c.l.length : Nat) : Int) > 0))) rfl (Ru.pickT rfl rfl) rfl ?_
      refine O.nil ?_
      refine C.cond (p := (((((T).l)[(a).toNat]'hx3_14).c.l.length : Nat) : Int) > 0) rfl (fun c26 => ?_) (fun c26 => ?_)
      · refine C.skip ?_
        refine C.block ?_
        refine C.seq ?_
        refine C.region ?_
        refine O.val (v := .pointer (ofs (bl b0_0) (1))) rfl (Ru.fieldA fl39_1 rfl rfl) rfl ?_
        refine O.val rfl (Ru.load1 el37 rfl ((hM3_8.rd 0 rfl).ld rfl)) rfl ?_
        refine O.val (v := I (a)) rfl (Ru.move rfl) rfl ?_
        have hx4_3 : (a).toNat < ((T).l).length := (by have := inT_t.1 hin; omega)
        refine O.val (v := .pointer (ofs ((T).A) (((a).toNat) * 3))) rfl (Ru.indexA (j := (a).toNat) Tryd.underlying37 el58 rfl rfl (smf encPg_len (hNT.at hM3_8).1 hx4_3 rfl) (by omega) (by have := inT_t.1 hin; omega)) rfl ?_
        refine O.val (v := .pointer (ofs ((T).A) (((a).toNat) * 3 + 1))) rfl (Ru.fieldA fl58_1 rfl (smf encPg_len (hNT.at hM3_8).1 hx4_3 rfl)) rfl ?_
        refine O.val rfl (Ru.load1 el51 rfl (ldf encPg_len (hNT.at hM3_8).1 hx4_3 rfl)) rfl ?_
        have hx4_6 : 0 < ((((T).l)[(a).toNat]'hx4_3).c.l).length := (by omega)
        refine O.val (v := .pointer (ofs ((((T).l)[(a).toNat]'hx4_3).c.A) (0 * 1))) rfl (Ru.indexA (j := 0) Tryd.underlying51 el3 rfl rfl (smm (((hNT.at hM3_8)).2.get hx4_3).2.1 hx4_6) (by omega) (by first | omega | (simp; omega))) rfl ?_
        refine O.val rfl (Ru.load1 el3 rfl (ldm (((hNT.at hM3_8)).2.get hx4_3).2.1 hx4_6)) rfl ?_
        refine O.val (v := I (((((T).l)[(a).toNat]'hx4_3).c.l)[0]'hx4_6)) rfl (Ru.assign rfl) rfl ?_
        refine O.nil ?_
        have hgo := hgt_go (T := (T).t) (f := 4 - n - 1) hin (by rw [hki]; intro e9; rw [e9] at hx4_6; simp at hx4_6)
        rw [show 4 - n - 1 + 1 = 4 - n by omega, hki, getD_in hx4_6] at hgo
        refine C.region ?_
        refine O.val (v := I (((n : Nat) : Int))) rfl (Ru.move rfl) rfl ?_
        refine O.val (v := I ((((n + 1) : Nat) : Int))) rfl (Ru.congr (v := I ((((n : Nat) : Int) + 1))) (v' := I ((((n + 1) : Nat) : Int))) (Ru.add rfl rfl (by omega)) (I_congr (by first | omega | simp))) rfl ?_
        refine O.val (v := I ((((n + 1) : Nat) : Int))) rfl (Ru.assign rfl) rfl ?_
        refine O.nil ?_
        exact loopEnd (n + 1, ((((T).l)[(a).toNat]'hx4_3).c.l)[0]'hx4_6) (by (try dsimp only); omega) (Has.cons rfl (Has.cons (I_congr (by first | rfl | omega | (simp; omega) | simp)) (Has.cons rfl Has.nil))) ⟨(by (try dsimp only); omega), (by (try dsimp only); rw [hgo] at hi1_l3; rw [hi1_l3, show 4 - (n + 1) = 4 - n - 1 by omega]; omega), (hM3_8.pick [0] (by decide) rfl)⟩
      · refine C.exit ?_
        refine C.seq ?_
        refine C.region ?_
        refine O.val (v := I (((n : Nat) : Int))) rfl (Ru.move rfl) rfl ?_
        refine O.val (v := I (((n : Nat) : Int))) rfl (Ru.assign rfl) rfl ?_
        refine O.nil ?_
        refine C.ret ?_
        refine P1 (v := I (((n : Nat) : Int))) rfl ?_
        have hz : hgt (T).t (4 - n) a = 0 := by first | (rw [show 4 - n = 0 by omega]; rfl) | exact hgt_stop (.inr (by rw [hki]; exact List.eq_nil_of_length_eq_zero (by omega))) | (refine hgt_stop (.inl ?_); cases h9 : inT (T).t a with | false => rfl | true => (have := inT_t.1 h9; exfalso; simp at g17; omega))
        exact ⟨(I_congr (by rw [hi1_l3, hz]; simp)), (Mem.none hM3_8)⟩
    · refine O.pass rfl rfl rfl rfl rfl ?_
      refine O.pass rfl rfl rfl rfl rfl ?_
      refine O.pass rfl rfl rfl rfl rfl ?_
      refine O.pass rfl rfl rfl rfl rfl ?_
      refine O.pass rfl rfl rfl rfl rfl ?_
      refine O.pass rfl rfl rfl rfl rfl ?_
      refine O.pass rfl rfl rfl rfl rfl ?_
      refine O.pass rfl rfl rfl rfl rfl ?_
      refine O.val (v := .bool (false)) rfl (Ru.pickF rfl rfl) rfl ?_
      refine O.nil ?_
      refine C.condF rfl ?_
      refine C.exit ?_
      refine C.seq ?_
      refine C.region ?_
      refine O.val (v := I (((n : Nat) : Int))) rfl (Ru.move rfl) rfl ?_
      refine O.val (v := I (((n : Nat) : Int))) rfl (Ru.assign rfl) rfl ?_
      refine O.nil ?_
      refine C.ret ?_
      refine P1 (v := I (((n : Nat) : Int))) rfl ?_
      have hz : hgt (T).t (4 - n) a = 0 := by first | (rw [show 4 - n = 0 by omega]; rfl) | exact hgt_stop (.inr (by rw [hki]; exact List.eq_nil_of_length_eq_zero (by omega))) | (refine hgt_stop (.inl ?_); cases h9 : inT (T).t a with | false => rfl | true => (have := inT_t.1 h9; exfalso; simp at g17; omega))
      exact ⟨(I_congr (by rw [hi1_l3, hz]; simp)), (Mem.none hM3_8)⟩
  · refine O.pass rfl rfl rfl rfl rfl ?_
    refine O.pass rfl rfl rfl rfl rfl ?_
    refine O.pass rfl rfl rfl rfl rfl ?_
    refine O.pass rfl rfl rfl rfl rfl ?_
    refine O.pass rfl rfl rfl rfl rfl ?_
    refine O.pass rfl rfl rfl rfl rfl ?_
    refine O.val (v := .bool (false)) rfl (Ru.pickF rfl rfl) rfl ?_
    refine O.val (v := .bool (false)) rfl (Ru.move rfl) rfl ?_
    refine O.pass rfl rfl rfl rfl rfl ?_
    refine O.pass rfl rfl rfl rfl rfl ?_
    refine O.pass rfl rfl rfl rfl rfl ?_
    refine O.pass rfl rfl rfl rfl rfl ?_
    refine O.pass rfl rfl rfl rfl rfl ?_
    refine O.pass rfl rfl rfl rfl rfl ?_
    refine O.pass rfl rfl rfl rfl rfl ?_
    refine O.pass rfl rfl rfl rfl rfl ?_
    refine O.val (v := .bool (false)) rfl (Ru.pickF rfl rfl) rfl ?_
    refine O.nil ?_
    refine C.condF rfl ?_
    refine C.exit ?_
    refine C.seq ?_
    refine C.region ?_
    refine O.val (v := I (((n : Nat) : Int))) rfl (Ru.move rfl) rfl ?_
    refine O.val (v := I (((n : Nat) : Int))) rfl (Ru.assign rfl) rfl ?_
    refine O.nil ?_
    refine C.ret ?_
    refine P1 (v := I (((n : Nat) : Int))) rfl ?_
    have hz : hgt (T).t (4 - n) a = 0 := by first | (rw [show 4 - n = 0 by omega]; rfl) | exact hgt_stop (.inr (by rw [hki]; exact List.eq_nil_of_length_eq_zero (by omega))) | (refine hgt_stop (.inl ?_); cases h9 : inT (T).t a with | false => rfl | true => (have := inT_t.1 h9; exfalso; simp at g17; omega))
    exact ⟨(I_congr (by rw [hi1_l3, hz]; simp)), (Mem.none hM_l3)⟩

theorem pageFits0_fn : ∀ (T : TreeL) (at0 : Int) (low : Int) (hi : Int) (dp : Int) (w : World) (hNT : TrN w T) (hs : SzT T) (hat : 0 ≤ at0 ∧ at0 < ((T).l.length : Int)) (hd : dp = (0 : Int)) (h1 : 1 ≤ 0) (h3 : 0 ≤ 3), Does Tryd.prog 89 [.agg #[I ((T).root), .slice ((T).A) ((T).l.length) ((T).cp)], I (at0), I (low), I (hi), I (dp)] w (fun v w1 => v = .bool (fitS (T).t 0 at0 low hi) ∧ Mem w w1 [] []) := by
  intro T at0 low hi dp w hNT hs hat hd h1 h3; exact absurd h1 (by omega)

set_option maxHeartbeats 4000000 in
theorem pageFitsS_fn (n : Nat) (ih_fn : ∀ (T : TreeL) (at0 : Int) (low : Int) (hi : Int) (dp : Int) (w : World) (hNT : TrN w T) (hs : SzT T) (hat : 0 ≤ at0 ∧ at0 < ((T).l.length : Int)) (hd : dp = (n : Int)) (h1 : 1 ≤ n) (h3 : n ≤ 3), Does Tryd.prog 89 [.agg #[I ((T).root), .slice ((T).A) ((T).l.length) ((T).cp)], I (at0), I (low), I (hi), I (dp)] w (fun v w1 => v = .bool (fitS (T).t n at0 low hi) ∧ Mem w w1 [] [])) (T : TreeL) (at0 : Int) (low : Int) (hi : Int) (dp : Int) (w : World) (hNT : TrN w T) (hs : SzT T) (hat : 0 ≤ at0 ∧ at0 < ((T).l.length : Int)) (hd : dp = ((n + 1) : Int)) (h1 : 1 ≤ (n + 1)) (h3 : (n + 1) ≤ 3) :
    Does Tryd.prog 89 [.agg #[I ((T).root), .slice ((T).A) ((T).l.length) ((T).cp)], I (at0), I (low), I (hi), I (dp)] w (fun v w1 => v = .bool (fitS (T).t (n + 1) at0 low hi) ∧ Mem w w1 [] []) := by
  have hM : Mem w w [] [] := Mem.refl
  refine Does.enter1 Tryd.func89 rfl Tryd.results89 Tryd.ntmps89 rfl ?_
  refine C.seq ?_
  have hs1 := hs.1
  refine C.region ?_
  refine O.mbox (k := 2) (vs := [I ((T).root), .slice ((T).A) ((T).l.length) ((T).cp)]) hM rfl rfl rfl rfl rfl (fun w0_0 b0_0 hb0_0 (hM0_0 : Mem w w0_0 [] [[⟨.slice (bl b0_0) 1 1, 39, 2, 1, [I ((T).root), .slice ((T).A) ((T).l.length) ((T).cp)]⟩]]) => ?_)
  refine O.val (v := .bool (false)) rfl (Ru.assign rfl) rfl ?_
  refine O.nil ?_
  refine C.seq ?_
  refine C.region ?_
  refine O.val (v := .pointer (ofs (bl b0_0) (1))) rfl (Ru.fieldA fl39_1 rfl rfl) rfl ?_
  refine O.val rfl (Ru.load1 el37 rfl ((hM0_0.rd 0 rfl).ld rfl)) rfl ?_
  refine O.val (v := I (at0)) rfl (Ru.move rfl) rfl ?_
  have hx1_3 : (at0).toNat < ((T).l).length := (by first | omega | (simp; omega))
  refine O.val (v := .pointer (ofs ((T).A) (((at0).toNat) * 3))) rfl (Ru.indexA (j := (at0).toNat) Tryd.underlying37 el58 rfl rfl (smf encPg_len (hNT.at hM0_0).1 hx1_3 rfl) (by omega) (by first | omega | (simp; omega))) rfl ?_
  refine O.val rfl (Ru.loadN (vs := [.slice ((((T).l)[(at0).toNat]'hx1_3).k.A) ((((T).l)[(at0).toNat]'hx1_3).k.l.length) ((((T).l)[(at0).toNat]'hx1_3).k.cp), .slice ((((T).l)[(at0).toNat]'hx1_3).c.A) ((((T).l)[(at0).toNat]'hx1_3).c.l.length) ((((T).l)[(at0).toNat]'hx1_3).c.cp), .slice ((((T).l)[(at0).toNat]'hx1_3).v.A) ((((T).l)[(at0).toNat]'hx1_3).v.l.length) ((((T).l)[(at0).toNat]'hx1_3).v.cp)]) el58 rfl rfl (smf encPg_len (hNT.at hM0_0).1 hx1_3 rfl) (ldn encPg_len (hNT.at hM0_0).1 hx1_3)) rfl ?_
  have hgp : gP (T).t at0 = (((T).l[(at0).toNat]'hx1_3)).t := gP_at rfl hx1_3
  have hsz := hs.at hx1_3
  have hfl := fit_L (T := (T).t) (d := n) (i := at0) (low := low) (hi := hi)
  rw [hgp] at hfl
  refine O.malloc (k := 3) hM0_0 rfl rfl el58 rfl (fun w1_5 b1_5 hb1_5 (hM1_5 : Mem w w1_5 [] [[⟨.slice (bl b1_5) 1 1, 58, 3, 1, [.slice (none) (0) (0), .slice (none) (0) (0), .slice (none) (0) (0)]⟩], [⟨.slice (bl b0_0) 1 1, 39, 2, 1, [I ((T).root), .slice ((T).A) ((T).l.length) ((T).cp)]⟩]]) => ?_)
  refine O.mstore (vs := [.slice ((((T).l)[(at0).toNat]'hx1_3).k.A) ((((T).l)[(at0).toNat]'hx1_3).k.l.length) ((((T).l)[(at0).toNat]'hx1_3).k.cp), .slice ((((T).l)[(at0).toNat]'hx1_3).c.A) ((((T).l)[(at0).toNat]'hx1_3).c.l.length) ((((T).l)[(at0).toNat]'hx1_3).c.cp), .slice ((((T).l)[(at0).toNat]'hx1_3).v.A) ((((T).l)[(at0).toNat]'hx1_3).v.l.length) ((((T).l)[(at0).toNat]'hx1_3).v.cp)]) (xs' := [.slice ((((T).l)[(at0).toNat]'hx1_3).k.A) ((((T).l)[(at0).toNat]'hx1_3).k.l.length) ((((T).l)[(at0).toNat]'hx1_3).k.cp), .slice ((((T).l)[(at0).toNat]'hx1_3).c.A) ((((T).l)[(at0).toNat]'hx1_3).c.l.length) ((((T).l)[(at0).toNat]'hx1_3).c.cp), .slice ((((T).l)[(at0).toNat]'hx1_3).v.A) ((((T).l)[(at0).toNat]'hx1_3).v.l.length) ((((T).l)[(at0).toNat]'hx1_3).v.cp)]) 0 0 hM1_5 rfl rfl rfl el58 rfl rfl rfl rfl rfl (by simp) (by simp) rfl rfl (fun w1_6 (hM1_6 : Mem w w1_6 [] [[⟨.slice (bl b1_5) 1 1, 58, 3, 1, [.slice ((((T).l)[(at0).toNat]'hx1_3).k.A) ((((T).l)[(at0).toNat]'hx1_3).k.l.length) ((((T).l)[(at0).toNat]'hx1_3).k.cp), .slice ((((T).l)[(at0).toNat]'hx1_3).c.A) ((((T).l)[(at0).toNat]'hx1_3).c.l.length) ((((T).l)[(at0).toNat]'hx1_3).c.cp), .slice ((((T).l)[(at0).toNat]'hx1_3).v.A) ((((T).l)[(at0).toNat]'hx1_3).v.l.length) ((((T).l)[(at0).toNat]'hx1_3).v.cp)]⟩], [⟨.slice (bl b0_0) 1 1, 39, 2, 1, [I ((T).root), .slice ((T).A) ((T).l.length) ((T).cp)]⟩]]) => ?_)
  refine O.nil ?_
  refine C.seq ?_
  refine C.seq ?_
  refine C.region ?_
  refine O.val (v := .pointer (ofs (bl b1_5) (0))) rfl (Ru.fieldA fl58_0 rfl rfl) rfl ?_
  refine O.val rfl (Ru.load1 el51 rfl ((hM1_6.rd 0 rfl).ld rfl)) rfl ?_
  refine O.callg [.slice ((((T).l)[(at0).toNat]'hx1_3).k.A) (((((T).l)[(at0).toNat]'hx1_3).k.l).length) ((((T).l)[(at0).toNat]'hx1_3).k.cp)] rfl en80 (by first | rfl | (rw [show ((((T).l)[(at0).toNat]'hx1_3).k.l).length = (((T).l)[(at0).toNat]'hx1_3).k.l.length from (by first | rfl | (simp; done) | omega | (simp; omega))]; rfl)) rfl (validKeys_fn ((((T).l)[(at0).toNat]'hx1_3).k.A) ((((T).l)[(at0).toNat]'hx1_3).k.cp) ((((T).l)[(at0).toNat]'hx1_3).k.l) w1_6 (((hNT.at hM1_6)).2.get hx1_3).1 (by omega)) ?_
  rintro _ w2_2 ⟨rfl, hR2_2⟩
  have hM2_2 : Mem w w2_2 [] [[⟨.slice (bl b1_5) 1 1, 58, 3, 1, [.slice ((((T).l)[(at0).toNat]'hx1_3).k.A) ((((T).l)[(at0).toNat]'hx1_3).k.l.length) ((((T).l)[(at0).toNat]'hx1_3).k.cp), .slice ((((T).l)[(at0).toNat]'hx1_3).c.A) ((((T).l)[(at0).toNat]'hx1_3).c.l.length) ((((T).l)[(at0).toNat]'hx1_3).c.cp), .slice ((((T).l)[(at0).toNat]'hx1_3).v.A) ((((T).l)[(at0).toNat]'hx1_3).v.l.length) ((((T).l)[(at0).toNat]'hx1_3).v.cp)]⟩], [⟨.slice (bl b0_0) 1 1, 39, 2, 1, [I ((T).root), .slice ((T).A) ((T).l.length) ((T).cp)]⟩]] := Mem.call (Ma := []) hM1_6 hR2_2 rfl
  refine O.val (v := .bool (!(validK ((((T).l)[(at0).toNat]'hx1_3).k.l)))) rfl (Ru.not rfl) rfl ?_
  refine O.val (v := .bool (!(validK ((((T).l)[(at0).toNat]'hx1_3).k.l)))) rfl (Ru.move rfl) rfl ?_
  refine O.part 24 (!(validK ((((T).l)[(at0).toNat]'hx1_3).k.l))) rfl (fun g24 => ?_) (fun g24 => ?_)
  · refine O.pass rfl rfl rfl rfl rfl ?_
    refine O.pass rfl rfl rfl rfl rfl ?_
    refine O.pass rfl rfl rfl rfl rfl ?_
    refine O.pass rfl rfl rfl rfl rfl ?_
    refine O.val (v := .bool (true)) rfl (Ru.pickT rfl rfl) rfl ?_
    refine O.val (v := .bool (true)) rfl (Ru.move rfl) rfl ?_
    refine O.pass rfl rfl rfl rfl rfl ?_
    refine O.pass rfl rfl rfl rfl rfl ?_
    refine O.pass rfl rfl rfl rfl rfl ?_
    refine O.pass rfl rfl rfl rfl rfl ?_
    refine O.pass rfl rfl rfl rfl rfl ?_
    refine O.pass rfl rfl rfl rfl rfl ?_
    refine O.val (v := .bool (true)) rfl (Ru.pickT rfl rfl) rfl ?_
    refine O.val (v := .bool (true)) rfl (Ru.move rfl) rfl ?_
    refine O.pass rfl rfl rfl rfl rfl ?_
    refine O.pass rfl rfl rfl rfl rfl ?_
    refine O.pass rfl rfl rfl rfl rfl ?_
    refine O.pass rfl rfl rfl rfl rfl ?_
    refine O.pass rfl rfl rfl rfl rfl ?_
    refine O.passU rfl rfl rfl rfl ?_
    refine O.passU rfl rfl rfl rfl ?_
    refine O.passU rfl rfl rfl rfl ?_
    refine O.passU rfl rfl rfl rfl ?_
    refine O.pass rfl rfl rfl rfl rfl ?_
    refine O.val (v := .bool (true)) rfl (Ru.pickT rfl rfl) rfl ?_
    refine O.nil ?_
    refine C.condT rfl ?_
    refine C.seq ?_
    refine C.region ?_
    refine O.val (v := .bool (false)) rfl (Ru.assign rfl) rfl ?_
    refine O.nil ?_
    refine C.ret ?_
    refine P1 (v := .bool (false)) rfl ?_
    exact ⟨(by rw [hfl, fit_n1 (show validK (((T).l[(at0).toNat]'hx1_3)).t.keys = false from (show validK ((((T).l[(at0).toNat]'hx1_3)).k.l) = false from (by simpa using g24)))]), (Mem.none hM2_2)⟩
  · refine O.val (v := .pointer (ofs (bl b1_5) (0))) rfl (Ru.fieldA fl58_0 rfl rfl) rfl ?_
    refine O.val rfl (Ru.load1 el51 rfl ((hM2_2.rd 0 rfl).ld rfl)) rfl ?_
    refine O.val (v := I ((((((T).l)[(at0).toNat]'hx1_3).k.l.length : Nat) : Int))) rfl (Ru.blenSlice Tryd.underlying51 rfl) rfl ?_
    refine O.val (v := .bool (decide ((((((T).l)[(at0).toNat]'hx1_3).k.l.length : Nat) : Int) > 4))) rfl (Ru.gtr rfl rfl) rfl ?_
    refine O.val (v := .bool (decide ((((((T).l)[(at0).toNat]'hx1_3).k.l.length : Nat) : Int) > 4))) rfl (Ru.pickF rfl rfl) rfl ?_
    refine O.val (v := .bool (decide ((((((T).l)[(at0).toNat]'hx1_3).k.l.length : Nat) : Int) > 4))) rfl (Ru.move rfl) rfl ?_
    refine O.partp 30 ((((((T).l)[(at0).toNat]'hx1_3).k.l.length : Nat) : Int) > 4) rfl (fun g30 => ?_) (fun g30 => ?_)
    · refine O.pass rfl rfl rfl rfl rfl ?_
      refine O.pass rfl rfl rfl rfl rfl ?_
      refine O.pass rfl rfl rfl rfl rfl ?_
      refine O.pass rfl rfl rfl rfl rfl ?_
      refine O.pass rfl rfl rfl rfl rfl ?_
      refine O.pass rfl rfl rfl rfl rfl ?_
      refine O.val (v := .bool (true)) rfl (Ru.pickT rfl rfl) rfl ?_
      refine O.val (v := .bool (true)) rfl (Ru.move rfl) rfl ?_
      refine O.pass rfl rfl rfl rfl rfl ?_
      refine O.pass rfl rfl rfl rfl rfl ?_
      refine O.pass rfl rfl rfl rfl rfl ?_
      refine O.pass rfl rfl rfl rfl rfl ?_
      refine O.pass rfl rfl rfl rfl rfl ?_
      refine O.passU rfl rfl rfl rfl ?_
      refine O.passU rfl rfl rfl rfl ?_
      refine O.passU rfl rfl rfl rfl ?_
      refine O.passU rfl rfl rfl rfl ?_
      refine O.pass rfl rfl rfl rfl rfl ?_
      refine O.val (v := .bool (true)) rfl (Ru.pickT rfl rfl) rfl ?_
      refine O.nil ?_
      refine C.condT rfl ?_
      refine C.seq ?_
      refine C.region ?_
      refine O.val (v := .bool (false)) rfl (Ru.assign rfl) rfl ?_
      refine O.nil ?_
      refine C.ret ?_
      refine P1 (v := .bool (false)) rfl ?_
      exact ⟨(by rw [hfl, fit_n2 (by show ¬ ((((T).l[(at0).toNat]'hx1_3)).k.l).length ≤ 4; omega)]), (Mem.none hM2_2)⟩
    · refine O.val (v := .pointer (ofs (bl b1_5) (0))) rfl (Ru.fieldA fl58_0 rfl rfl) rfl ?_
      refine O.val rfl (Ru.load1 el51 rfl ((hM2_2.rd 0 rfl).ld rfl)) rfl ?_
      refine O.val (v := I (low)) rfl (Ru.move rfl) rfl ?_
      refine O.val (v := I (hi)) rfl (Ru.move rfl) rfl ?_
      refine O.callg [.slice ((((T).l)[(at0).toNat]'hx1_3).k.A) (((((T).l)[(at0).toNat]'hx1_3).k.l).length) ((((T).l)[(at0).toNat]'hx1_3).k.cp), I (low), I (hi)] rfl en110 (by first | rfl | (rw [show ((((T).l)[(at0).toNat]'hx1_3).k.l).length = (((T).l)[(at0).toNat]'hx1_3).k.l.length from (by first | rfl | (simp; done) | omega | (simp; omega))]; rfl)) rfl (allIn_fn ((((T).l)[(at0).toNat]'hx1_3).k.A) ((((T).l)[(at0).toNat]'hx1_3).k.cp) ((((T).l)[(at0).toNat]'hx1_3).k.l) low hi w2_2 (((hNT.at hM2_2)).2.get hx1_3).1 (by omega)) ?_
      rintro _ w2_15 ⟨rfl, hR2_15⟩
      have hM2_15 : Mem w w2_15 [] [[⟨.slice (bl b1_5) 1 1, 58, 3, 1, [.slice ((((T).l)[(at0).toNat]'hx1_3).k.A) ((((T).l)[(at0).toNat]'hx1_3).k.l.length) ((((T).l)[(at0).toNat]'hx1_3).k.cp), .slice ((((T).l)[(at0).toNat]'hx1_3).c.A) ((((T).l)[(at0).toNat]'hx1_3).c.l.length) ((((T).l)[(at0).toNat]'hx1_3).c.cp), .slice ((((T).l)[(at0).toNat]'hx1_3).v.A) ((((T).l)[(at0).toNat]'hx1_3).v.l.length) ((((T).l)[(at0).toNat]'hx1_3).v.cp)]⟩], [⟨.slice (bl b0_0) 1 1, 39, 2, 1, [I ((T).root), .slice ((T).A) ((T).l.length) ((T).cp)]⟩]] := Mem.call (Ma := []) hM2_2 hR2_15 rfl
      refine O.val (v := .bool (!(((((T).l)[(at0).toNat]'hx1_3).k.l).all (fun a => decide (low ≤ a) && decide (a ≤ hi))))) rfl (Ru.not rfl) rfl ?_
      refine O.val (v := .bool (!(((((T).l)[(at0).toNat]'hx1_3).k.l).all (fun a => decide (low ≤ a) && decide (a ≤ hi))))) rfl (Ru.pickF rfl rfl) rfl ?_
      refine O.val (v := .bool (!(((((T).l)[(at0).toNat]'hx1_3).k.l).all (fun a => decide (low ≤ a) && decide (a ≤ hi))))) rfl (Ru.move rfl) rfl ?_
      refine O.part 38 (!(((((T).l)[(at0).toNat]'hx1_3).k.l).all (fun a => decide (low ≤ a) && decide (a ≤ hi)))) rfl (fun g38 => ?_) (fun g38 => ?_)
      · refine O.pass rfl rfl rfl rfl rfl ?_
        refine O.pass rfl rfl rfl rfl rfl ?_
        refine O.pass rfl rfl rfl rfl rfl ?_
        refine O.pass rfl rfl rfl rfl rfl ?_
        refine O.pass rfl rfl rfl rfl rfl ?_
        refine O.passU rfl rfl rfl rfl ?_
        refine O.passU rfl rfl rfl rfl ?_
        refine O.passU rfl rfl rfl rfl ?_
        refine O.passU rfl rfl rfl rfl ?_
        refine O.pass rfl rfl rfl rfl rfl ?_
        refine O.val (v := .bool (true)) rfl (Ru.pickT rfl rfl) rfl ?_
        refine O.nil ?_
        refine C.condT rfl ?_
        refine C.seq ?_
        refine C.region ?_
        refine O.val (v := .bool (false)) rfl (Ru.assign rfl) rfl ?_
        refine O.nil ?_
        refine C.ret ?_
        refine P1 (v := .bool (false)) rfl ?_
        exact ⟨(by rw [hfl, fit_n3 (show allIn (((T).l[(at0).toNat]'hx1_3)).t.keys low hi = false from (show allIn ((((T).l[(at0).toNat]'hx1_3)).k.l) low hi = false from (by simp only [allIn]; simpa using g38)))]), (Mem.none hM2_15)⟩
      · refine O.val (v := I (at0)) rfl (Ru.move rfl) rfl ?_
        refine O.val (v := .pointer (ofs (bl b0_0) (0))) rfl (Ru.fieldA fl39_0 rfl rfl) rfl ?_
        refine O.val rfl (Ru.load1 el3 rfl ((hM2_15.rd 1 rfl).ld rfl)) rfl ?_
        refine O.val (v := .bool (decide (at0 ≠ (T).root))) rfl (Ru.neq rfl rfl) rfl ?_
        refine O.val (v := .bool (decide (at0 ≠ (T).root))) rfl (Ru.move rfl) rfl ?_
        refine O.partp 43 (at0 ≠ (T).root) rfl (fun g43 => ?_) (fun g43 => ?_)
        · refine O.val (v := .pointer (ofs (bl b1_5) (0))) rfl (Ru.fieldA fl58_0 rfl rfl) rfl ?_
          refine O.val rfl (Ru.load1 el51 rfl ((hM2_15.rd 0 rfl).ld rfl)) rfl ?_
          refine O.val (v := I ((((((T).l)[(at0).toNat]'hx1_3).k.l.length : Nat) : Int))) rfl (Ru.blenSlice Tryd.underlying51 rfl) rfl ?_
          refine O.val (v := .bool (decide ((((((T).l)[(at0).toNat]'hx1_3).k.l.length : Nat) : Int) < 2))) rfl (Ru.lss rfl rfl) rfl ?_
          refine O.val (v := .bool (decide ((((((T).l)[(at0).toNat]'hx1_3).k.l.length : Nat) : Int) < 2))) rfl (Ru.pickT rfl rfl) rfl ?_
          refine O.val (v := .bool (decide ((((((T).l)[(at0).toNat]'hx1_3).k.l.length : Nat) : Int) < 2))) rfl (Ru.pickF rfl rfl) rfl ?_
          refine O.nil ?_
          refine C.cond (p := (((((T).l)[(at0).toNat]'hx1_3).k.l.length : Nat) : Int) < 2) rfl (fun c49 => ?_) (fun c49 => ?_)
          · refine C.seq ?_
            refine C.region ?_
            refine O.val (v := .bool (false)) rfl (Ru.assign rfl) rfl ?_
            refine O.nil ?_
            refine C.ret ?_
            refine P1 (v := .bool (false)) rfl ?_
            exact ⟨(by rw [hfl, fit_n4 (T := (T).t) (show at0 ≠ (T).t.root from g43) (by show ¬ 2 ≤ ((((T).l[(at0).toNat]'hx1_3)).k.l).length; omega)]), (Mem.none hM2_15)⟩
          · refine C.skip ?_
            refine C.seq ?_
            refine C.seq ?_
            have hvk : validK (((T).l[(at0).toNat]'hx1_3)).t.keys = true := by show validK ((((T).l[(at0).toNat]'hx1_3)).k.l) = true; simpa using g24
            have h4 : (((T).l[(at0).toNat]'hx1_3)).t.keys.length ≤ 4 := by show ((((T).l[(at0).toNat]'hx1_3)).k.l).length ≤ 4; omega
            have hai : allIn (((T).l[(at0).toNat]'hx1_3)).t.keys low hi = true := by show allIn ((((T).l[(at0).toNat]'hx1_3)).k.l) low hi = true; simp only [allIn]; simpa using g38
            have hr : at0 = (T).t.root ∨ 2 ≤ (((T).l[(at0).toNat]'hx1_3)).t.keys.length := by first | (left; exact Classical.not_not.1 g43) | (left; simpa using g43) | (right; show 2 ≤ ((((T).l[(at0).toNat]'hx1_3)).k.l).length; omega)
            refine C.region ?_
            refine O.val (v := I (dp)) rfl (Ru.move rfl) rfl ?_
            refine O.val (v := .bool (decide (dp = 1))) rfl (Ru.eql rfl rfl) rfl ?_
            refine O.nil ?_
            refine C.cond (p := dp = 1) rfl (fun c51 => ?_) (fun c51 => ?_)
            · have hn0 : n = 0 := by omega
              subst hn0
              refine C.seq ?_
              refine C.region ?_
              refine O.val (v := .pointer (ofs (bl b1_5) (1))) rfl (Ru.fieldA fl58_1 rfl rfl) rfl ?_
              refine O.val rfl (Ru.load1 el51 rfl ((hM2_15.rd 0 rfl).ld rfl)) rfl ?_
              refine O.val (v := I ((((((T).l)[(at0).toNat]'hx1_3).c.l.length : Nat) : Int))) rfl (Ru.blenSlice Tryd.underlying51 rfl) rfl ?_
              refine O.val (v := .bool (decide ((((((T).l)[(at0).toNat]'hx1_3).c.l.length : Nat) : Int) = 0))) rfl (Ru.eql rfl rfl) rfl ?_
              refine O.val (v := .bool (decide ((((((T).l)[(at0).toNat]'hx1_3).c.l.length : Nat) : Int) = 0))) rfl (Ru.move rfl) rfl ?_
              refine O.partp 56 ((((((T).l)[(at0).toNat]'hx1_3).c.l.length : Nat) : Int) = 0) rfl (fun g56 => ?_) (fun g56 => ?_)
              · refine O.val (v := .pointer (ofs (bl b1_5) (2))) rfl (Ru.fieldA fl58_2 rfl rfl) rfl ?_
                refine O.val rfl (Ru.load1 el51 rfl ((hM2_15.rd 0 rfl).ld rfl)) rfl ?_
                refine O.val (v := I ((((((T).l)[(at0).toNat]'hx1_3).v.l.length : Nat) : Int))) rfl (Ru.blenSlice Tryd.underlying51 rfl) rfl ?_
                refine O.val (v := .pointer (ofs (bl b1_5) (0))) rfl (Ru.fieldA fl58_0 rfl rfl) rfl ?_
                refine O.val rfl (Ru.load1 el51 rfl ((hM2_15.rd 0 rfl).ld rfl)) rfl ?_
                refine O.val (v := I ((((((T).l)[(at0).toNat]'hx1_3).k.l.length : Nat) : Int))) rfl (Ru.blenSlice Tryd.underlying51 rfl) rfl ?_
                refine O.val (v := .bool (decide ((((((T).l)[(at0).toNat]'hx1_3).v.l.length : Nat) : Int) = (((((T).l)[(at0).toNat]'hx1_3).k.l.length : Nat) : Int)))) rfl (Ru.eql rfl rfl) rfl ?_
                refine O.val (v := .bool (decide ((((((T).l)[(at0).toNat]'hx1_3).v.l.length : Nat) : Int) = (((((T).l)[(at0).toNat]'hx1_3).k.l.length : Nat) : Int)))) rfl (Ru.pickT rfl rfl) rfl ?_
                refine O.val (v := .bool (decide ((((((T).l)[(at0).toNat]'hx1_3).v.l.length : Nat) : Int) = (((((T).l)[(at0).toNat]'hx1_3).k.l.length : Nat) : Int)))) rfl (Ru.move rfl) rfl ?_
                refine O.partp 65 ((((((T).l)[(at0).toNat]'hx1_3).v.l.length : Nat) : Int) = (((((T).l)[(at0).toNat]'hx1_3).k.l.length : Nat) : Int)) rfl (fun g65 => ?_) (fun g65 => ?_)
                · refine O.val (v := .pointer (ofs (bl b1_5) (2))) rfl (Ru.fieldA fl58_2 rfl rfl) rfl ?_
                  refine O.val rfl (Ru.load1 el51 rfl ((hM2_15.rd 0 rfl).ld rfl)) rfl ?_
                  refine O.callg [.slice ((((T).l)[(at0).toNat]'hx1_3).v.A) (((((T).l)[(at0).toNat]'hx1_3).v.l).length) ((((T).l)[(at0).toNat]'hx1_3).v.cp), I ((-1000)), I (1000)] rfl en110 (by first | rfl | (rw [show ((((T).l)[(at0).toNat]'hx1_3).v.l).length = (((T).l)[(at0).toNat]'hx1_3).v.l.length from (by first | rfl | (simp; done) | omega | (simp; omega))]; rfl)) rfl (allIn_fn ((((T).l)[(at0).toNat]'hx1_3).v.A) ((((T).l)[(at0).toNat]'hx1_3).v.cp) ((((T).l)[(at0).toNat]'hx1_3).v.l) (-1000) 1000 w2_15 (((hNT.at hM2_15)).2.get hx1_3).2.2 (by omega)) ?_
                  rintro _ w5_16 ⟨rfl, hR5_16⟩
                  have hM5_16 : Mem w w5_16 [] [[⟨.slice (bl b1_5) 1 1, 58, 3, 1, [.slice ((((T).l)[(at0).toNat]'hx1_3).k.A) ((((T).l)[(at0).toNat]'hx1_3).k.l.length) ((((T).l)[(at0).toNat]'hx1_3).k.cp), .slice ((((T).l)[(at0).toNat]'hx1_3).c.A) ((((T).l)[(at0).toNat]'hx1_3).c.l.length) ((((T).l)[(at0).toNat]'hx1_3).c.cp), .slice ((((T).l)[(at0).toNat]'hx1_3).v.A) ((((T).l)[(at0).toNat]'hx1_3).v.l.length) ((((T).l)[(at0).toNat]'hx1_3).v.cp)]⟩], [⟨.slice (bl b0_0) 1 1, 39, 2, 1, [I ((T).root), .slice ((T).A) ((T).l.length) ((T).cp)]⟩]] := Mem.call (Ma := []) hM2_15 hR5_16 rfl
                  refine O.val (v := .bool (((((T).l)[(at0).toNat]'hx1_3).v.l).all (fun a => decide ((-1000) ≤ a) && decide (a ≤ 1000)))) rfl (Ru.pickT rfl rfl) rfl ?_
                  refine O.val (v := .bool (((((T).l)[(at0).toNat]'hx1_3).v.l).all (fun a => decide ((-1000) ≤ a) && decide (a ≤ 1000)))) rfl (Ru.assign rfl) rfl ?_
                  refine O.nil ?_
                  refine C.ret ?_
                  refine P1 (v := .bool (((((T).l)[(at0).toNat]'hx1_3).v.l).all (fun a => decide ((-1000) ≤ a) && decide (a ≤ 1000)))) rfl ?_
                  exact ⟨(by rw [hfl, fit_y0' hvk h4 hai hr (V := (((T).l[(at0).toNat]'hx1_3)).v.l) (kl := ((((T).l[(at0).toNat]'hx1_3)).k.l).length) (cl := ((((T).l[(at0).toNat]'hx1_3)).c.l).length) rfl rfl rfl]; refine congrArg Value.bool ?_; rw [Bool.eq_iff_iff]; simp only [Bool.and_eq_true, decide_eq_true_eq, reduceCtorEq, true_iff, false_iff, allIn]; first | (rintro ⟨⟨h7, h8⟩, _⟩; omega) | exact ⟨fun h9 => ⟨⟨by omega, by omega⟩, h9⟩, fun h9 => h9.2⟩), (Mem.none hM5_16)⟩
                · refine O.pass rfl rfl rfl rfl rfl ?_
                  refine O.pass rfl rfl rfl rfl rfl ?_
                  refine O.pass rfl rfl rfl rfl rfl ?_
                  refine O.val (v := .bool (false)) rfl (Ru.pickF rfl rfl) rfl ?_
                  refine O.val (v := .bool (false)) rfl (Ru.assign rfl) rfl ?_
                  refine O.nil ?_
                  refine C.ret ?_
                  refine P1 (v := .bool (false)) rfl ?_
                  exact ⟨(by rw [hfl, fit_y0' hvk h4 hai hr (V := (((T).l[(at0).toNat]'hx1_3)).v.l) (kl := ((((T).l[(at0).toNat]'hx1_3)).k.l).length) (cl := ((((T).l[(at0).toNat]'hx1_3)).c.l).length) rfl rfl rfl]; refine congrArg Value.bool ?_; rw [Bool.eq_iff_iff]; simp only [Bool.and_eq_true, decide_eq_true_eq, reduceCtorEq, true_iff, false_iff, allIn]; first | (rintro ⟨⟨h7, h8⟩, _⟩; omega) | exact ⟨fun h9 => ⟨⟨by omega, by omega⟩, h9⟩, fun h9 => h9.2⟩), (Mem.none hM2_15)⟩
              · refine O.pass rfl rfl rfl rfl rfl ?_
                refine O.pass rfl rfl rfl rfl rfl ?_
                refine O.pass rfl rfl rfl rfl rfl ?_
                refine O.pass rfl rfl rfl rfl rfl ?_
                refine O.pass rfl rfl rfl rfl rfl ?_
                refine O.pass rfl rfl rfl rfl rfl ?_
                refine O.pass rfl rfl rfl rfl rfl ?_
                refine O.val (v := .bool (false)) rfl (Ru.pickF rfl rfl) rfl ?_
                refine O.val (v := .bool (false)) rfl (Ru.move rfl) rfl ?_
                refine O.pass rfl rfl rfl rfl rfl ?_
                refine O.pass rfl rfl rfl rfl rfl ?_
                refine O.pass rfl rfl rfl rfl rfl ?_
                refine O.val (v := .bool (false)) rfl (Ru.pickF rfl rfl) rfl ?_
                refine O.val (v := .bool (false)) rfl (Ru.assign rfl) rfl ?_
                refine O.nil ?_
                refine C.ret ?_
                refine P1 (v := .bool (false)) rfl ?_
                exact ⟨(by rw [hfl, fit_y0' hvk h4 hai hr (V := (((T).l[(at0).toNat]'hx1_3)).v.l) (kl := ((((T).l[(at0).toNat]'hx1_3)).k.l).length) (cl := ((((T).l[(at0).toNat]'hx1_3)).c.l).length) rfl rfl rfl]; refine congrArg Value.bool ?_; rw [Bool.eq_iff_iff]; simp only [Bool.and_eq_true, decide_eq_true_eq, reduceCtorEq, true_iff, false_iff, allIn]; first | (rintro ⟨⟨h7, h8⟩, _⟩; omega) | exact ⟨fun h9 => ⟨⟨by omega, by omega⟩, h9⟩, fun h9 => h9.2⟩), (Mem.none hM2_15)⟩
            · have hn0 : n ≠ 0 := by omega
              refine C.skip ?_
              refine C.seq ?_
              refine C.seq ?_
              refine C.region ?_
              refine O.val (v := .pointer (ofs (bl b1_5) (0))) rfl (Ru.fieldA fl58_0 rfl rfl) rfl ?_
              refine O.val rfl (Ru.load1 el51 rfl ((hM2_15.rd 0 rfl).ld rfl)) rfl ?_
              refine O.val (v := I ((((((T).l)[(at0).toNat]'hx1_3).k.l.length : Nat) : Int))) rfl (Ru.blenSlice Tryd.underlying51 rfl) rfl ?_
              refine O.val (v := .bool (decide ((((((T).l)[(at0).toNat]'hx1_3).k.l.length : Nat) : Int) = 0))) rfl (Ru.eql rfl rfl) rfl ?_
              refine O.val (v := .bool (decide ((((((T).l)[(at0).toNat]'hx1_3).k.l.length : Nat) : Int) = 0))) rfl (Ru.move rfl) rfl ?_
              refine O.partp 74 ((((((T).l)[(at0).toNat]'hx1_3).k.l.length : Nat) : Int) = 0) rfl (fun g74 => ?_) (fun g74 => ?_)
              · refine O.pass rfl rfl rfl rfl rfl ?_
                refine O.pass rfl rfl rfl rfl rfl ?_
                refine O.pass rfl rfl rfl rfl rfl ?_
                refine O.pass rfl rfl rfl rfl rfl ?_
                refine O.val (v := .bool (true)) rfl (Ru.pickT rfl rfl) rfl ?_
                refine O.val (v := .bool (true)) rfl (Ru.move rfl) rfl ?_
                refine O.pass rfl rfl rfl rfl rfl ?_
                refine O.pass rfl rfl rfl rfl rfl ?_
                refine O.pass rfl rfl rfl rfl rfl ?_
                refine O.pass rfl rfl rfl rfl rfl ?_
                refine O.pass rfl rfl rfl rfl rfl ?_
                refine O.pass rfl rfl rfl rfl rfl ?_
                refine O.pass rfl rfl rfl rfl rfl ?_
                refine O.pass rfl rfl rfl rfl rfl ?_
                refine O.val (v := .bool (true)) rfl (Ru.pickT rfl rfl) rfl ?_
                refine O.val (v := .bool (true)) rfl (Ru.move rfl) rfl ?_
                refine O.pass rfl rfl rfl rfl rfl ?_
                refine O.pass rfl rfl rfl rfl rfl ?_
                refine O.pass rfl rfl rfl rfl rfl ?_
                refine O.pass rfl rfl rfl rfl rfl ?_
                refine O.pass rfl rfl rfl rfl rfl ?_
                refine O.pass rfl rfl rfl rfl rfl ?_
                refine O.pass rfl rfl rfl rfl rfl ?_
                refine O.pass rfl rfl rfl rfl rfl ?_
                refine O.val (v := .bool (true)) rfl (Ru.pickT rfl rfl) rfl ?_
                refine O.nil ?_
                refine C.condT rfl ?_
                refine C.seq ?_
                refine C.region ?_
                refine O.val (v := .bool (false)) rfl (Ru.assign rfl) rfl ?_
                refine O.nil ?_
                refine C.ret ?_
                refine P1 (v := .bool (false)) rfl ?_
                exact ⟨(by rw [hfl, fit_no (h0 := hn0) (by left; show ((((T).l[(at0).toNat]'hx1_3)).k.l).length = 0; omega)]), (Mem.none hM2_15)⟩
              · refine O.val (v := .pointer (ofs (bl b1_5) (2))) rfl (Ru.fieldA fl58_2 rfl rfl) rfl ?_
                refine O.val rfl (Ru.load1 el51 rfl ((hM2_15.rd 0 rfl).ld rfl)) rfl ?_
                refine O.val (v := I ((((((T).l)[(at0).toNat]'hx1_3).v.l.length : Nat) : Int))) rfl (Ru.blenSlice Tryd.underlying51 rfl) rfl ?_
                refine O.val (v := .bool (decide ((((((T).l)[(at0).toNat]'hx1_3).v.l.length : Nat) : Int) ≠ 0))) rfl (Ru.neq rfl rfl) rfl ?_
                refine O.val (v := .bool (decide ((((((T).l)[(at0).toNat]'hx1_3).v.l.length : Nat) : Int) ≠ 0))) rfl (Ru.pickF rfl rfl) rfl ?_
                refine O.val (v := .bool (decide ((((((T).l)[(at0).toNat]'hx1_3).v.l.length : Nat) : Int) ≠ 0))) rfl (Ru.move rfl) rfl ?_
                refine O.partp 80 ((((((T).l)[(at0).toNat]'hx1_3).v.l.length : Nat) : Int) ≠ 0) rfl (fun g80 => ?_) (fun g80 => ?_)
                · refine O.pass rfl rfl rfl rfl rfl ?_
                  refine O.pass rfl rfl rfl rfl rfl ?_
                  refine O.pass rfl rfl rfl rfl rfl ?_
                  refine O.pass rfl rfl rfl rfl rfl ?_
                  refine O.pass rfl rfl rfl rfl rfl ?_
                  refine O.pass rfl rfl rfl rfl rfl ?_
                  refine O.pass rfl rfl rfl rfl rfl ?_
                  refine O.pass rfl rfl rfl rfl rfl ?_
                  refine O.val (v := .bool (true)) rfl (Ru.pickT rfl rfl) rfl ?_
                  refine O.val (v := .bool (true)) rfl (Ru.move rfl) rfl ?_
                  refine O.pass rfl rfl rfl rfl rfl ?_
                  refine O.pass rfl rfl rfl rfl rfl ?_
                  refine O.pass rfl rfl rfl rfl rfl ?_
                  refine O.pass rfl rfl rfl rfl rfl ?_
                  refine O.pass rfl rfl rfl rfl rfl ?_
                  refine O.pass rfl rfl rfl rfl rfl ?_
                  refine O.pass rfl rfl rfl rfl rfl ?_
                  refine O.pass rfl rfl rfl rfl rfl ?_
                  refine O.val (v := .bool (true)) rfl (Ru.pickT rfl rfl) rfl ?_
                  refine O.nil ?_
                  refine C.condT rfl ?_
                  refine C.seq ?_
                  refine C.region ?_
                  refine O.val (v := .bool (false)) rfl (Ru.assign rfl) rfl ?_
                  refine O.nil ?_
                  refine C.ret ?_
                  refine P1 (v := .bool (false)) rfl ?_
                  exact ⟨(by rw [hfl, fit_no (h0 := hn0) (by right; left; show ((((T).l[(at0).toNat]'hx1_3)).v.l).length ≠ 0; omega)]), (Mem.none hM2_15)⟩
                · refine O.val (v := .pointer (ofs (bl b1_5) (1))) rfl (Ru.fieldA fl58_1 rfl rfl) rfl ?_
                  refine O.val rfl (Ru.load1 el51 rfl ((hM2_15.rd 0 rfl).ld rfl)) rfl ?_
                  refine O.val (v := I ((((((T).l)[(at0).toNat]'hx1_3).c.l.length : Nat) : Int))) rfl (Ru.blenSlice Tryd.underlying51 rfl) rfl ?_
                  refine O.val (v := .pointer (ofs (bl b1_5) (0))) rfl (Ru.fieldA fl58_0 rfl rfl) rfl ?_
                  refine O.val rfl (Ru.load1 el51 rfl ((hM2_15.rd 0 rfl).ld rfl)) rfl ?_
                  refine O.val (v := I ((((((T).l)[(at0).toNat]'hx1_3).k.l.length : Nat) : Int))) rfl (Ru.blenSlice Tryd.underlying51 rfl) rfl ?_
                  refine O.val (v := I (((((((T).l)[(at0).toNat]'hx1_3).k.l.length + 1) : Nat) : Int))) rfl (Ru.congr (v := I (((((((T).l)[(at0).toNat]'hx1_3).k.l.length : Nat) : Int) + 1))) (v' := I (((((((T).l)[(at0).toNat]'hx1_3).k.l.length + 1) : Nat) : Int))) (Ru.add rfl rfl (by omega)) (I_congr (by first | omega | simp))) rfl ?_
                  refine O.val (v := .bool (decide ((((((T).l)[(at0).toNat]'hx1_3).c.l.length : Nat) : Int) ≠ ((((((T).l)[(at0).toNat]'hx1_3).k.l.length + 1) : Nat) : Int)))) rfl (Ru.neq rfl rfl) rfl ?_
                  refine O.val (v := .bool (decide ((((((T).l)[(at0).toNat]'hx1_3).c.l.length : Nat) : Int) ≠ ((((((T).l)[(at0).toNat]'hx1_3).k.l.length + 1) : Nat) : Int)))) rfl (Ru.pickF rfl rfl) rfl ?_
                  refine O.val (v := .bool (decide ((((((T).l)[(at0).toNat]'hx1_3).c.l.length : Nat) : Int) ≠ ((((((T).l)[(at0).toNat]'hx1_3).k.l.length + 1) : Nat) : Int)))) rfl (Ru.move rfl) rfl ?_
                  refine O.partp 90 ((((((T).l)[(at0).toNat]'hx1_3).c.l.length : Nat) : Int) ≠ ((((((T).l)[(at0).toNat]'hx1_3).k.l.length + 1) : Nat) : Int)) rfl (fun g90 => ?_) (fun g90 => ?_)
                  · refine O.pass rfl rfl rfl rfl rfl ?_
                    refine O.pass rfl rfl rfl rfl rfl ?_
                    refine O.pass rfl rfl rfl rfl rfl ?_
                    refine O.pass rfl rfl rfl rfl rfl ?_
                    refine O.pass rfl rfl rfl rfl rfl ?_
                    refine O.pass rfl rfl rfl rfl rfl ?_
                    refine O.pass rfl rfl rfl rfl rfl ?_
                    refine O.pass rfl rfl rfl rfl rfl ?_
                    refine O.val (v := .bool (true)) rfl (Ru.pickT rfl rfl) rfl ?_
                    refine O.nil ?_
                    refine C.condT rfl ?_
                    refine C.seq ?_
                    refine C.region ?_
                    refine O.val (v := .bool (false)) rfl (Ru.assign rfl) rfl ?_
                    refine O.nil ?_
                    refine C.ret ?_
                    refine P1 (v := .bool (false)) rfl ?_
                    exact ⟨(by rw [hfl, fit_no (h0 := hn0) (by right; right; left; show ((((T).l[(at0).toNat]'hx1_3)).c.l).length ≠ ((((T).l[(at0).toNat]'hx1_3)).k.l).length + 1; omega)]), (Mem.none hM2_15)⟩
                  · refine O.val (v := .pointer (ofs (bl b1_5) (1))) rfl (Ru.fieldA fl58_1 rfl rfl) rfl ?_
                    refine O.val rfl (Ru.load1 el51 rfl ((hM2_15.rd 0 rfl).ld rfl)) rfl ?_
                    refine O.val (v := .pointer (ofs (bl b0_0) (1))) rfl (Ru.fieldA fl39_1 rfl rfl) rfl ?_
                    refine O.val rfl (Ru.load1 el37 rfl ((hM2_15.rd 1 rfl).ld rfl)) rfl ?_
                    refine O.val (v := I ((((T).l.length : Nat) : Int))) rfl (Ru.blenSlice Tryd.underlying37 rfl) rfl ?_
                    refine O.val (v := I (((((T).l.length : Nat) : Int) - 1))) rfl (Ru.sub rfl rfl (by omega)) rfl ?_
                    refine O.callg [.slice ((((T).l)[(at0).toNat]'hx1_3).c.A) (((((T).l)[(at0).toNat]'hx1_3).c.l).length) ((((T).l)[(at0).toNat]'hx1_3).c.cp), I (0), I (((((T).l.length : Nat) : Int) - 1))] rfl en110 (by first | rfl | (rw [show ((((T).l)[(at0).toNat]'hx1_3).c.l).length = (((T).l)[(at0).toNat]'hx1_3).c.l.length from (by first | rfl | (simp; done) | omega | (simp; omega))]; rfl)) rfl (allIn_fn ((((T).l)[(at0).toNat]'hx1_3).c.A) ((((T).l)[(at0).toNat]'hx1_3).c.cp) ((((T).l)[(at0).toNat]'hx1_3).c.l) 0 ((((T).l.length : Nat) : Int) - 1) w2_15 (((hNT.at hM2_15)).2.get hx1_3).2.1 (by omega)) ?_
                    rintro _ w6_27 ⟨rfl, hR6_27⟩
                    have hM6_27 : Mem w w6_27 [] [[⟨.slice (bl b1_5) 1 1, 58, 3, 1, [.slice ((((T).l)[(at0).toNat]'hx1_3).k.A) ((((T).l)[(at0).toNat]'hx1_3).k.l.length) ((((T).l)[(at0).toNat]'hx1_3).k.cp), .slice ((((T).l)[(at0).toNat]'hx1_3).c.A) ((((T).l)[(at0).toNat]'hx1_3).c.l.length) ((((T).l)[(at0).toNat]'hx1_3).c.cp), .slice ((((T).l)[(at0).toNat]'hx1_3).v.A) ((((T).l)[(at0).toNat]'hx1_3).v.l.length) ((((T).l)[(at0).toNat]'hx1_3).v.cp)]⟩], [⟨.slice (bl b0_0) 1 1, 39, 2, 1, [I ((T).root), .slice ((T).A) ((T).l.length) ((T).cp)]⟩]] := Mem.call (Ma := []) hM2_15 hR6_27 rfl
                    refine O.val (v := .bool (!(((((T).l)[(at0).toNat]'hx1_3).c.l).all (fun a => decide (0 ≤ a) && decide (a ≤ ((((T).l.length : Nat) : Int) - 1)))))) rfl (Ru.not rfl) rfl ?_
                    refine O.val (v := .bool (!(((((T).l)[(at0).toNat]'hx1_3).c.l).all (fun a => decide (0 ≤ a) && decide (a ≤ ((((T).l.length : Nat) : Int) - 1)))))) rfl (Ru.pickF rfl rfl) rfl ?_
                    refine O.nil ?_
                    refine C.condn (b := (((((T).l)[(at0).toNat]'hx1_3).c.l).all (fun a => decide (0 ≤ a) && decide (a ≤ ((((T).l.length : Nat) : Int) - 1))))) rfl (fun c99 => ?_) (fun c99 => ?_)
                    · refine C.seq ?_
                      refine C.region ?_
                      refine O.val (v := .bool (false)) rfl (Ru.assign rfl) rfl ?_
                      refine O.nil ?_
                      refine C.ret ?_
                      refine P1 (v := .bool (false)) rfl ?_
                      exact ⟨(by rw [hfl, fit_no (h0 := hn0) (by right; right; right; rw [pages_len]; show allIn ((((T).l[(at0).toNat]'hx1_3)).c.l) 0 _ = false; simp only [allIn]; simpa using c99)]), (Mem.none hM6_27)⟩
                    · refine C.skip ?_
                      refine C.seq ?_
                      refine C.seq ?_
                      have hyd := fit_yd (T := (T).t) (i := at0) hn0 hvk h4 hai hr (by show ((((T).l[(at0).toNat]'hx1_3)).k.l).length ≠ 0; omega) (by show ((((T).l[(at0).toNat]'hx1_3)).v.l).length = 0; omega) (by show ((((T).l[(at0).toNat]'hx1_3)).c.l).length = ((((T).l[(at0).toNat]'hx1_3)).k.l).length + 1; omega) (by rw [pages_len]; show allIn ((((T).l[(at0).toNat]'hx1_3)).c.l) 0 _ = true; simp only [allIn]; simpa using c99)
                      have hal : allIn ((((T).l[(at0).toNat]'hx1_3)).c.l) 0 (((T).l.length : Int) - 1) = true := by simp only [allIn]; simpa using c99
                      refine C.region ?_
                      refine O.val (v := I (0)) rfl (Ru.assign rfl) rfl ?_
                      refine O.nil ?_
                      refine C.block ?_
                      refine C.loop (ι := Nat) (fun k => ([(2, I (low)), (3, I (hi)), (4, I (dp)), (5, .pointer (ofs (bl b0_0) (0))), (11, .pointer (ofs (bl b1_5) (0))), (12, I (((k : Nat) : Int)))] : List (Nat × Value))) (fun k w_ => (k ≤ ((((T).l[(at0).toNat]'hx1_3)).c.l).length) ∧ ((List.range k).all (fun k9 => fitS (T).t n ((((T).l[(at0).toNat]'hx1_3)).c.l.getD k9 0) (lowK (((T).l[(at0).toNat]'hx1_3)).t low k9) (highK (((T).l[(at0).toNat]'hx1_3)).t (hi + 1) k9 - 1)) = true) ∧ (Mem w w_ [] [[⟨.slice (bl b1_5) 1 1, 58, 3, 1, [.slice ((((T).l)[(at0).toNat]'hx1_3).k.A) ((((T).l)[(at0).toNat]'hx1_3).k.l.length) ((((T).l)[(at0).toNat]'hx1_3).k.cp), .slice ((((T).l)[(at0).toNat]'hx1_3).c.A) ((((T).l)[(at0).toNat]'hx1_3).c.l.length) ((((T).l)[(at0).toNat]'hx1_3).c.cp), .slice ((((T).l)[(at0).toNat]'hx1_3).v.A) ((((T).l)[(at0).toNat]'hx1_3).v.l.length) ((((T).l)[(at0).toNat]'hx1_3).v.cp)]⟩], [⟨.slice (bl b0_0) 1 1, 39, 2, 1, [I ((T).root), .slice ((T).A) ((T).l.length) ((T).cp)]⟩]])) (fun k => ((((T).l[(at0).toNat]'hx1_3)).c.l).length - k) (0) (Has.cons rfl (Has.cons rfl (Has.cons rfl (Has.cons rfl (Has.cons rfl (Has.cons (I_congr (by first | rfl | omega | (simp; omega) | simp)) Has.nil)))))) ⟨(Nat.zero_le _), rfl, (hM6_27.pick [0, 1] (by decide) rfl)⟩ (fun k σ w_l9 hI => ?_)
                      try dsimp only at hI
                      obtain ⟨hi0_l9, hi1_l9, hM_l9⟩ := hI
                      refine C.seq ?_
                      refine C.seq ?_
                      refine C.region ?_
                      refine O.val (v := I (((k : Nat) : Int))) rfl (Ru.move rfl) rfl ?_
                      refine O.val (v := .pointer (ofs (bl b1_5) (1))) rfl (Ru.fieldA fl58_1 rfl rfl) rfl ?_
                      refine O.val rfl (Ru.load1 el51 rfl ((hM_l9.rd 0 rfl).ld rfl)) rfl ?_
                      refine O.val (v := I ((((((T).l)[(at0).toNat]'hx1_3).c.l.length : Nat) : Int))) rfl (Ru.blenSlice Tryd.underlying51 rfl) rfl ?_
                      refine O.val (v := .bool (decide (((k : Nat) : Int) < (((((T).l)[(at0).toNat]'hx1_3).c.l.length : Nat) : Int)))) rfl (Ru.lss rfl rfl) rfl ?_
                      refine O.nil ?_
                      refine C.cond (p := ((k : Nat) : Int) < (((((T).l)[(at0).toNat]'hx1_3).c.l.length : Nat) : Int)) rfl (fun c104 => ?_) (fun c104 => ?_)
                      · refine C.skip ?_
                        refine C.seq ?_
                        refine C.block ?_
                        refine C.seq ?_
                        refine C.region ?_
                        refine O.val (v := I (low)) rfl (Ru.move rfl) rfl ?_
                        refine O.val (v := I (low)) rfl (Ru.assign rfl) rfl ?_
                        refine O.nil ?_
                        refine C.seq ?_
                        refine C.region ?_
                        refine O.val (v := I (hi)) rfl (Ru.move rfl) rfl ?_
                        refine O.val (v := I (hi)) rfl (Ru.assign rfl) rfl ?_
                        refine O.nil ?_
                        refine C.cut (ι := Unit) (fun _u => ([(2, I (low)), (3, I (hi)), (4, I (dp)), (5, .pointer (ofs (bl b0_0) (0))), (11, .pointer (ofs (bl b1_5) (0))), (12, I (((k : Nat) : Int))), (13, I (lowK (((T).l[(at0).toNat]'hx1_3)).t low k)), (14, I (hi))] : List (Nat × Value))) (fun _u w_ => (Mem w w_ [] [[⟨.slice (bl b1_5) 1 1, 58, 3, 1, [.slice ((((T).l)[(at0).toNat]'hx1_3).k.A) ((((T).l)[(at0).toNat]'hx1_3).k.l.length) ((((T).l)[(at0).toNat]'hx1_3).k.cp), .slice ((((T).l)[(at0).toNat]'hx1_3).c.A) ((((T).l)[(at0).toNat]'hx1_3).c.l.length) ((((T).l)[(at0).toNat]'hx1_3).c.cp), .slice ((((T).l)[(at0).toNat]'hx1_3).v.A) ((((T).l)[(at0).toNat]'hx1_3).v.l.length) ((((T).l)[(at0).toNat]'hx1_3).v.cp)]⟩], [⟨.slice (bl b0_0) 1 1, 39, 2, 1, [I ((T).root), .slice ((T).A) ((T).l.length) ((T).cp)]⟩]])) ?_ (fun _ σ w_c110 hI => ?_)
                        · refine C.seq ?_
                          refine C.region ?_
                          refine O.val (v := I (((k : Nat) : Int))) rfl (Ru.move rfl) rfl ?_
                          refine O.val (v := .bool (decide (((k : Nat) : Int) > 0))) rfl (Ru.gtr rfl rfl) rfl ?_
                          refine O.nil ?_
                          refine C.cond (p := ((k : Nat) : Int) > 0) rfl (fun c110 => ?_) (fun c110 => ?_)
                          · refine C.region ?_
                            refine O.val (v := .pointer (ofs (bl b1_5) (0))) rfl (Ru.fieldA fl58_0 rfl rfl) rfl ?_
                            refine O.val rfl (Ru.load1 el51 rfl ((hM_l9.rd 0 rfl).ld rfl)) rfl ?_
                            refine O.val (v := I (((k : Nat) : Int))) rfl (Ru.move rfl) rfl ?_
                            refine O.val (v := I ((((k : Nat) : Int) - 1))) rfl (Ru.sub rfl rfl (by omega)) rfl ?_
                            have hx14_4 : k - 1 < ((((T).l)[(at0).toNat]'hx1_3).k.l).length := (by first | omega | (simp; omega))
                            refine O.val (v := .pointer (ofs ((((T).l)[(at0).toNat]'hx1_3).k.A) ((k - 1) * 1))) rfl (Ru.indexA (j := k - 1) Tryd.underlying51 el3 rfl rfl (smm (((hNT.at hM_l9)).2.get hx1_3).1 hx14_4) (by omega) (by omega)) rfl ?_
                            refine O.val rfl (Ru.load1 el3 rfl (ldm (((hNT.at hM_l9)).2.get hx1_3).1 hx14_4)) rfl ?_
                            refine O.val (v := I (((((T).l)[(at0).toNat]'hx1_3).k.l)[k - 1]'hx14_4)) rfl (Ru.assign rfl) rfl ?_
                            refine O.nil ?_
                            exact cutEnd () (Has.cons rfl (Has.cons rfl (Has.cons rfl (Has.cons rfl (Has.cons rfl (Has.cons rfl (Has.cons (I_congr (lowK_pos (by omega) (show k - 1 < (((T).l[(at0).toNat]'hx1_3)).t.keys.length from hx14_4)).symm) (Has.cons rfl Has.nil)))))))) (hM_l9.pick [0, 1] (by decide) rfl)
                          · refine C.skip ?_
                            exact cutEnd () (Has.cons rfl (Has.cons rfl (Has.cons rfl (Has.cons rfl (Has.cons rfl (Has.cons rfl (Has.cons (I_congr (lowK_zero (by omega)).symm) (Has.cons rfl Has.nil)))))))) (hM_l9.pick [0, 1] (by decide) rfl)
                        · try dsimp only at hI
                          have hM_c110 := hI
                          refine C.cut (ι := Unit) (fun _u => ([(2, I (low)), (3, I (hi)), (4, I (dp)), (5, .pointer (ofs (bl b0_0) (0))), (11, .pointer (ofs (bl b1_5) (0))), (12, I (((k : Nat) : Int))), (13, I (lowK (((T).l[(at0).toNat]'hx1_3)).t low k)), (14, I ((highK (((T).l[(at0).toNat]'hx1_3)).t (hi + 1) k - 1)))] : List (Nat × Value))) (fun _u w_ => (Mem w w_ [] [[⟨.slice (bl b1_5) 1 1, 58, 3, 1, [.slice ((((T).l)[(at0).toNat]'hx1_3).k.A) ((((T).l)[(at0).toNat]'hx1_3).k.l.length) ((((T).l)[(at0).toNat]'hx1_3).k.cp), .slice ((((T).l)[(at0).toNat]'hx1_3).c.A) ((((T).l)[(at0).toNat]'hx1_3).c.l.length) ((((T).l)[(at0).toNat]'hx1_3).c.cp), .slice ((((T).l)[(at0).toNat]'hx1_3).v.A) ((((T).l)[(at0).toNat]'hx1_3).v.l.length) ((((T).l)[(at0).toNat]'hx1_3).v.cp)]⟩], [⟨.slice (bl b0_0) 1 1, 39, 2, 1, [I ((T).root), .slice ((T).A) ((T).l.length) ((T).cp)]⟩]])) ?_ (fun _ σ w_c121 hI => ?_)
                          · refine C.seq ?_
                            refine C.region ?_
                            refine O.val (v := I (((k : Nat) : Int))) rfl (Ru.move rfl) rfl ?_
                            refine O.val (v := .pointer (ofs (bl b1_5) (0))) rfl (Ru.fieldA fl58_0 rfl rfl) rfl ?_
                            refine O.val rfl (Ru.load1 el51 rfl ((hM_c110.rd 0 rfl).ld rfl)) rfl ?_
                            refine O.val (v := I ((((((T).l)[(at0).toNat]'hx1_3).k.l.length : Nat) : Int))) rfl (Ru.blenSlice Tryd.underlying51 rfl) rfl ?_
                            refine O.val (v := .bool (decide (((k : Nat) : Int) < (((((T).l)[(at0).toNat]'hx1_3).k.l.length : Nat) : Int)))) rfl (Ru.lss rfl rfl) rfl ?_
                            refine O.nil ?_
                            refine C.cond (p := ((k : Nat) : Int) < (((((T).l)[(at0).toNat]'hx1_3).k.l.length : Nat) : Int)) rfl (fun c121 => ?_) (fun c121 => ?_)
                            · refine C.region ?_
                              refine O.val (v := .pointer (ofs (bl b1_5) (0))) rfl (Ru.fieldA fl58_0 rfl rfl) rfl ?_
                              refine O.val rfl (Ru.load1 el51 rfl ((hM_c110.rd 0 rfl).ld rfl)) rfl ?_
                              refine O.val (v := I (((k : Nat) : Int))) rfl (Ru.move rfl) rfl ?_
                              have hx16_3 : k < ((((T).l)[(at0).toNat]'hx1_3).k.l).length := (by first | omega | (simp; omega))
                              refine O.val (v := .pointer (ofs ((((T).l)[(at0).toNat]'hx1_3).k.A) (k * 1))) rfl (Ru.indexA (j := k) Tryd.underlying51 el3 rfl rfl (smm (((hNT.at hM_c110)).2.get hx1_3).1 hx16_3) (by omega) (by first | omega | (simp; omega))) rfl ?_
                              have hkb := validK_bd (show validK ((((T).l[(at0).toNat]'hx1_3)).k.l) = true from hvk) hx16_3
                              refine O.val rfl (Ru.load1 el3 rfl (ldm (((hNT.at hM_c110)).2.get hx1_3).1 hx16_3)) rfl ?_
                              refine O.val (v := I ((((((T).l)[(at0).toNat]'hx1_3).k.l)[k]'hx16_3 - 1))) rfl (Ru.sub rfl rfl (by omega)) rfl ?_
                              refine O.val (v := I ((((((T).l)[(at0).toNat]'hx1_3).k.l)[k]'hx16_3 - 1))) rfl (Ru.assign rfl) rfl ?_
                              refine O.nil ?_
                              exact cutEnd () (Has.cons rfl (Has.cons rfl (Has.cons rfl (Has.cons rfl (Has.cons rfl (Has.cons rfl (Has.cons rfl (Has.cons (I_congr (by rw [highK_in (show k < (((T).l[(at0).toNat]'hx1_3)).t.keys.length from hx16_3)]; rfl)) Has.nil)))))))) (hM_c110.pick [0, 1] (by decide) rfl)
                            · refine C.skip ?_
                              exact cutEnd () (Has.cons rfl (Has.cons rfl (Has.cons rfl (Has.cons rfl (Has.cons rfl (Has.cons rfl (Has.cons rfl (Has.cons (I_congr (by rw [highK_end (show ¬ k < (((T).l[(at0).toNat]'hx1_3)).t.keys.length from (by show ¬ k < ((((T).l[(at0).toNat]'hx1_3)).k.l).length; omega))]; omega)) Has.nil)))))))) (hM_c110.pick [0, 1] (by decide) rfl)
                          · try dsimp only at hI
                            have hM_c121 := hI
                            refine C.seq ?_
                            refine C.draws (fun w2 => Mem w w2 [] [[⟨.slice (bl b1_5) 1 1, 58, 3, 1, [.slice ((((T).l)[(at0).toNat]'hx1_3).k.A) ((((T).l)[(at0).toNat]'hx1_3).k.l.length) ((((T).l)[(at0).toNat]'hx1_3).k.cp), .slice ((((T).l)[(at0).toNat]'hx1_3).c.A) ((((T).l)[(at0).toNat]'hx1_3).c.l.length) ((((T).l)[(at0).toNat]'hx1_3).c.cp), .slice ((((T).l)[(at0).toNat]'hx1_3).v.A) ((((T).l)[(at0).toNat]'hx1_3).v.l.length) ((((T).l)[(at0).toNat]'hx1_3).v.cp)]⟩], [⟨.slice (bl b0_0) 1 1, 39, 2, 1, [I ((T).root), .slice ((T).A) ((T).l.length) ((T).cp)]⟩]]) mixed (by kernel_rfl) (hM_c121.ext (kdrawn _)) ?_
                            refine QO.val rfl (fun w2 hw2 => Ru.loadN (vs := [I ((T).root), .slice ((T).A) ((T).l.length) ((T).cp)]) el39 rfl rfl rfl ((mem_blk (i := 1) (j := 0) hw2 rfl rfl).lds (k := 0) rfl)) rfl ?_
                            refine QO.val (v := .pointer (ofs (bl b1_5) (1))) rfl (fun w2 hw2 => Ru.fieldA fl58_1 rfl rfl) rfl ?_
                            refine QO.val rfl (fun w2 hw2 => Ru.load1 el51 rfl ((hw2.rd 0 rfl).ld rfl)) rfl ?_
                            refine QO.val (v := I (((k : Nat) : Int))) rfl (fun w2 hw2 => Ru.move rfl) rfl ?_
                            have hx17_4 : k < ((((T).l)[(at0).toNat]'hx1_3).c.l).length := (by first | omega | (simp; omega))
                            refine QO.val (v := .pointer (ofs ((((T).l)[(at0).toNat]'hx1_3).c.A) (k * 1))) rfl (fun w2 hw2 => Ru.indexA (j := k) Tryd.underlying51 el3 rfl rfl (smm (((hNT.at hw2)).2.get hx1_3).2.1 hx17_4) (by omega) (by first | omega | (simp; omega))) rfl ?_
                            have hrg := allIn_get hal hx17_4
                            refine QO.val rfl (fun w2 hw2 => Ru.load1 el3 rfl (ldm (((hNT.at hw2)).2.get hx1_3).2.1 hx17_4)) rfl ?_
                            refine QO.val (v := I (lowK (((T).l[(at0).toNat]'hx1_3)).t low k)) rfl (fun w2 hw2 => Ru.move rfl) rfl ?_
                            refine QO.val (v := I ((highK (((T).l[(at0).toNat]'hx1_3)).t (hi + 1) k - 1))) rfl (fun w2 hw2 => Ru.move rfl) rfl ?_
                            refine QO.val (v := I (dp)) rfl (fun w2 hw2 => Ru.move rfl) rfl ?_
                            refine QO.val (v := I ((dp - 1))) rfl (fun w2 hw2 => Ru.sub rfl rfl (by omega)) rfl ?_
                            refine QO.callg (v := .bool (fitS (T).t n (((((T).l)[(at0).toNat]'hx1_3).c.l)[k]'hx17_4) (lowK (((T).l[(at0).toNat]'hx1_3)).t low k) (highK (((T).l[(at0).toNat]'hx1_3)).t (hi + 1) k - 1))) [.agg #[I ((T).root), .slice ((T).A) ((T).l.length) ((T).cp)], I (((((T).l)[(at0).toNat]'hx1_3).c.l)[k]'hx17_4), I (lowK (((T).l[(at0).toNat]'hx1_3)).t low k), I ((highK (((T).l[(at0).toNat]'hx1_3)).t (hi + 1) k - 1)), I ((dp - 1))] rfl en89 rfl rfl (fun w2 hw2 => (ih_fn T (((((T).l)[(at0).toNat]'hx1_3).c.l)[k]'hx17_4) (lowK (((T).l[(at0).toNat]'hx1_3)).t low k) (highK (((T).l[(at0).toNat]'hx1_3)).t (hi + 1) k - 1) (dp - 1) w2 (hNT.at hw2) (by first | omega | assumption | (simp; omega) | simp | (intros; omega)) (by omega) (by omega) (by omega) (by omega)).mono fun _ _ h => ⟨h.1, Mem.call0 hw2 h.2⟩) ?_
                            refine QO.val (v := .bool (!(fitS (T).t n (((((T).l)[(at0).toNat]'hx1_3).c.l)[k]'hx17_4) (lowK (((T).l[(at0).toNat]'hx1_3)).t low k) (highK (((T).l[(at0).toNat]'hx1_3)).t (hi + 1) k - 1)))) rfl (fun w2 hw2 => Ru.not rfl) rfl ?_
                            refine QO.nil ?_
                            intro w17d hM17d
                            refine C.condn (b := (fitS (T).t n (((((T).l)[(at0).toNat]'hx1_3).c.l)[k]'hx17_4) (lowK (((T).l[(at0).toNat]'hx1_3)).t low k) (highK (((T).l[(at0).toNat]'hx1_3)).t (hi + 1) k - 1))) rfl (fun c139 => ?_) (fun c139 => ?_)
                            · have hf1 : (fun k9 => fitS (T).t n ((((T).l[(at0).toNat]'hx1_3)).c.l.getD k9 0) (lowK (((T).l[(at0).toNat]'hx1_3)).t low k9) (highK (((T).l[(at0).toNat]'hx1_3)).t (hi + 1) k9 - 1)) k = false := by show fitS _ _ _ _ _ = false; rw [getD_in (show k < (((T).l[(at0).toNat]'hx1_3)).c.l.length from hx17_4)]; simpa using c139
                              refine C.seq ?_
                              refine C.region ?_
                              refine O.val (v := .bool (false)) rfl (Ru.assign rfl) rfl ?_
                              refine O.nil ?_
                              refine C.ret ?_
                              refine P1 (v := .bool (false)) rfl ?_
                              exact ⟨(by rw [hfl, hyd]; exact congrArg Value.bool (range_bad (p := fun k9 => fitS (T).t n ((((T).l[(at0).toNat]'hx1_3)).c.l.getD k9 0) (lowK (((T).l[(at0).toNat]'hx1_3)).t low k9) (highK (((T).l[(at0).toNat]'hx1_3)).t (hi + 1) k9 - 1)) hx17_4 hf1).symm), (Mem.none hM17d)⟩
                            · have hf1 : (fun k9 => fitS (T).t n ((((T).l[(at0).toNat]'hx1_3)).c.l.getD k9 0) (lowK (((T).l[(at0).toNat]'hx1_3)).t low k9) (highK (((T).l[(at0).toNat]'hx1_3)).t (hi + 1) k9 - 1)) k = true := by show fitS _ _ _ _ _ = true; rw [getD_in (show k < (((T).l[(at0).toNat]'hx1_3)).c.l.length from hx17_4)]; simpa using c139
                              refine C.skip ?_
                              refine C.region ?_
                              refine O.val (v := I (((k : Nat) : Int))) rfl (Ru.move rfl) rfl ?_
                              refine O.val (v := I ((((k + 1) : Nat) : Int))) rfl (Ru.congr (v := I ((((k : Nat) : Int) + 1))) (v' := I ((((k + 1) : Nat) : Int))) (Ru.add rfl rfl (by omega)) (I_congr (by first | omega | simp))) rfl ?_
                              refine O.val (v := I ((((k + 1) : Nat) : Int))) rfl (Ru.assign rfl) rfl ?_
                              refine O.nil ?_
                              exact loopEnd (k + 1) (by (try dsimp only); omega) (Has.cons rfl (Has.cons rfl (Has.cons rfl (Has.cons rfl (Has.cons rfl (Has.cons (I_congr (by first | rfl | omega | (simp; omega) | simp)) Has.nil)))))) ⟨(by (try dsimp only); omega), (range_all hi1_l9 hf1), (hM17d.pick [0, 1] (by decide) rfl)⟩
                      · refine C.exit ?_
                        refine C.seq ?_
                        refine C.region ?_
                        refine O.val (v := .bool (true)) rfl (Ru.assign rfl) rfl ?_
                        refine O.nil ?_
                        refine C.ret ?_
                        refine P1 (v := .bool (true)) rfl ?_
                        exact ⟨(by rw [hfl, hyd, show (((T).l[(at0).toNat]'hx1_3)).t.kids.length = k from (by show ((((T).l[(at0).toNat]'hx1_3)).c.l).length = k; omega)]; exact congrArg Value.bool hi1_l9.symm), (Mem.none hM_l9)⟩
        · refine O.pass rfl rfl rfl rfl rfl ?_
          refine O.pass rfl rfl rfl rfl rfl ?_
          refine O.pass rfl rfl rfl rfl rfl ?_
          refine O.pass rfl rfl rfl rfl rfl ?_
          refine O.val (v := .bool (false)) rfl (Ru.pickF rfl rfl) rfl ?_
          refine O.val (v := .bool (false)) rfl (Ru.pickF rfl rfl) rfl ?_
          refine O.nil ?_
          refine C.condF rfl ?_
          refine C.skip ?_
          refine C.seq ?_
          refine C.seq ?_
          have hvk : validK (((T).l[(at0).toNat]'hx1_3)).t.keys = true := by show validK ((((T).l[(at0).toNat]'hx1_3)).k.l) = true; simpa using g24
          have h4 : (((T).l[(at0).toNat]'hx1_3)).t.keys.length ≤ 4 := by show ((((T).l[(at0).toNat]'hx1_3)).k.l).length ≤ 4; omega
          have hai : allIn (((T).l[(at0).toNat]'hx1_3)).t.keys low hi = true := by show allIn ((((T).l[(at0).toNat]'hx1_3)).k.l) low hi = true; simp only [allIn]; simpa using g38
          have hr : at0 = (T).t.root ∨ 2 ≤ (((T).l[(at0).toNat]'hx1_3)).t.keys.length := by first | (left; exact Classical.not_not.1 g43) | (left; simpa using g43) | (right; show 2 ≤ ((((T).l[(at0).toNat]'hx1_3)).k.l).length; omega)
          refine C.region ?_
          refine O.val (v := I (dp)) rfl (Ru.move rfl) rfl ?_
          refine O.val (v := .bool (decide (dp = 1))) rfl (Ru.eql rfl rfl) rfl ?_
          refine O.nil ?_
          refine C.cond (p := dp = 1) rfl (fun c51 => ?_) (fun c51 => ?_)
          · have hn0 : n = 0 := by omega
            subst hn0
            refine C.seq ?_
            refine C.region ?_
            refine O.val (v := .pointer (ofs (bl b1_5) (1))) rfl (Ru.fieldA fl58_1 rfl rfl) rfl ?_
            refine O.val rfl (Ru.load1 el51 rfl ((hM2_15.rd 0 rfl).ld rfl)) rfl ?_
            refine O.val (v := I ((((((T).l)[(at0).toNat]'hx1_3).c.l.length : Nat) : Int))) rfl (Ru.blenSlice Tryd.underlying51 rfl) rfl ?_
            refine O.val (v := .bool (decide ((((((T).l)[(at0).toNat]'hx1_3).c.l.length : Nat) : Int) = 0))) rfl (Ru.eql rfl rfl) rfl ?_
            refine O.val (v := .bool (decide ((((((T).l)[(at0).toNat]'hx1_3).c.l.length : Nat) : Int) = 0))) rfl (Ru.move rfl) rfl ?_
            refine O.partp 56 ((((((T).l)[(at0).toNat]'hx1_3).c.l.length : Nat) : Int) = 0) rfl (fun g56 => ?_) (fun g56 => ?_)
            · refine O.val (v := .pointer (ofs (bl b1_5) (2))) rfl (Ru.fieldA fl58_2 rfl rfl) rfl ?_
              refine O.val rfl (Ru.load1 el51 rfl ((hM2_15.rd 0 rfl).ld rfl)) rfl ?_
              refine O.val (v := I ((((((T).l)[(at0).toNat]'hx1_3).v.l.length : Nat) : Int))) rfl (Ru.blenSlice Tryd.underlying51 rfl) rfl ?_
              refine O.val (v := .pointer (ofs (bl b1_5) (0))) rfl (Ru.fieldA fl58_0 rfl rfl) rfl ?_
              refine O.val rfl (Ru.load1 el51 rfl ((hM2_15.rd 0 rfl).ld rfl)) rfl ?_
              refine O.val (v := I ((((((T).l)[(at0).toNat]'hx1_3).k.l.length : Nat) : Int))) rfl (Ru.blenSlice Tryd.underlying51 rfl) rfl ?_
              refine O.val (v := .bool (decide ((((((T).l)[(at0).toNat]'hx1_3).v.l.length : Nat) : Int) = (((((T).l)[(at0).toNat]'hx1_3).k.l.length : Nat) : Int)))) rfl (Ru.eql rfl rfl) rfl ?_
              refine O.val (v := .bool (decide ((((((T).l)[(at0).toNat]'hx1_3).v.l.length : Nat) : Int) = (((((T).l)[(at0).toNat]'hx1_3).k.l.length : Nat) : Int)))) rfl (Ru.pickT rfl rfl) rfl ?_
              refine O.val (v := .bool (decide ((((((T).l)[(at0).toNat]'hx1_3).v.l.length : Nat) : Int) = (((((T).l)[(at0).toNat]'hx1_3).k.l.length : Nat) : Int)))) rfl (Ru.move rfl) rfl ?_
              refine O.partp 65 ((((((T).l)[(at0).toNat]'hx1_3).v.l.length : Nat) : Int) = (((((T).l)[(at0).toNat]'hx1_3).k.l.length : Nat) : Int)) rfl (fun g65 => ?_) (fun g65 => ?_)
              · refine O.val (v := .pointer (ofs (bl b1_5) (2))) rfl (Ru.fieldA fl58_2 rfl rfl) rfl ?_
                refine O.val rfl (Ru.load1 el51 rfl ((hM2_15.rd 0 rfl).ld rfl)) rfl ?_
                refine O.callg [.slice ((((T).l)[(at0).toNat]'hx1_3).v.A) (((((T).l)[(at0).toNat]'hx1_3).v.l).length) ((((T).l)[(at0).toNat]'hx1_3).v.cp), I ((-1000)), I (1000)] rfl en110 (by first | rfl | (rw [show ((((T).l)[(at0).toNat]'hx1_3).v.l).length = (((T).l)[(at0).toNat]'hx1_3).v.l.length from (by first | rfl | (simp; done) | omega | (simp; omega))]; rfl)) rfl (allIn_fn ((((T).l)[(at0).toNat]'hx1_3).v.A) ((((T).l)[(at0).toNat]'hx1_3).v.cp) ((((T).l)[(at0).toNat]'hx1_3).v.l) (-1000) 1000 w2_15 (((hNT.at hM2_15)).2.get hx1_3).2.2 (by omega)) ?_
                rintro _ w5_16 ⟨rfl, hR5_16⟩
                have hM5_16 : Mem w w5_16 [] [[⟨.slice (bl b1_5) 1 1, 58, 3, 1, [.slice ((((T).l)[(at0).toNat]'hx1_3).k.A) ((((T).l)[(at0).toNat]'hx1_3).k.l.length) ((((T).l)[(at0).toNat]'hx1_3).k.cp), .slice ((((T).l)[(at0).toNat]'hx1_3).c.A) ((((T).l)[(at0).toNat]'hx1_3).c.l.length) ((((T).l)[(at0).toNat]'hx1_3).c.cp), .slice ((((T).l)[(at0).toNat]'hx1_3).v.A) ((((T).l)[(at0).toNat]'hx1_3).v.l.length) ((((T).l)[(at0).toNat]'hx1_3).v.cp)]⟩], [⟨.slice (bl b0_0) 1 1, 39, 2, 1, [I ((T).root), .slice ((T).A) ((T).l.length) ((T).cp)]⟩]] := Mem.call (Ma := []) hM2_15 hR5_16 rfl
                refine O.val (v := .bool (((((T).l)[(at0).toNat]'hx1_3).v.l).all (fun a => decide ((-1000) ≤ a) && decide (a ≤ 1000)))) rfl (Ru.pickT rfl rfl) rfl ?_
                refine O.val (v := .bool (((((T).l)[(at0).toNat]'hx1_3).v.l).all (fun a => decide ((-1000) ≤ a) && decide (a ≤ 1000)))) rfl (Ru.assign rfl) rfl ?_
                refine O.nil ?_
                refine C.ret ?_
                refine P1 (v := .bool (((((T).l)[(at0).toNat]'hx1_3).v.l).all (fun a => decide ((-1000) ≤ a) && decide (a ≤ 1000)))) rfl ?_
                exact ⟨(by rw [hfl, fit_y0' hvk h4 hai hr (V := (((T).l[(at0).toNat]'hx1_3)).v.l) (kl := ((((T).l[(at0).toNat]'hx1_3)).k.l).length) (cl := ((((T).l[(at0).toNat]'hx1_3)).c.l).length) rfl rfl rfl]; refine congrArg Value.bool ?_; rw [Bool.eq_iff_iff]; simp only [Bool.and_eq_true, decide_eq_true_eq, reduceCtorEq, true_iff, false_iff, allIn]; first | (rintro ⟨⟨h7, h8⟩, _⟩; omega) | exact ⟨fun h9 => ⟨⟨by omega, by omega⟩, h9⟩, fun h9 => h9.2⟩), (Mem.none hM5_16)⟩
              · refine O.pass rfl rfl rfl rfl rfl ?_
                refine O.pass rfl rfl rfl rfl rfl ?_
                refine O.pass rfl rfl rfl rfl rfl ?_
                refine O.val (v := .bool (false)) rfl (Ru.pickF rfl rfl) rfl ?_
                refine O.val (v := .bool (false)) rfl (Ru.assign rfl) rfl ?_
                refine O.nil ?_
                refine C.ret ?_
                refine P1 (v := .bool (false)) rfl ?_
                exact ⟨(by rw [hfl, fit_y0' hvk h4 hai hr (V := (((T).l[(at0).toNat]'hx1_3)).v.l) (kl := ((((T).l[(at0).toNat]'hx1_3)).k.l).length) (cl := ((((T).l[(at0).toNat]'hx1_3)).c.l).length) rfl rfl rfl]; refine congrArg Value.bool ?_; rw [Bool.eq_iff_iff]; simp only [Bool.and_eq_true, decide_eq_true_eq, reduceCtorEq, true_iff, false_iff, allIn]; first | (rintro ⟨⟨h7, h8⟩, _⟩; omega) | exact ⟨fun h9 => ⟨⟨by omega, by omega⟩, h9⟩, fun h9 => h9.2⟩), (Mem.none hM2_15)⟩
            · refine O.pass rfl rfl rfl rfl rfl ?_
              refine O.pass rfl rfl rfl rfl rfl ?_
              refine O.pass rfl rfl rfl rfl rfl ?_
              refine O.pass rfl rfl rfl rfl rfl ?_
              refine O.pass rfl rfl rfl rfl rfl ?_
              refine O.pass rfl rfl rfl rfl rfl ?_
              refine O.pass rfl rfl rfl rfl rfl ?_
              refine O.val (v := .bool (false)) rfl (Ru.pickF rfl rfl) rfl ?_
              refine O.val (v := .bool (false)) rfl (Ru.move rfl) rfl ?_
              refine O.pass rfl rfl rfl rfl rfl ?_
              refine O.pass rfl rfl rfl rfl rfl ?_
              refine O.pass rfl rfl rfl rfl rfl ?_
              refine O.val (v := .bool (false)) rfl (Ru.pickF rfl rfl) rfl ?_
              refine O.val (v := .bool (false)) rfl (Ru.assign rfl) rfl ?_
              refine O.nil ?_
              refine C.ret ?_
              refine P1 (v := .bool (false)) rfl ?_
              exact ⟨(by rw [hfl, fit_y0' hvk h4 hai hr (V := (((T).l[(at0).toNat]'hx1_3)).v.l) (kl := ((((T).l[(at0).toNat]'hx1_3)).k.l).length) (cl := ((((T).l[(at0).toNat]'hx1_3)).c.l).length) rfl rfl rfl]; refine congrArg Value.bool ?_; rw [Bool.eq_iff_iff]; simp only [Bool.and_eq_true, decide_eq_true_eq, reduceCtorEq, true_iff, false_iff, allIn]; first | (rintro ⟨⟨h7, h8⟩, _⟩; omega) | exact ⟨fun h9 => ⟨⟨by omega, by omega⟩, h9⟩, fun h9 => h9.2⟩), (Mem.none hM2_15)⟩
          · have hn0 : n ≠ 0 := by omega
            refine C.skip ?_
            refine C.seq ?_
            refine C.seq ?_
            refine C.region ?_
            refine O.val (v := .pointer (ofs (bl b1_5) (0))) rfl (Ru.fieldA fl58_0 rfl rfl) rfl ?_
            refine O.val rfl (Ru.load1 el51 rfl ((hM2_15.rd 0 rfl).ld rfl)) rfl ?_
            refine O.val (v := I ((((((T).l)[(at0).toNat]'hx1_3).k.l.length : Nat) : Int))) rfl (Ru.blenSlice Tryd.underlying51 rfl) rfl ?_
            refine O.val (v := .bool (decide ((((((T).l)[(at0).toNat]'hx1_3).k.l.length : Nat) : Int) = 0))) rfl (Ru.eql rfl rfl) rfl ?_
            refine O.val (v := .bool (decide ((((((T).l)[(at0).toNat]'hx1_3).k.l.length : Nat) : Int) = 0))) rfl (Ru.move rfl) rfl ?_
            refine O.partp 74 ((((((T).l)[(at0).toNat]'hx1_3).k.l.length : Nat) : Int) = 0) rfl (fun g74 => ?_) (fun g74 => ?_)
            · refine O.pass rfl rfl rfl rfl rfl ?_
              refine O.pass rfl rfl rfl rfl rfl ?_
              refine O.pass rfl rfl rfl rfl rfl ?_
              refine O.pass rfl rfl rfl rfl rfl ?_
              refine O.val (v := .bool (true)) rfl (Ru.pickT rfl rfl) rfl ?_
              refine O.val (v := .bool (true)) rfl (Ru.move rfl) rfl ?_
              refine O.pass rfl rfl rfl rfl rfl ?_
              refine O.pass rfl rfl rfl rfl rfl ?_
              refine O.pass rfl rfl rfl rfl rfl ?_
              refine O.pass rfl rfl rfl rfl rfl ?_
              refine O.pass rfl rfl rfl rfl rfl ?_
              refine O.pass rfl rfl rfl rfl rfl ?_
              refine O.pass rfl rfl rfl rfl rfl ?_
              refine O.pass rfl rfl rfl rfl rfl ?_
              refine O.val (v := .bool (true)) rfl (Ru.pickT rfl rfl) rfl ?_
              refine O.val (v := .bool (true)) rfl (Ru.move rfl) rfl ?_
              refine O.pass rfl rfl rfl rfl rfl ?_
              refine O.pass rfl rfl rfl rfl rfl ?_
              refine O.pass rfl rfl rfl rfl rfl ?_
              refine O.pass rfl rfl rfl rfl rfl ?_
              refine O.pass rfl rfl rfl rfl rfl ?_
              refine O.pass rfl rfl rfl rfl rfl ?_
              refine O.pass rfl rfl rfl rfl rfl ?_
              refine O.pass rfl rfl rfl rfl rfl ?_
              refine O.val (v := .bool (true)) rfl (Ru.pickT rfl rfl) rfl ?_
              refine O.nil ?_
              refine C.condT rfl ?_
              refine C.seq ?_
              refine C.region ?_
              refine O.val (v := .bool (false)) rfl (Ru.assign rfl) rfl ?_
              refine O.nil ?_
              refine C.ret ?_
              refine P1 (v := .bool (false)) rfl ?_
              exact ⟨(by rw [hfl, fit_no (h0 := hn0) (by left; show ((((T).l[(at0).toNat]'hx1_3)).k.l).length = 0; omega)]), (Mem.none hM2_15)⟩
            · refine O.val (v := .pointer (ofs (bl b1_5) (2))) rfl (Ru.fieldA fl58_2 rfl rfl) rfl ?_
              refine O.val rfl (Ru.load1 el51 rfl ((hM2_15.rd 0 rfl).ld rfl)) rfl ?_
              refine O.val (v := I ((((((T).l)[(at0).toNat]'hx1_3).v.l.length : Nat) : Int))) rfl (Ru.blenSlice Tryd.underlying51 rfl) rfl ?_
              refine O.val (v := .bool (decide ((((((T).l)[(at0).toNat]'hx1_3).v.l.length : Nat) : Int) ≠ 0))) rfl (Ru.neq rfl rfl) rfl ?_
              refine O.val (v := .bool (decide ((((((T).l)[(at0).toNat]'hx1_3).v.l.length : Nat) : Int) ≠ 0))) rfl (Ru.pickF rfl rfl) rfl ?_
              refine O.val (v := .bool (decide ((((((T).l)[(at0).toNat]'hx1_3).v.l.length : Nat) : Int) ≠ 0))) rfl (Ru.move rfl) rfl ?_
              refine O.partp 80 ((((((T).l)[(at0).toNat]'hx1_3).v.l.length : Nat) : Int) ≠ 0) rfl (fun g80 => ?_) (fun g80 => ?_)
              · refine O.pass rfl rfl rfl rfl rfl ?_
                refine O.pass rfl rfl rfl rfl rfl ?_
                refine O.pass rfl rfl rfl rfl rfl ?_
                refine O.pass rfl rfl rfl rfl rfl ?_
                refine O.pass rfl rfl rfl rfl rfl ?_
                refine O.pass rfl rfl rfl rfl rfl ?_
                refine O.pass rfl rfl rfl rfl rfl ?_
                refine O.pass rfl rfl rfl rfl rfl ?_
                refine O.val (v := .bool (true)) rfl (Ru.pickT rfl rfl) rfl ?_
                refine O.val (v := .bool (true)) rfl (Ru.move rfl) rfl ?_
                refine O.pass rfl rfl rfl rfl rfl ?_
                refine O.pass rfl rfl rfl rfl rfl ?_
                refine O.pass rfl rfl rfl rfl rfl ?_
                refine O.pass rfl rfl rfl rfl rfl ?_
                refine O.pass rfl rfl rfl rfl rfl ?_
                refine O.pass rfl rfl rfl rfl rfl ?_
                refine O.pass rfl rfl rfl rfl rfl ?_
                refine O.pass rfl rfl rfl rfl rfl ?_
                refine O.val (v := .bool (true)) rfl (Ru.pickT rfl rfl) rfl ?_
                refine O.nil ?_
                refine C.condT rfl ?_
                refine C.seq ?_
                refine C.region ?_
                refine O.val (v := .bool (false)) rfl (Ru.assign rfl) rfl ?_
                refine O.nil ?_
                refine C.ret ?_
                refine P1 (v := .bool (false)) rfl ?_
                exact ⟨(by rw [hfl, fit_no (h0 := hn0) (by right; left; show ((((T).l[(at0).toNat]'hx1_3)).v.l).length ≠ 0; omega)]), (Mem.none hM2_15)⟩
              · refine O.val (v := .pointer (ofs (bl b1_5) (1))) rfl (Ru.fieldA fl58_1 rfl rfl) rfl ?_
                refine O.val rfl (Ru.load1 el51 rfl ((hM2_15.rd 0 rfl).ld rfl)) rfl ?_
                refine O.val (v := I ((((((T).l)[(at0).toNat]'hx1_3).c.l.length : Nat) : Int))) rfl (Ru.blenSlice Tryd.underlying51 rfl) rfl ?_
                refine O.val (v := .pointer (ofs (bl b1_5) (0))) rfl (Ru.fieldA fl58_0 rfl rfl) rfl ?_
                refine O.val rfl (Ru.load1 el51 rfl ((hM2_15.rd 0 rfl).ld rfl)) rfl ?_
                refine O.val (v := I ((((((T).l)[(at0).toNat]'hx1_3).k.l.length : Nat) : Int))) rfl (Ru.blenSlice Tryd.underlying51 rfl) rfl ?_
                refine O.val (v := I (((((((T).l)[(at0).toNat]'hx1_3).k.l.length + 1) : Nat) : Int))) rfl (Ru.congr (v := I (((((((T).l)[(at0).toNat]'hx1_3).k.l.length : Nat) : Int) + 1))) (v' := I (((((((T).l)[(at0).toNat]'hx1_3).k.l.length + 1) : Nat) : Int))) (Ru.add rfl rfl (by omega)) (I_congr (by first | omega | simp))) rfl ?_
                refine O.val (v := .bool (decide ((((((T).l)[(at0).toNat]'hx1_3).c.l.length : Nat) : Int) ≠ ((((((T).l)[(at0).toNat]'hx1_3).k.l.length + 1) : Nat) : Int)))) rfl (Ru.neq rfl rfl) rfl ?_
                refine O.val (v := .bool (decide ((((((T).l)[(at0).toNat]'hx1_3).c.l.length : Nat) : Int) ≠ ((((((T).l)[(at0).toNat]'hx1_3).k.l.length + 1) : Nat) : Int)))) rfl (Ru.pickF rfl rfl) rfl ?_
                refine O.val (v := .bool (decide ((((((T).l)[(at0).toNat]'hx1_3).c.l.length : Nat) : Int) ≠ ((((((T).l)[(at0).toNat]'hx1_3).k.l.length + 1) : Nat) : Int)))) rfl (Ru.move rfl) rfl ?_
                refine O.partp 90 ((((((T).l)[(at0).toNat]'hx1_3).c.l.length : Nat) : Int) ≠ ((((((T).l)[(at0).toNat]'hx1_3).k.l.length + 1) : Nat) : Int)) rfl (fun g90 => ?_) (fun g90 => ?_)
                · refine O.pass rfl rfl rfl rfl rfl ?_
                  refine O.pass rfl rfl rfl rfl rfl ?_
                  refine O.pass rfl rfl rfl rfl rfl ?_
                  refine O.pass rfl rfl rfl rfl rfl ?_
                  refine O.pass rfl rfl rfl rfl rfl ?_
                  refine O.pass rfl rfl rfl rfl rfl ?_
                  refine O.pass rfl rfl rfl rfl rfl ?_
                  refine O.pass rfl rfl rfl rfl rfl ?_
                  refine O.val (v := .bool (true)) rfl (Ru.pickT rfl rfl) rfl ?_
                  refine O.nil ?_
                  refine C.condT rfl ?_
                  refine C.seq ?_
                  refine C.region ?_
                  refine O.val (v := .bool (false)) rfl (Ru.assign rfl) rfl ?_
                  refine O.nil ?_
                  refine C.ret ?_
                  refine P1 (v := .bool (false)) rfl ?_
                  exact ⟨(by rw [hfl, fit_no (h0 := hn0) (by right; right; left; show ((((T).l[(at0).toNat]'hx1_3)).c.l).length ≠ ((((T).l[(at0).toNat]'hx1_3)).k.l).length + 1; omega)]), (Mem.none hM2_15)⟩
                · refine O.val (v := .pointer (ofs (bl b1_5) (1))) rfl (Ru.fieldA fl58_1 rfl rfl) rfl ?_
                  refine O.val rfl (Ru.load1 el51 rfl ((hM2_15.rd 0 rfl).ld rfl)) rfl ?_
                  refine O.val (v := .pointer (ofs (bl b0_0) (1))) rfl (Ru.fieldA fl39_1 rfl rfl) rfl ?_
                  refine O.val rfl (Ru.load1 el37 rfl ((hM2_15.rd 1 rfl).ld rfl)) rfl ?_
                  refine O.val (v := I ((((T).l.length : Nat) : Int))) rfl (Ru.blenSlice Tryd.underlying37 rfl) rfl ?_
                  refine O.val (v := I (((((T).l.length : Nat) : Int) - 1))) rfl (Ru.sub rfl rfl (by omega)) rfl ?_
                  refine O.callg [.slice ((((T).l)[(at0).toNat]'hx1_3).c.A) (((((T).l)[(at0).toNat]'hx1_3).c.l).length) ((((T).l)[(at0).toNat]'hx1_3).c.cp), I (0), I (((((T).l.length : Nat) : Int) - 1))] rfl en110 (by first | rfl | (rw [show ((((T).l)[(at0).toNat]'hx1_3).c.l).length = (((T).l)[(at0).toNat]'hx1_3).c.l.length from (by first | rfl | (simp; done) | omega | (simp; omega))]; rfl)) rfl (allIn_fn ((((T).l)[(at0).toNat]'hx1_3).c.A) ((((T).l)[(at0).toNat]'hx1_3).c.cp) ((((T).l)[(at0).toNat]'hx1_3).c.l) 0 ((((T).l.length : Nat) : Int) - 1) w2_15 (((hNT.at hM2_15)).2.get hx1_3).2.1 (by omega)) ?_
                  rintro _ w6_27 ⟨rfl, hR6_27⟩
                  have hM6_27 : Mem w w6_27 [] [[⟨.slice (bl b1_5) 1 1, 58, 3, 1, [.slice ((((T).l)[(at0).toNat]'hx1_3).k.A) ((((T).l)[(at0).toNat]'hx1_3).k.l.length) ((((T).l)[(at0).toNat]'hx1_3).k.cp), .slice ((((T).l)[(at0).toNat]'hx1_3).c.A) ((((T).l)[(at0).toNat]'hx1_3).c.l.length) ((((T).l)[(at0).toNat]'hx1_3).c.cp), .slice ((((T).l)[(at0).toNat]'hx1_3).v.A) ((((T).l)[(at0).toNat]'hx1_3).v.l.length) ((((T).l)[(at0).toNat]'hx1_3).v.cp)]⟩], [⟨.slice (bl b0_0) 1 1, 39, 2, 1, [I ((T).root), .slice ((T).A) ((T).l.length) ((T).cp)]⟩]] := Mem.call (Ma := []) hM2_15 hR6_27 rfl
                  refine O.val (v := .bool (!(((((T).l)[(at0).toNat]'hx1_3).c.l).all (fun a => decide (0 ≤ a) && decide (a ≤ ((((T).l.length : Nat) : Int) - 1)))))) rfl (Ru.not rfl) rfl ?_
                  refine O.val (v := .bool (!(((((T).l)[(at0).toNat]'hx1_3).c.l).all (fun a => decide (0 ≤ a) && decide (a ≤ ((((T).l.length : Nat) : Int) - 1)))))) rfl (Ru.pickF rfl rfl) rfl ?_
                  refine O.nil ?_
                  refine C.condn (b := (((((T).l)[(at0).toNat]'hx1_3).c.l).all (fun a => decide (0 ≤ a) && decide (a ≤ ((((T).l.length : Nat) : Int) - 1))))) rfl (fun c99 => ?_) (fun c99 => ?_)
                  · refine C.seq ?_
                    refine C.region ?_
                    refine O.val (v := .bool (false)) rfl (Ru.assign rfl) rfl ?_
                    refine O.nil ?_
                    refine C.ret ?_
                    refine P1 (v := .bool (false)) rfl ?_
                    exact ⟨(by rw [hfl, fit_no (h0 := hn0) (by right; right; right; rw [pages_len]; show allIn ((((T).l[(at0).toNat]'hx1_3)).c.l) 0 _ = false; simp only [allIn]; simpa using c99)]), (Mem.none hM6_27)⟩
                  · refine C.skip ?_
                    refine C.seq ?_
                    refine C.seq ?_
                    have hyd := fit_yd (T := (T).t) (i := at0) hn0 hvk h4 hai hr (by show ((((T).l[(at0).toNat]'hx1_3)).k.l).length ≠ 0; omega) (by show ((((T).l[(at0).toNat]'hx1_3)).v.l).length = 0; omega) (by show ((((T).l[(at0).toNat]'hx1_3)).c.l).length = ((((T).l[(at0).toNat]'hx1_3)).k.l).length + 1; omega) (by rw [pages_len]; show allIn ((((T).l[(at0).toNat]'hx1_3)).c.l) 0 _ = true; simp only [allIn]; simpa using c99)
                    have hal : allIn ((((T).l[(at0).toNat]'hx1_3)).c.l) 0 (((T).l.length : Int) - 1) = true := by simp only [allIn]; simpa using c99
                    refine C.region ?_
                    refine O.val (v := I (0)) rfl (Ru.assign rfl) rfl ?_
                    refine O.nil ?_
                    refine C.block ?_
                    refine C.loop (ι := Nat) (fun k => ([(2, I (low)), (3, I (hi)), (4, I (dp)), (5, .pointer (ofs (bl b0_0) (0))), (11, .pointer (ofs (bl b1_5) (0))), (12, I (((k : Nat) : Int)))] : List (Nat × Value))) (fun k w_ => (k ≤ ((((T).l[(at0).toNat]'hx1_3)).c.l).length) ∧ ((List.range k).all (fun k9 => fitS (T).t n ((((T).l[(at0).toNat]'hx1_3)).c.l.getD k9 0) (lowK (((T).l[(at0).toNat]'hx1_3)).t low k9) (highK (((T).l[(at0).toNat]'hx1_3)).t (hi + 1) k9 - 1)) = true) ∧ (Mem w w_ [] [[⟨.slice (bl b1_5) 1 1, 58, 3, 1, [.slice ((((T).l)[(at0).toNat]'hx1_3).k.A) ((((T).l)[(at0).toNat]'hx1_3).k.l.length) ((((T).l)[(at0).toNat]'hx1_3).k.cp), .slice ((((T).l)[(at0).toNat]'hx1_3).c.A) ((((T).l)[(at0).toNat]'hx1_3).c.l.length) ((((T).l)[(at0).toNat]'hx1_3).c.cp), .slice ((((T).l)[(at0).toNat]'hx1_3).v.A) ((((T).l)[(at0).toNat]'hx1_3).v.l.length) ((((T).l)[(at0).toNat]'hx1_3).v.cp)]⟩], [⟨.slice (bl b0_0) 1 1, 39, 2, 1, [I ((T).root), .slice ((T).A) ((T).l.length) ((T).cp)]⟩]])) (fun k => ((((T).l[(at0).toNat]'hx1_3)).c.l).length - k) (0) (Has.cons rfl (Has.cons rfl (Has.cons rfl (Has.cons rfl (Has.cons rfl (Has.cons (I_congr (by first | rfl | omega | (simp; omega) | simp)) Has.nil)))))) ⟨(Nat.zero_le _), rfl, (hM6_27.pick [0, 1] (by decide) rfl)⟩ (fun k σ w_l9 hI => ?_)
                    try dsimp only at hI
                    obtain ⟨hi0_l9, hi1_l9, hM_l9⟩ := hI
                    refine C.seq ?_
                    refine C.seq ?_
                    refine C.region ?_
                    refine O.val (v := I (((k : Nat) : Int))) rfl (Ru.move rfl) rfl ?_
                    refine O.val (v := .pointer (ofs (bl b1_5) (1))) rfl (Ru.fieldA fl58_1 rfl rfl) rfl ?_
                    refine O.val rfl (Ru.load1 el51 rfl ((hM_l9.rd 0 rfl).ld rfl)) rfl ?_
                    refine O.val (v := I ((((((T).l)[(at0).toNat]'hx1_3).c.l.length : Nat) : Int))) rfl (Ru.blenSlice Tryd.underlying51 rfl) rfl ?_
                    refine O.val (v := .bool (decide (((k : Nat) : Int) < (((((T).l)[(at0).toNat]'hx1_3).c.l.length : Nat) : Int)))) rfl (Ru.lss rfl rfl) rfl ?_
                    refine O.nil ?_
                    refine C.cond (p := ((k : Nat) : Int) < (((((T).l)[(at0).toNat]'hx1_3).c.l.length : Nat) : Int)) rfl (fun c104 => ?_) (fun c104 => ?_)
                    · refine C.skip ?_
                      refine C.seq ?_
                      refine C.block ?_
                      refine C.seq ?_
                      refine C.region ?_
                      refine O.val (v := I (low)) rfl (Ru.move rfl) rfl ?_
                      refine O.val (v := I (low)) rfl (Ru.assign rfl) rfl ?_
                      refine O.nil ?_
                      refine C.seq ?_
                      refine C.region ?_
                      refine O.val (v := I (hi)) rfl (Ru.move rfl) rfl ?_
                      refine O.val (v := I (hi)) rfl (Ru.assign rfl) rfl ?_
                      refine O.nil ?_
                      refine C.cut (ι := Unit) (fun _u => ([(2, I (low)), (3, I (hi)), (4, I (dp)), (5, .pointer (ofs (bl b0_0) (0))), (11, .pointer (ofs (bl b1_5) (0))), (12, I (((k : Nat) : Int))), (13, I (lowK (((T).l[(at0).toNat]'hx1_3)).t low k)), (14, I (hi))] : List (Nat × Value))) (fun _u w_ => (Mem w w_ [] [[⟨.slice (bl b1_5) 1 1, 58, 3, 1, [.slice ((((T).l)[(at0).toNat]'hx1_3).k.A) ((((T).l)[(at0).toNat]'hx1_3).k.l.length) ((((T).l)[(at0).toNat]'hx1_3).k.cp), .slice ((((T).l)[(at0).toNat]'hx1_3).c.A) ((((T).l)[(at0).toNat]'hx1_3).c.l.length) ((((T).l)[(at0).toNat]'hx1_3).c.cp), .slice ((((T).l)[(at0).toNat]'hx1_3).v.A) ((((T).l)[(at0).toNat]'hx1_3).v.l.length) ((((T).l)[(at0).toNat]'hx1_3).v.cp)]⟩], [⟨.slice (bl b0_0) 1 1, 39, 2, 1, [I ((T).root), .slice ((T).A) ((T).l.length) ((T).cp)]⟩]])) ?_ (fun _ σ w_c110 hI => ?_)
                      · refine C.seq ?_
                        refine C.region ?_
                        refine O.val (v := I (((k : Nat) : Int))) rfl (Ru.move rfl) rfl ?_
                        refine O.val (v := .bool (decide (((k : Nat) : Int) > 0))) rfl (Ru.gtr rfl rfl) rfl ?_
                        refine O.nil ?_
                        refine C.cond (p := ((k : Nat) : Int) > 0) rfl (fun c110 => ?_) (fun c110 => ?_)
                        · refine C.region ?_
                          refine O.val (v := .pointer (ofs (bl b1_5) (0))) rfl (Ru.fieldA fl58_0 rfl rfl) rfl ?_
                          refine O.val rfl (Ru.load1 el51 rfl ((hM_l9.rd 0 rfl).ld rfl)) rfl ?_
                          refine O.val (v := I (((k : Nat) : Int))) rfl (Ru.move rfl) rfl ?_
                          refine O.val (v := I ((((k : Nat) : Int) - 1))) rfl (Ru.sub rfl rfl (by omega)) rfl ?_
                          have hx14_4 : k - 1 < ((((T).l)[(at0).toNat]'hx1_3).k.l).length := (by first | omega | (simp; omega))
                          refine O.val (v := .pointer (ofs ((((T).l)[(at0).toNat]'hx1_3).k.A) ((k - 1) * 1))) rfl (Ru.indexA (j := k - 1) Tryd.underlying51 el3 rfl rfl (smm (((hNT.at hM_l9)).2.get hx1_3).1 hx14_4) (by omega) (by omega)) rfl ?_
                          refine O.val rfl (Ru.load1 el3 rfl (ldm (((hNT.at hM_l9)).2.get hx1_3).1 hx14_4)) rfl ?_
                          refine O.val (v := I (((((T).l)[(at0).toNat]'hx1_3).k.l)[k - 1]'hx14_4)) rfl (Ru.assign rfl) rfl ?_
                          refine O.nil ?_
                          exact cutEnd () (Has.cons rfl (Has.cons rfl (Has.cons rfl (Has.cons rfl (Has.cons rfl (Has.cons rfl (Has.cons (I_congr (lowK_pos (by omega) (show k - 1 < (((T).l[(at0).toNat]'hx1_3)).t.keys.length from hx14_4)).symm) (Has.cons rfl Has.nil)))))))) (hM_l9.pick [0, 1] (by decide) rfl)
                        · refine C.skip ?_
                          exact cutEnd () (Has.cons rfl (Has.cons rfl (Has.cons rfl (Has.cons rfl (Has.cons rfl (Has.cons rfl (Has.cons (I_congr (lowK_zero (by omega)).symm) (Has.cons rfl Has.nil)))))))) (hM_l9.pick [0, 1] (by decide) rfl)
                      · try dsimp only at hI
                        have hM_c110 := hI
                        refine C.cut (ι := Unit) (fun _u => ([(2, I (low)), (3, I (hi)), (4, I (dp)), (5, .pointer (ofs (bl b0_0) (0))), (11, .pointer (ofs (bl b1_5) (0))), (12, I (((k : Nat) : Int))), (13, I (lowK (((T).l[(at0).toNat]'hx1_3)).t low k)), (14, I ((highK (((T).l[(at0).toNat]'hx1_3)).t (hi + 1) k - 1)))] : List (Nat × Value))) (fun _u w_ => (Mem w w_ [] [[⟨.slice (bl b1_5) 1 1, 58, 3, 1, [.slice ((((T).l)[(at0).toNat]'hx1_3).k.A) ((((T).l)[(at0).toNat]'hx1_3).k.l.length) ((((T).l)[(at0).toNat]'hx1_3).k.cp), .slice ((((T).l)[(at0).toNat]'hx1_3).c.A) ((((T).l)[(at0).toNat]'hx1_3).c.l.length) ((((T).l)[(at0).toNat]'hx1_3).c.cp), .slice ((((T).l)[(at0).toNat]'hx1_3).v.A) ((((T).l)[(at0).toNat]'hx1_3).v.l.length) ((((T).l)[(at0).toNat]'hx1_3).v.cp)]⟩], [⟨.slice (bl b0_0) 1 1, 39, 2, 1, [I ((T).root), .slice ((T).A) ((T).l.length) ((T).cp)]⟩]])) ?_ (fun _ σ w_c121 hI => ?_)
                        · refine C.seq ?_
                          refine C.region ?_
                          refine O.val (v := I (((k : Nat) : Int))) rfl (Ru.move rfl) rfl ?_
                          refine O.val (v := .pointer (ofs (bl b1_5) (0))) rfl (Ru.fieldA fl58_0 rfl rfl) rfl ?_
                          refine O.val rfl (Ru.load1 el51 rfl ((hM_c110.rd 0 rfl).ld rfl)) rfl ?_
                          refine O.val (v := I ((((((T).l)[(at0).toNat]'hx1_3).k.l.length : Nat) : Int))) rfl (Ru.blenSlice Tryd.underlying51 rfl) rfl ?_
                          refine O.val (v := .bool (decide (((k : Nat) : Int) < (((((T).l)[(at0).toNat]'hx1_3).k.l.length : Nat) : Int)))) rfl (Ru.lss rfl rfl) rfl ?_
                          refine O.nil ?_
                          refine C.cond (p := ((k : Nat) : Int) < (((((T).l)[(at0).toNat]'hx1_3).k.l.length : Nat) : Int)) rfl (fun c121 => ?_) (fun c121 => ?_)
                          · refine C.region ?_
                            refine O.val (v := .pointer (ofs (bl b1_5) (0))) rfl (Ru.fieldA fl58_0 rfl rfl) rfl ?_
                            refine O.val rfl (Ru.load1 el51 rfl ((hM_c110.rd 0 rfl).ld rfl)) rfl ?_
                            refine O.val (v := I (((k : Nat) : Int))) rfl (Ru.move rfl) rfl ?_
                            have hx16_3 : k < ((((T).l)[(at0).toNat]'hx1_3).k.l).length := (by first | omega | (simp; omega))
                            refine O.val (v := .pointer (ofs ((((T).l)[(at0).toNat]'hx1_3).k.A) (k * 1))) rfl (Ru.indexA (j := k) Tryd.underlying51 el3 rfl rfl (smm (((hNT.at hM_c110)).2.get hx1_3).1 hx16_3) (by omega) (by first | omega | (simp; omega))) rfl ?_
                            have hkb := validK_bd (show validK ((((T).l[(at0).toNat]'hx1_3)).k.l) = true from hvk) hx16_3
                            refine O.val rfl (Ru.load1 el3 rfl (ldm (((hNT.at hM_c110)).2.get hx1_3).1 hx16_3)) rfl ?_
                            refine O.val (v := I ((((((T).l)[(at0).toNat]'hx1_3).k.l)[k]'hx16_3 - 1))) rfl (Ru.sub rfl rfl (by omega)) rfl ?_
                            refine O.val (v := I ((((((T).l)[(at0).toNat]'hx1_3).k.l)[k]'hx16_3 - 1))) rfl (Ru.assign rfl) rfl ?_
                            refine O.nil ?_
                            exact cutEnd () (Has.cons rfl (Has.cons rfl (Has.cons rfl (Has.cons rfl (Has.cons rfl (Has.cons rfl (Has.cons rfl (Has.cons (I_congr (by rw [highK_in (show k < (((T).l[(at0).toNat]'hx1_3)).t.keys.length from hx16_3)]; rfl)) Has.nil)))))))) (hM_c110.pick [0, 1] (by decide) rfl)
                          · refine C.skip ?_
                            exact cutEnd () (Has.cons rfl (Has.cons rfl (Has.cons rfl (Has.cons rfl (Has.cons rfl (Has.cons rfl (Has.cons rfl (Has.cons (I_congr (by rw [highK_end (show ¬ k < (((T).l[(at0).toNat]'hx1_3)).t.keys.length from (by show ¬ k < ((((T).l[(at0).toNat]'hx1_3)).k.l).length; omega))]; omega)) Has.nil)))))))) (hM_c110.pick [0, 1] (by decide) rfl)
                        · try dsimp only at hI
                          have hM_c121 := hI
                          refine C.seq ?_
                          refine C.draws (fun w2 => Mem w w2 [] [[⟨.slice (bl b1_5) 1 1, 58, 3, 1, [.slice ((((T).l)[(at0).toNat]'hx1_3).k.A) ((((T).l)[(at0).toNat]'hx1_3).k.l.length) ((((T).l)[(at0).toNat]'hx1_3).k.cp), .slice ((((T).l)[(at0).toNat]'hx1_3).c.A) ((((T).l)[(at0).toNat]'hx1_3).c.l.length) ((((T).l)[(at0).toNat]'hx1_3).c.cp), .slice ((((T).l)[(at0).toNat]'hx1_3).v.A) ((((T).l)[(at0).toNat]'hx1_3).v.l.length) ((((T).l)[(at0).toNat]'hx1_3).v.cp)]⟩], [⟨.slice (bl b0_0) 1 1, 39, 2, 1, [I ((T).root), .slice ((T).A) ((T).l.length) ((T).cp)]⟩]]) mixed (by kernel_rfl) (hM_c121.ext (kdrawn _)) ?_
                          refine QO.val rfl (fun w2 hw2 => Ru.loadN (vs := [I ((T).root), .slice ((T).A) ((T).l.length) ((T).cp)]) el39 rfl rfl rfl ((mem_blk (i := 1) (j := 0) hw2 rfl rfl).lds (k := 0) rfl)) rfl ?_
                          refine QO.val (v := .pointer (ofs (bl b1_5) (1))) rfl (fun w2 hw2 => Ru.fieldA fl58_1 rfl rfl) rfl ?_
                          refine QO.val rfl (fun w2 hw2 => Ru.load1 el51 rfl ((hw2.rd 0 rfl).ld rfl)) rfl ?_
                          refine QO.val (v := I (((k : Nat) : Int))) rfl (fun w2 hw2 => Ru.move rfl) rfl ?_
                          have hx17_4 : k < ((((T).l)[(at0).toNat]'hx1_3).c.l).length := (by first | omega | (simp; omega))
                          refine QO.val (v := .pointer (ofs ((((T).l)[(at0).toNat]'hx1_3).c.A) (k * 1))) rfl (fun w2 hw2 => Ru.indexA (j := k) Tryd.underlying51 el3 rfl rfl (smm (((hNT.at hw2)).2.get hx1_3).2.1 hx17_4) (by omega) (by first | omega | (simp; omega))) rfl ?_
                          have hrg := allIn_get hal hx17_4
                          refine QO.val rfl (fun w2 hw2 => Ru.load1 el3 rfl (ldm (((hNT.at hw2)).2.get hx1_3).2.1 hx17_4)) rfl ?_
                          refine QO.val (v := I (lowK (((T).l[(at0).toNat]'hx1_3)).t low k)) rfl (fun w2 hw2 => Ru.move rfl) rfl ?_
                          refine QO.val (v := I ((highK (((T).l[(at0).toNat]'hx1_3)).t (hi + 1) k - 1))) rfl (fun w2 hw2 => Ru.move rfl) rfl ?_
                          refine QO.val (v := I (dp)) rfl (fun w2 hw2 => Ru.move rfl) rfl ?_
                          refine QO.val (v := I ((dp - 1))) rfl (fun w2 hw2 => Ru.sub rfl rfl (by omega)) rfl ?_
                          refine QO.callg (v := .bool (fitS (T).t n (((((T).l)[(at0).toNat]'hx1_3).c.l)[k]'hx17_4) (lowK (((T).l[(at0).toNat]'hx1_3)).t low k) (highK (((T).l[(at0).toNat]'hx1_3)).t (hi + 1) k - 1))) [.agg #[I ((T).root), .slice ((T).A) ((T).l.length) ((T).cp)], I (((((T).l)[(at0).toNat]'hx1_3).c.l)[k]'hx17_4), I (lowK (((T).l[(at0).toNat]'hx1_3)).t low k), I ((highK (((T).l[(at0).toNat]'hx1_3)).t (hi + 1) k - 1)), I ((dp - 1))] rfl en89 rfl rfl (fun w2 hw2 => (ih_fn T (((((T).l)[(at0).toNat]'hx1_3).c.l)[k]'hx17_4) (lowK (((T).l[(at0).toNat]'hx1_3)).t low k) (highK (((T).l[(at0).toNat]'hx1_3)).t (hi + 1) k - 1) (dp - 1) w2 (hNT.at hw2) (by first | omega | assumption | (simp; omega) | simp | (intros; omega)) (by omega) (by omega) (by omega) (by omega)).mono fun _ _ h => ⟨h.1, Mem.call0 hw2 h.2⟩) ?_
                          refine QO.val (v := .bool (!(fitS (T).t n (((((T).l)[(at0).toNat]'hx1_3).c.l)[k]'hx17_4) (lowK (((T).l[(at0).toNat]'hx1_3)).t low k) (highK (((T).l[(at0).toNat]'hx1_3)).t (hi + 1) k - 1)))) rfl (fun w2 hw2 => Ru.not rfl) rfl ?_
                          refine QO.nil ?_
                          intro w17d hM17d
                          refine C.condn (b := (fitS (T).t n (((((T).l)[(at0).toNat]'hx1_3).c.l)[k]'hx17_4) (lowK (((T).l[(at0).toNat]'hx1_3)).t low k) (highK (((T).l[(at0).toNat]'hx1_3)).t (hi + 1) k - 1))) rfl (fun c139 => ?_) (fun c139 => ?_)
                          · have hf1 : (fun k9 => fitS (T).t n ((((T).l[(at0).toNat]'hx1_3)).c.l.getD k9 0) (lowK (((T).l[(at0).toNat]'hx1_3)).t low k9) (highK (((T).l[(at0).toNat]'hx1_3)).t (hi + 1) k9 - 1)) k = false := by show fitS _ _ _ _ _ = false; rw [getD_in (show k < (((T).l[(at0).toNat]'hx1_3)).c.l.length from hx17_4)]; simpa using c139
                            refine C.seq ?_
                            refine C.region ?_
                            refine O.val (v := .bool (false)) rfl (Ru.assign rfl) rfl ?_
                            refine O.nil ?_
                            refine C.ret ?_
                            refine P1 (v := .bool (false)) rfl ?_
                            exact ⟨(by rw [hfl, hyd]; exact congrArg Value.bool (range_bad (p := fun k9 => fitS (T).t n ((((T).l[(at0).toNat]'hx1_3)).c.l.getD k9 0) (lowK (((T).l[(at0).toNat]'hx1_3)).t low k9) (highK (((T).l[(at0).toNat]'hx1_3)).t (hi + 1) k9 - 1)) hx17_4 hf1).symm), (Mem.none hM17d)⟩
                          · have hf1 : (fun k9 => fitS (T).t n ((((T).l[(at0).toNat]'hx1_3)).c.l.getD k9 0) (lowK (((T).l[(at0).toNat]'hx1_3)).t low k9) (highK (((T).l[(at0).toNat]'hx1_3)).t (hi + 1) k9 - 1)) k = true := by show fitS _ _ _ _ _ = true; rw [getD_in (show k < (((T).l[(at0).toNat]'hx1_3)).c.l.length from hx17_4)]; simpa using c139
                            refine C.skip ?_
                            refine C.region ?_
                            refine O.val (v := I (((k : Nat) : Int))) rfl (Ru.move rfl) rfl ?_
                            refine O.val (v := I ((((k + 1) : Nat) : Int))) rfl (Ru.congr (v := I ((((k : Nat) : Int) + 1))) (v' := I ((((k + 1) : Nat) : Int))) (Ru.add rfl rfl (by omega)) (I_congr (by first | omega | simp))) rfl ?_
                            refine O.val (v := I ((((k + 1) : Nat) : Int))) rfl (Ru.assign rfl) rfl ?_
                            refine O.nil ?_
                            exact loopEnd (k + 1) (by (try dsimp only); omega) (Has.cons rfl (Has.cons rfl (Has.cons rfl (Has.cons rfl (Has.cons rfl (Has.cons (I_congr (by first | rfl | omega | (simp; omega) | simp)) Has.nil)))))) ⟨(by (try dsimp only); omega), (range_all hi1_l9 hf1), (hM17d.pick [0, 1] (by decide) rfl)⟩
                    · refine C.exit ?_
                      refine C.seq ?_
                      refine C.region ?_
                      refine O.val (v := .bool (true)) rfl (Ru.assign rfl) rfl ?_
                      refine O.nil ?_
                      refine C.ret ?_
                      refine P1 (v := .bool (true)) rfl ?_
                      exact ⟨(by rw [hfl, hyd, show (((T).l[(at0).toNat]'hx1_3)).t.kids.length = k from (by show ((((T).l[(at0).toNat]'hx1_3)).c.l).length = k; omega)]; exact congrArg Value.bool hi1_l9.symm), (Mem.none hM_l9)⟩

theorem pageFits_fn : ∀ (n : Nat), ∀ (T : TreeL) (at0 : Int) (low : Int) (hi : Int) (dp : Int) (w : World) (hNT : TrN w T) (hs : SzT T) (hat : 0 ≤ at0 ∧ at0 < ((T).l.length : Int)) (hd : dp = (n : Int)) (h1 : 1 ≤ n) (h3 : n ≤ 3), Does Tryd.prog 89 [.agg #[I ((T).root), .slice ((T).A) ((T).l.length) ((T).cp)], I (at0), I (low), I (hi), I (dp)] w (fun v w1 => v = .bool (fitS (T).t n at0 low hi) ∧ Mem w w1 [] []) := by
  intro n
  induction n with
  | zero => exact pageFits0_fn
  | succ n ih => exact pageFitsS_fn n ih

theorem walk0_fn : ∀ (T : TreeL) (at0 : Int) (lo : Int) (hi : Int) (w : World) (hNT : TrN w T) (hs : SzT T) (hok : okB (T).t 0 at0 lo hi = true) (h3 : 0 ≤ 3), Does Tryd.prog 90 [.agg #[I ((T).root), .slice ((T).A) ((T).l.length) ((T).cp)], I (at0)] w (fun v w1 => ∃ (A1 : Option Addr) (c1 : Nat), v = .slice (A1) (((subT (T).t 0 at0)).length) (c1) ∧ Mem w w1 [] [[⟨.slice (A1) (((subT (T).t 0 at0)).length) (c1), 3, 1, (((subT (T).t 0 at0)).length), ((subT (T).t 0 at0)).map I⟩]]) := by
  intro T at0 lo hi w hNT hs hok h3; simp [okB] at hok

theorem walkS_fn (n : Nat) (ih_fn : ∀ (T : TreeL) (at0 : Int) (lo : Int) (hi : Int) (w : World) (hNT : TrN w T) (hs : SzT T) (hok : okB (T).t n at0 lo hi = true) (h3 : n ≤ 3), Does Tryd.prog 90 [.agg #[I ((T).root), .slice ((T).A) ((T).l.length) ((T).cp)], I (at0)] w (fun v w1 => ∃ (A1 : Option Addr) (c1 : Nat), v = .slice (A1) (((subT (T).t n at0)).length) (c1) ∧ Mem w w1 [] [[⟨.slice (A1) (((subT (T).t n at0)).length) (c1), 3, 1, (((subT (T).t n at0)).length), ((subT (T).t n at0)).map I⟩]])) (T : TreeL) (at0 : Int) (lo : Int) (hi : Int) (w : World) (hNT : TrN w T) (hs : SzT T) (hok : okB (T).t (n + 1) at0 lo hi = true) (h3 : (n + 1) ≤ 3) :
    Does Tryd.prog 90 [.agg #[I ((T).root), .slice ((T).A) ((T).l.length) ((T).cp)], I (at0)] w (fun v w1 => ∃ (A1 : Option Addr) (c1 : Nat), v = .slice (A1) (((subT (T).t (n + 1) at0)).length) (c1) ∧ Mem w w1 [] [[⟨.slice (A1) (((subT (T).t (n + 1) at0)).length) (c1), 3, 1, (((subT (T).t (n + 1) at0)).length), ((subT (T).t (n + 1) at0)).map I⟩]]) := by
  have hM : Mem w w [] [] := Mem.refl
  refine Does.enter1 Tryd.func90 rfl Tryd.results90 Tryd.ntmps90 rfl ?_
  refine C.seq ?_
  have hat := inT_t.1 (okB_in hok)
  have hjx : (at0).toNat < (T).l.length := by omega
  have hki : (gP (T).t at0).kids = ((T).l[(at0).toNat]'hjx).c.l := by rw [gP_at rfl hjx]; rfl
  have hsz := hs.at hjx
  have hsl := sub_len3 hok h3
  have hse : subT (T).t (n + 1) at0 = at0 :: ((T).l[(at0).toNat]'hjx).c.l.flatMap (subT (T).t n) := by simp only [subT]; rw [hki]
  refine C.region ?_
  refine O.mbox (k := 2) (vs := [I ((T).root), .slice ((T).A) ((T).l.length) ((T).cp)]) hM rfl rfl rfl rfl rfl (fun w0_0 b0_0 hb0_0 (hM0_0 : Mem w w0_0 [] [[⟨.slice (bl b0_0) 1 1, 39, 2, 1, [I ((T).root), .slice ((T).A) ((T).l.length) ((T).cp)]⟩]]) => ?_)
  refine O.val (v := .slice (none) (0) (0)) rfl (Ru.assign rfl) rfl ?_
  refine O.nil ?_
  refine C.seq ?_
  refine C.region ?_
  refine O.val (v := I (at0)) rfl (Ru.move rfl) rfl ?_
  refine O.mlit (sz := 1) (cs := [I (at0)]) hM0_0 rfl Tryd.underlying51 el3 rfl rfl rfl (by kernel_rfl) (by kernel_rfl) rfl rfl (fun w1_1 b1_1 hb1_1 (hM1_1 : Mem w w1_1 [] [[⟨.slice (bl b1_1) (1) (1), 3, 1, 1, ([at0]).map I⟩], [⟨.slice (bl b0_0) 1 1, 39, 2, 1, [I ((T).root), .slice ((T).A) ((T).l.length) ((T).cp)]⟩]]) => ?_)
  refine O.val (v := .slice (bl b1_1) (1) (1)) rfl (Ru.assign rfl) rfl ?_
  refine O.nil ?_
  refine C.seq ?_
  refine C.seq ?_
  refine C.region ?_
  refine O.val (v := I (0)) rfl (Ru.assign rfl) rfl ?_
  refine O.nil ?_
  refine C.block ?_
  have hq1 : ([at0] : List Int) = at0 :: ((((T).l[(at0).toNat]'hjx).c.l).take 0).flatMap (subT (T).t n) := (by simp)
  have hMn1 : Mem w w1_1 [] [[⟨.slice (bl b1_1) ((at0 :: ((((T).l[(at0).toNat]'hjx).c.l).take 0).flatMap (subT (T).t n)).length) (1), 3, 1, ((at0 :: ((((T).l[(at0).toNat]'hjx).c.l).take 0).flatMap (subT (T).t n)).length), (at0 :: ((((T).l[(at0).toNat]'hjx).c.l).take 0).flatMap (subT (T).t n)).map I⟩], [⟨.slice (bl b0_0) 1 1, 39, 2, 1, [I ((T).root), .slice ((T).A) ((T).l.length) ((T).cp)]⟩]] := hM1_1.relen 0 (n' := (at0 :: ((((T).l[(at0).toNat]'hjx).c.l).take 0).flatMap (subT (T).t n)).length) (xs' := (at0 :: ((((T).l[(at0).toNat]'hjx).c.l).take 0).flatMap (subT (T).t n)).map I) rfl (by first | rfl | exact congrArg List.length hq1 | (have hqq := congrArg List.length hq1; first | omega | (simp at hqq ⊢; omega)) | (simp; done) | (simp; omega)) (congrArg (fun z_ => (z_).map I) hq1) rfl
  refine C.loop (ι := Nat × (Option Addr) × Nat) (fun x_ => ([(1, I (at0)), (2, .pointer (ofs (bl b0_0) (0))), (5, .slice (x_.2.1) ((at0 :: ((((T).l[(at0).toNat]'hjx).c.l).take x_.1).flatMap (subT (T).t n)).length) (x_.2.2)), (6, I (((x_.1 : Nat) : Int)))] : List (Nat × Value))) (fun x_ w_ => (x_.1 ≤ (((T).l[(at0).toNat]'hjx).c.l).length) ∧ (Mem w w_ [] [[⟨.slice (x_.2.1) ((at0 :: ((((T).l[(at0).toNat]'hjx).c.l).take x_.1).flatMap (subT (T).t n)).length) (x_.2.2), 3, 1, ((at0 :: ((((T).l[(at0).toNat]'hjx).c.l).take x_.1).flatMap (subT (T).t n)).length), (at0 :: ((((T).l[(at0).toNat]'hjx).c.l).take x_.1).flatMap (subT (T).t n)).map I⟩], [⟨.slice (bl b0_0) 1 1, 39, 2, 1, [I ((T).root), .slice ((T).A) ((T).l.length) ((T).cp)]⟩]])) (fun x_ => (((T).l[(at0).toNat]'hjx).c.l).length - x_.1) (0, bl b1_1, 1) (Has.cons rfl (Has.cons rfl (Has.cons (sl_congr (by first | rfl | omega | (simp; done) | (simp; omega) | exact congrArg List.length hq1 | (simp [← hq1]; done) | (simp [← hq1]; omega))) (Has.cons (I_congr (by first | rfl | omega | (simp; omega) | simp)) Has.nil)))) ⟨(Nat.zero_le _), (hMn1.pick [0, 1] (by decide) rfl)⟩ (fun ⟨k, A2, c2⟩ σ w_l3 hI => ?_)
  try dsimp only at hI
  obtain ⟨hi0_l3, hM_l3⟩ := hI
  have hcl0_l3 := (hM_l3.cap 0 rfl).1
  refine C.seq ?_
  refine C.seq ?_
  refine C.region ?_
  refine O.val (v := I (((k : Nat) : Int))) rfl (Ru.move rfl) rfl ?_
  refine O.val (v := .pointer (ofs (bl b0_0) (1))) rfl (Ru.fieldA fl39_1 rfl rfl) rfl ?_
  refine O.val rfl (Ru.load1 el37 rfl ((hM_l3.rd 1 rfl).ld rfl)) rfl ?_
  refine O.val (v := I (at0)) rfl (Ru.move rfl) rfl ?_
  have hx3_4 : (at0).toNat < ((T).l).length := (by first | omega | (simp; omega))
  refine O.val (v := .pointer (ofs ((T).A) (((at0).toNat) * 3))) rfl (Ru.indexA (j := (at0).toNat) Tryd.underlying37 el58 rfl rfl (smf encPg_len (hNT.at hM_l3).1 hx3_4 rfl) (by omega) (by first | omega | (simp; omega))) rfl ?_
  refine O.val (v := .pointer (ofs ((T).A) (((at0).toNat) * 3 + 1))) rfl (Ru.fieldA fl58_1 rfl (smf encPg_len (hNT.at hM_l3).1 hx3_4 rfl)) rfl ?_
  refine O.val rfl (Ru.load1 el51 rfl (ldf encPg_len (hNT.at hM_l3).1 hx3_4 rfl)) rfl ?_
  refine O.val (v := I ((((((T).l)[(at0).toNat]'hx3_4).c.l.length : Nat) : Int))) rfl (Ru.blenSlice Tryd.underlying51 rfl) rfl ?_
  refine O.val (v := .bool (decide (((k : Nat) : Int) < (((((T).l)[(at0).toNat]'hx3_4).c.l.length : Nat) : Int)))) rfl (Ru.lss rfl rfl) rfl ?_
  refine O.nil ?_
  refine C.cond (p := ((k : Nat) : Int) < (((((T).l)[(at0).toNat]'hx3_4).c.l.length : Nat) : Int)) rfl (fun c17 => ?_) (fun c17 => ?_)
  · refine C.skip ?_
    refine C.seq ?_
    refine C.block ?_
    refine C.any (f := 14) (ls := [false, false, false, false, false, false, false, false, false, false, false, false, false, false]) (fun w2 => Mem w w2 [] [[⟨.slice (bl b0_0) 1 1, 39, 2, 1, [I ((T).root), .slice ((T).A) ((T).l.length) ((T).cp)]⟩]]) mixed rfl rfl (fun w2 hw2 => Mem0.ext (hM_l3.pick [1] (by decide) rfl) hw2) (fun w5a hE5a => ?_)
    have hM5a : Mem w w5a [] [[⟨.slice (A2) ((at0 :: ((((T).l[(at0).toNat]'hjx).c.l).take k).flatMap (subT (T).t n)).length) (c2), 3, 1, ((at0 :: ((((T).l[(at0).toNat]'hjx).c.l).take k).flatMap (subT (T).t n)).length), (at0 :: ((((T).l[(at0).toNat]'hjx).c.l).take k).flatMap (subT (T).t n)).map I⟩], [⟨.slice (bl b0_0) 1 1, 39, 2, 1, [I ((T).root), .slice ((T).A) ((T).l.length) ((T).cp)]⟩]] := Mem0.ext hM_l3 hE5a
    refine AO.val (v := .slice (A2) ((at0 :: ((((T).l[(at0).toNat]'hjx).c.l).take k).flatMap (subT (T).t n)).length) (c2)) 0 (ls' := [true, false, false, false, false, false, false, false, false, false, false, false, false, false]) rfl (by kernel_rfl) rfl rfl (fun w2 hw2 => Ru.move rfl) rfl ?_
    refine AO.val (v := .agg #[I ((T).root), .slice ((T).A) ((T).l.length) ((T).cp)]) 1 (ls' := [true, true, false, false, false, false, false, false, false, false, false, false, false, false]) rfl (by kernel_rfl) rfl rfl (fun w2 hw2 => Ru.loadN (vs := [I ((T).root), .slice ((T).A) ((T).l.length) ((T).cp)]) el39 rfl rfl rfl ((mem_blk (i := 0) (j := 0) hw2 rfl rfl).lds (k := 0) rfl)) rfl ?_
    refine AO.val (v := .pointer (ofs (bl b0_0) (1))) 2 (ls' := [true, true, true, false, false, false, false, false, false, false, false, false, false, false]) rfl (by kernel_rfl) rfl rfl (fun w2 hw2 => Ru.fieldA fl39_1 rfl rfl) rfl ?_
    refine AO.val (v := .slice ((T).A) ((T).l.length) ((T).cp)) 3 (ls' := [true, true, true, true, false, false, false, false, false, false, false, false, false, false]) rfl (by kernel_rfl) rfl rfl (fun w2 hw2 => Ru.load1 el37 rfl ((hw2.rd 0 rfl).ld rfl)) rfl ?_
    refine AO.val (v := I (at0)) 4 (ls' := [true, true, true, true, true, false, false, false, false, false, false, false, false, false]) rfl (by kernel_rfl) rfl rfl (fun w2 hw2 => Ru.move rfl) rfl ?_
    have hx5_5 : (at0).toNat < ((T).l).length := (by first | omega | (simp; omega))
    refine AO.val (v := .pointer (ofs ((T).A) (((at0).toNat) * 3))) 5 (ls' := [true, true, true, true, true, true, false, false, false, false, false, false, false, false]) rfl (by kernel_rfl) rfl rfl (fun w2 hw2 => Ru.indexA (j := (at0).toNat) Tryd.underlying37 el58 rfl rfl (smf encPg_len (hNT.at hM5a).1 hx5_5 rfl) (by omega) (by first | omega | (simp; omega))) rfl ?_
    refine AO.val (v := .pointer (ofs ((T).A) (((at0).toNat) * 3 + 1))) 6 (ls' := [true, true, true, true, true, true, true, false, false, false, false, false, false, false]) rfl (by kernel_rfl) rfl rfl (fun w2 hw2 => Ru.fieldA fl58_1 rfl (smf encPg_len (hNT.at hM5a).1 hx5_5 rfl)) rfl ?_
    refine AO.val (v := I (((k : Nat) : Int))) 8 (ls' := [true, true, true, true, true, true, true, false, true, false, false, false, false, false]) rfl (by kernel_rfl) rfl rfl (fun w2 hw2 => Ru.move rfl) rfl ?_
    refine AO.one 7 (by kernel_rfl) ?_
    refine step1 (ls' := [true, true, true, true, true, true, true, true, true, false, false, false, false, false]) rfl rfl ?_
    refine O.val rfl (Ru.load1 el51 rfl (ldf encPg_len (hNT.at hM5a).1 hx5_5 rfl)) rfl ?_
    refine O.stop (hM5a.pick [1] (by decide) rfl) ?_
    have hx5_9 : k < ((((T).l)[(at0).toNat]'hx5_5).c.l).length := (by first | omega | (simp; omega))
    refine AO.val (v := .pointer (ofs ((((T).l)[(at0).toNat]'hx5_5).c.A) (k * 1))) 9 (ls' := [true, true, true, true, true, true, true, true, true, true, false, false, false, false]) rfl (by kernel_rfl) rfl rfl (fun w2 hw2 => Ru.indexA (j := k) Tryd.underlying51 el3 rfl rfl (smm (((hNT.at hM5a)).2.get hx5_5).2.1 hx5_9) (by omega) (by first | omega | (simp; omega))) rfl ?_
    have hok1 := ok_kid hok (k := k) (by rw [hki]; exact hx5_9)
    simp only [hki] at hok1
    have hsl1 := sub_len3 hok1 (by omega)
    have hfs := flat_snoc (f := subT (T).t n) hx5_9
    refine AO.one 10 (by kernel_rfl) ?_
    refine step1 (ls' := [true, true, true, true, true, true, true, true, true, true, true, false, false, false]) rfl rfl ?_
    refine O.val rfl (Ru.load1 el3 rfl (ldm (((hNT.at hM5a)).2.get hx5_5).2.1 hx5_9)) rfl ?_
    refine O.stop (hM5a.pick [1] (by decide) rfl) ?_
    refine AO.one 11 (by kernel_rfl) ?_
    refine step1 (ls' := [true, true, true, true, true, true, true, true, true, true, true, true, false, false]) rfl rfl ?_
    refine O.callg [.agg #[I ((T).root), .slice ((T).A) ((T).l.length) ((T).cp)], I (((((T).l)[(at0).toNat]'hx5_5).c.l)[k]'hx5_9)] rfl en90 rfl rfl (ih_fn T (((((T).l)[(at0).toNat]'hx5_5).c.l)[k]'hx5_9) _ _ w5a (hNT.at hM5a) (by first | omega | assumption | (simp; omega) | simp | (intros; omega)) (by exact hok1) (by omega)) ?_
    rintro _ w5_11 ⟨A15_11, c15_11, rfl, hR5_11⟩
    have hM5_11 : Mem w w5_11 [] [[⟨.slice (A15_11) (((subT (T).t n (((((T).l)[(at0).toNat]'hx5_5).c.l)[k]'hx5_9))).length) (c15_11), 3, 1, (((subT (T).t n (((((T).l)[(at0).toNat]'hx5_5).c.l)[k]'hx5_9))).length), ((subT (T).t n (((((T).l)[(at0).toNat]'hx5_5).c.l)[k]'hx5_9))).map I⟩], [⟨.slice (A2) ((at0 :: ((((T).l[(at0).toNat]'hjx).c.l).take k).flatMap (subT (T).t n)).length) (c2), 3, 1, ((at0 :: ((((T).l[(at0).toNat]'hjx).c.l).take k).flatMap (subT (T).t n)).length), (at0 :: ((((T).l[(at0).toNat]'hjx).c.l).take k).flatMap (subT (T).t n)).map I⟩], [⟨.slice (bl b0_0) 1 1, 39, 2, 1, [I ((T).root), .slice ((T).A) ((T).l.length) ((T).cp)]⟩]] := Mem.call (Ma := []) hM5a hR5_11 rfl
    have hcr5_11_0 := (hM5_11.cap 0 rfl).1
    refine O.stop (hM5_11.pick [2] (by decide) rfl) ?_
    refine AO.one 12 (by kernel_rfl) ?_
    refine step1 (ls' := [true, true, true, true, true, true, true, true, true, true, true, true, true, false]) rfl rfl ?_
    refine O.mappend (sz := 1) (news := ((subT (T).t n (((((T).l)[(at0).toNat]'hx5_5).c.l)[k]'hx5_9))).map I) (m1 := (at0 :: ((((T).l[(at0).toNat]'hjx).c.l).take k).flatMap (subT (T).t n) ++ (subT (T).t n (((((T).l)[(at0).toNat]'hx5_5).c.l)[k]'hx5_9))).length) (xs1 := (at0 :: ((((T).l[(at0).toNat]'hjx).c.l).take k).flatMap (subT (T).t n) ++ (subT (T).t n (((((T).l)[(at0).toNat]'hx5_5).c.l)[k]'hx5_9))).map I) (M' := fun A5_12 c5_12 => [[⟨.slice (A15_11) (((subT (T).t n (((((T).l)[(at0).toNat]'hx5_5).c.l)[k]'hx5_9))).length) (c15_11), 3, 1, (((subT (T).t n (((((T).l)[(at0).toNat]'hx5_5).c.l)[k]'hx5_9))).length), ((subT (T).t n (((((T).l)[(at0).toNat]'hx5_5).c.l)[k]'hx5_9))).map I⟩], [⟨.slice (A5_12) ((at0 :: ((((T).l[(at0).toNat]'hjx).c.l).take k).flatMap (subT (T).t n) ++ (subT (T).t n (((((T).l)[(at0).toNat]'hx5_5).c.l)[k]'hx5_9))).length) (c5_12), 3, 1, ((at0 :: ((((T).l[(at0).toNat]'hjx).c.l).take k).flatMap (subT (T).t n) ++ (subT (T).t n (((((T).l)[(at0).toNat]'hx5_5).c.l)[k]'hx5_9))).length), (at0 :: ((((T).l[(at0).toNat]'hjx).c.l).take k).flatMap (subT (T).t n) ++ (subT (T).t n (((((T).l)[(at0).toNat]'hx5_5).c.l)[k]'hx5_9))).map I⟩], [⟨.slice (bl b0_0) 1 1, 39, 2, 1, [I ((T).root), .slice ((T).A) ((T).l.length) ((T).cp)]⟩]]) 1 0 hM5_11 rfl rfl rfl Tryd.underlying51 el3 ⟨rfl, by decide⟩ rfl rfl rfl (hM5_11.rd 0 rfl) (by first | (simp; done) | (simp; omega)) (all_map_one (fun _ => rfl) _) (by have h8 := congrArg List.length hse; have h9 := congrArg List.length hfs; have h7 := flat_le (f := subT (T).t n) hx5_9; simp only [List.length_append, List.length_cons] at h8 h9 h7 ⊢; omega) (by have h8 := congrArg List.length hse; have h9 := congrArg List.length hfs; have h7 := flat_le (f := subT (T).t n) hx5_9; simp only [List.length_append, List.length_cons] at h8 h9 h7 ⊢; omega) (by first | (simp; done) | (simp; omega)) (by simp) (fun _ _ => rfl) (fun w5_12 A5_12 c5_12 hc5_12 hM5_12 => ?_)
    try dsimp only at hM5_12
    refine O.stop (hM5_12.pick [2] (by decide) rfl) ?_
    refine AO.val (v := .slice (A5_12) ((at0 :: ((((T).l[(at0).toNat]'hjx).c.l).take k).flatMap (subT (T).t n) ++ (subT (T).t n (((((T).l)[(at0).toNat]'hx5_5).c.l)[k]'hx5_9))).length) (c5_12)) 13 (ls' := [true, true, true, true, true, true, true, true, true, true, true, true, true, true]) rfl (by kernel_rfl) rfl rfl (fun w2 hw2 => Ru.assign rfl) rfl ?_
    refine AO.nil (by kernel_rfl) ?_
    refine C.region ?_
    refine O.val (v := I (((k : Nat) : Int))) rfl (Ru.move rfl) rfl ?_
    refine O.val (v := I ((((k + 1) : Nat) : Int))) rfl (Ru.congr (v := I ((((k : Nat) : Int) + 1))) (v' := I ((((k + 1) : Nat) : Int))) (Ru.add rfl rfl (by omega)) (I_congr (by first | omega | simp))) rfl ?_
    refine O.val (v := I ((((k + 1) : Nat) : Int))) rfl (Ru.assign rfl) rfl ?_
    refine O.nil ?_
    have hq2 : (at0 :: ((((T).l[(at0).toNat]'hjx).c.l).take k).flatMap (subT (T).t n) ++ (subT (T).t n (((((T).l)[(at0).toNat]'hx5_5).c.l)[k]'hx5_9)) : List Int) = at0 :: ((((T).l[(at0).toNat]'hjx).c.l).take (k + 1)).flatMap (subT (T).t n) := (by rw [← hfs]; simp)
    have hMn2 : Mem w w5_12 [] [[⟨.slice (A15_11) (((subT (T).t n (((((T).l)[(at0).toNat]'hx5_5).c.l)[k]'hx5_9))).length) (c15_11), 3, 1, (((subT (T).t n (((((T).l)[(at0).toNat]'hx5_5).c.l)[k]'hx5_9))).length), ((subT (T).t n (((((T).l)[(at0).toNat]'hx5_5).c.l)[k]'hx5_9))).map I⟩], [⟨.slice (A5_12) ((at0 :: ((((T).l[(at0).toNat]'hjx).c.l).take (k + 1)).flatMap (subT (T).t n)).length) (c5_12), 3, 1, ((at0 :: ((((T).l[(at0).toNat]'hjx).c.l).take (k + 1)).flatMap (subT (T).t n)).length), (at0 :: ((((T).l[(at0).toNat]'hjx).c.l).take (k + 1)).flatMap (subT (T).t n)).map I⟩], [⟨.slice (bl b0_0) 1 1, 39, 2, 1, [I ((T).root), .slice ((T).A) ((T).l.length) ((T).cp)]⟩]] := hM5_12.relen 1 (n' := (at0 :: ((((T).l[(at0).toNat]'hjx).c.l).take (k + 1)).flatMap (subT (T).t n)).length) (xs' := (at0 :: ((((T).l[(at0).toNat]'hjx).c.l).take (k + 1)).flatMap (subT (T).t n)).map I) rfl (by first | rfl | exact congrArg List.length hq2 | (have hqq := congrArg List.length hq2; first | omega | (simp at hqq ⊢; omega)) | (simp; done) | (simp; omega)) (congrArg (fun z_ => (z_).map I) hq2) rfl
    exact loopEnd (k + 1, A5_12, c5_12) (by (try dsimp only); omega) (Has.cons rfl (Has.cons rfl (Has.cons (sl_congr (by first | rfl | omega | (simp; done) | (simp; omega) | exact congrArg List.length hq2 | (simp [← hq2]; done) | (simp [← hq2]; omega))) (Has.cons (I_congr (by first | rfl | omega | (simp; omega) | simp)) Has.nil)))) ⟨(by (try dsimp only); omega), (hMn2.pick [1, 2] (by decide) rfl)⟩
  · refine C.exit ?_
    refine C.seq ?_
    refine C.region ?_
    refine O.val (v := .slice (A2) ((at0 :: ((((T).l[(at0).toNat]'hjx).c.l).take k).flatMap (subT (T).t n)).length) (c2)) rfl (Ru.move rfl) rfl ?_
    refine O.val (v := .slice (A2) ((at0 :: ((((T).l[(at0).toNat]'hjx).c.l).take k).flatMap (subT (T).t n)).length) (c2)) rfl (Ru.assign rfl) rfl ?_
    refine O.nil ?_
    refine C.ret ?_
    refine P1 (v := .slice (A2) ((at0 :: ((((T).l[(at0).toNat]'hjx).c.l).take k).flatMap (subT (T).t n)).length) (c2)) rfl ?_
    have hkk : (((T).l[(at0).toNat]'hjx).c.l).take k = ((T).l[(at0).toNat]'hjx).c.l := List.take_of_length_le (by omega)
    have hq3 : (at0 :: ((((T).l[(at0).toNat]'hjx).c.l).take k).flatMap (subT (T).t n) : List Int) = (subT (T).t (n + 1) at0) := (by rw [hse, hkk])
    have hMn3 : Mem w w_l3 [] [[⟨.slice (A2) (((subT (T).t (n + 1) at0)).length) (c2), 3, 1, (((subT (T).t (n + 1) at0)).length), ((subT (T).t (n + 1) at0)).map I⟩], [⟨.slice (bl b0_0) 1 1, 39, 2, 1, [I ((T).root), .slice ((T).A) ((T).l.length) ((T).cp)]⟩]] := hM_l3.relen 0 (n' := ((subT (T).t (n + 1) at0)).length) (xs' := ((subT (T).t (n + 1) at0)).map I) rfl (by first | rfl | exact congrArg List.length hq3 | (have hqq := congrArg List.length hq3; first | omega | (simp at hqq ⊢; omega)) | (simp; done) | (simp; omega)) (congrArg (fun z_ => (z_).map I) hq3) rfl
    exact ⟨A2, c2, (sl_congr (by rw [hse, hkk])), (hMn3.pick [0] (by decide) rfl)⟩

theorem walk_fn : ∀ (n : Nat), ∀ (T : TreeL) (at0 : Int) (lo : Int) (hi : Int) (w : World) (hNT : TrN w T) (hs : SzT T) (hok : okB (T).t n at0 lo hi = true) (h3 : n ≤ 3), Does Tryd.prog 90 [.agg #[I ((T).root), .slice ((T).A) ((T).l.length) ((T).cp)], I (at0)] w (fun v w1 => ∃ (A1 : Option Addr) (c1 : Nat), v = .slice (A1) (((subT (T).t n at0)).length) (c1) ∧ Mem w w1 [] [[⟨.slice (A1) (((subT (T).t n at0)).length) (c1), 3, 1, (((subT (T).t n at0)).length), ((subT (T).t n at0)).map I⟩]]) := by
  intro n
  induction n with
  | zero => exact walk0_fn
  | succ n ih => exact walkS_fn n ih

set_option maxHeartbeats 4000000 in
theorem svalidTree_fn (T : TreeL) (w : World) (hNT : TrN w T) (hs : SzT T) :
    Does Tryd.prog 53 [.agg #[I ((T).root), .slice ((T).A) ((T).l.length) ((T).cp)]] w (fun v w1 => v = .bool (validT (T).t) ∧ Mem w w1 [] []) := by
  have hM : Mem w w [] [] := Mem.refl
  refine Does.enter1 Tryd.func53 rfl Tryd.results53 Tryd.ntmps53 rfl ?_
  refine C.seq ?_
  refine C.region ?_
  refine O.mbox (k := 2) (vs := [I ((T).root), .slice ((T).A) ((T).l.length) ((T).cp)]) hM rfl rfl rfl rfl rfl (fun w0_0 b0_0 hb0_0 (hM0_0 : Mem w w0_0 [] [[⟨.slice (bl b0_0) 1 1, 39, 2, 1, [I ((T).root), .slice ((T).A) ((T).l.length) ((T).cp)]⟩]]) => ?_)
  refine O.val (v := .bool (false)) rfl (Ru.assign rfl) rfl ?_
  refine O.nil ?_
  refine C.seq ?_
  refine C.seq ?_
  have hvr := valid_ref (T := (T).t)
  have hs1 := hs.1
  refine C.draws (fun w2 => Mem w w2 [] [[⟨.slice (bl b0_0) 1 1, 39, 2, 1, [I ((T).root), .slice ((T).A) ((T).l.length) ((T).cp)]⟩]]) mixed (by kernel_rfl) (hM0_0.ext (kdrawn _)) ?_
  refine QO.val (v := .pointer (ofs (bl b0_0) (1))) rfl (fun w2 hw2 => Ru.fieldA fl39_1 rfl rfl) rfl ?_
  refine QO.val rfl (fun w2 hw2 => Ru.load1 el37 rfl ((hw2.rd 0 rfl).ld rfl)) rfl ?_
  refine QO.val (v := I ((((T).l.length : Nat) : Int))) rfl (fun w2 hw2 => Ru.blenSlice Tryd.underlying37 rfl) rfl ?_
  refine QO.callg (v := .bool (decide (1 ≤ (((T).l.length : Nat) : Int)) && decide ((((T).l.length : Nat) : Int) ≤ 16))) [I ((((T).l.length : Nat) : Int)), I (1), I (16)] rfl en54 rfl rfl (fun w2 hw2 => (inRange_fn (((T).l.length : Nat) : Int) 1 16 w2 ).mono fun _ _ h => ⟨h.1, Mem.call0 hw2 h.2⟩) ?_
  refine QO.val (v := .bool (!(decide (1 ≤ (((T).l.length : Nat) : Int)) && decide ((((T).l.length : Nat) : Int) ≤ 16)))) rfl (fun w2 hw2 => Ru.not rfl) rfl ?_
  refine QO.val (v := .bool (!(decide (1 ≤ (((T).l.length : Nat) : Int)) && decide ((((T).l.length : Nat) : Int) ≤ 16)))) rfl (fun w2 hw2 => Ru.move rfl) rfl ?_
  refine QO.part 10 (!(decide (1 ≤ (((T).l.length : Nat) : Int)) && decide ((((T).l.length : Nat) : Int) ≤ 16))) rfl (fun g10 => ?_) (fun g10 => ?_)
  · refine QO.pass rfl rfl rfl rfl rfl ?_
    refine QO.pass rfl rfl rfl rfl rfl ?_
    refine QO.pass rfl rfl rfl rfl rfl ?_
    refine QO.pass rfl rfl rfl rfl rfl ?_
    refine QO.pass rfl rfl rfl rfl rfl ?_
    refine QO.pass rfl rfl rfl rfl rfl ?_
    refine QO.pass rfl rfl rfl rfl rfl ?_
    refine QO.pass rfl rfl rfl rfl rfl ?_
    refine QO.val (v := .bool (true)) rfl (fun w2 hw2 => Ru.pickT rfl rfl) rfl ?_
    refine QO.val (v := .bool (true)) rfl (fun w2 hw2 => Ru.move rfl) rfl ?_
    refine QO.pass rfl rfl rfl rfl rfl ?_
    refine QO.pass rfl rfl rfl rfl rfl ?_
    refine QO.pass rfl rfl rfl rfl rfl ?_
    refine QO.val (v := .bool (true)) rfl (fun w2 hw2 => Ru.pickT rfl rfl) rfl ?_
    refine QO.val (v := .bool (true)) rfl (fun w2 hw2 => Ru.move rfl) rfl ?_
    refine QO.pass rfl rfl rfl rfl rfl ?_
    refine QO.pass rfl rfl rfl rfl rfl ?_
    refine QO.pass rfl rfl rfl rfl rfl ?_
    refine QO.pass rfl rfl rfl rfl rfl ?_
    refine QO.pass rfl rfl rfl rfl rfl ?_
    refine QO.pass rfl rfl rfl rfl rfl ?_
    refine QO.pass rfl rfl rfl rfl rfl ?_
    refine QO.val (v := .bool (true)) rfl (fun w2 hw2 => Ru.pickT rfl rfl) rfl ?_
    refine QO.nil ?_
    intro w1d hM1d
    refine C.condT rfl ?_
    refine C.seq ?_
    refine C.region ?_
    refine O.val (v := .bool (false)) rfl (Ru.assign rfl) rfl ?_
    refine O.nil ?_
    refine C.ret ?_
    refine P1 (v := .bool (false)) rfl ?_
    exact ⟨(by rw [hvr, show (decide (1 ≤ (T).t.pages.length) && decide ((T).t.pages.length ≤ 16)) = false from (by rw [pages_len, Bool.and_eq_false_iff, decide_eq_false_iff_not, decide_eq_false_iff_not]; simp at g10; omega)]; simp), (Mem.none hM1d)⟩
  · have hl16 : 1 ≤ (T).t.pages.length ∧ (T).t.pages.length ≤ 16 := by rw [pages_len]; simp at g10; omega
    refine QO.val (v := .pointer (ofs (bl b0_0) (0))) rfl (fun w2 hw2 => Ru.fieldA fl39_0 rfl rfl) rfl ?_
    refine QO.val rfl (fun w2 hw2 => Ru.load1 el3 rfl ((hw2.rd 0 rfl).ld rfl)) rfl ?_
    refine QO.val (v := .pointer (ofs (bl b0_0) (1))) rfl (fun w2 hw2 => Ru.fieldA fl39_1 rfl rfl) rfl ?_
    refine QO.val rfl (fun w2 hw2 => Ru.load1 el37 rfl ((hw2.rd 0 rfl).ld rfl)) rfl ?_
    refine QO.val (v := I ((((T).l.length : Nat) : Int))) rfl (fun w2 hw2 => Ru.blenSlice Tryd.underlying37 rfl) rfl ?_
    refine QO.val (v := I (((((T).l.length : Nat) : Int) - 1))) rfl (fun w2 hw2 => Ru.sub rfl rfl (by omega)) rfl ?_
    refine QO.callg (v := .bool (decide (0 ≤ ((T).root)) && decide (((T).root) ≤ ((((T).l.length : Nat) : Int) - 1)))) [I ((T).root), I (0), I (((((T).l.length : Nat) : Int) - 1))] rfl en54 rfl rfl (fun w2 hw2 => (inRange_fn ((T).root) 0 ((((T).l.length : Nat) : Int) - 1) w2 ).mono fun _ _ h => ⟨h.1, Mem.call0 hw2 h.2⟩) ?_
    refine QO.val (v := .bool (!(decide (0 ≤ ((T).root)) && decide (((T).root) ≤ ((((T).l.length : Nat) : Int) - 1))))) rfl (fun w2 hw2 => Ru.not rfl) rfl ?_
    refine QO.val (v := .bool (!(decide (0 ≤ ((T).root)) && decide (((T).root) ≤ ((((T).l.length : Nat) : Int) - 1))))) rfl (fun w2 hw2 => Ru.pickF rfl rfl) rfl ?_
    refine QO.val (v := .bool (!(decide (0 ≤ ((T).root)) && decide (((T).root) ≤ ((((T).l.length : Nat) : Int) - 1))))) rfl (fun w2 hw2 => Ru.move rfl) rfl ?_
    refine QO.part 20 (!(decide (0 ≤ ((T).root)) && decide (((T).root) ≤ ((((T).l.length : Nat) : Int) - 1)))) rfl (fun g20 => ?_) (fun g20 => ?_)
    · refine QO.pass rfl rfl rfl rfl rfl ?_
      refine QO.pass rfl rfl rfl rfl rfl ?_
      refine QO.pass rfl rfl rfl rfl rfl ?_
      refine QO.val (v := .bool (true)) rfl (fun w2 hw2 => Ru.pickT rfl rfl) rfl ?_
      refine QO.val (v := .bool (true)) rfl (fun w2 hw2 => Ru.move rfl) rfl ?_
      refine QO.pass rfl rfl rfl rfl rfl ?_
      refine QO.pass rfl rfl rfl rfl rfl ?_
      refine QO.pass rfl rfl rfl rfl rfl ?_
      refine QO.pass rfl rfl rfl rfl rfl ?_
      refine QO.pass rfl rfl rfl rfl rfl ?_
      refine QO.pass rfl rfl rfl rfl rfl ?_
      refine QO.pass rfl rfl rfl rfl rfl ?_
      refine QO.val (v := .bool (true)) rfl (fun w2 hw2 => Ru.pickT rfl rfl) rfl ?_
      refine QO.nil ?_
      intro w1d hM1d
      refine C.condT rfl ?_
      refine C.seq ?_
      refine C.region ?_
      refine O.val (v := .bool (false)) rfl (Ru.assign rfl) rfl ?_
      refine O.nil ?_
      refine C.ret ?_
      refine P1 (v := .bool (false)) rfl ?_
      exact ⟨(by rw [hvr, show inT (T).t (T).t.root = false from (by cases h9 : inT (T).t (T).t.root with | false => rfl | true => (have h8 := inT_t.1 h9; have h7 : 0 ≤ (T).root ∧ (T).root < _ := h8; exfalso; simp at g20; omega))]; simp), (Mem.none hM1d)⟩
    · have hin : inT (T).t (T).t.root = true := inT_t.2 (by simp at g20; show 0 ≤ (T).root ∧ (T).root < _; omega)
      have hrt : 0 ≤ (T).root ∧ (T).root < ((T).l.length : Int) := inT_t.1 hin
      refine QO.val rfl (fun w2 hw2 => Ru.loadN (vs := [I ((T).root), .slice ((T).A) ((T).l.length) ((T).cp)]) el39 rfl rfl rfl ((mem_blk (i := 0) (j := 0) hw2 rfl rfl).lds (k := 0) rfl)) rfl ?_
      refine QO.callg (v := I (((heightT (T).t : Nat) : Int))) [.agg #[I ((T).root), .slice ((T).A) ((T).l.length) ((T).cp)]] rfl en88 rfl rfl (fun w2 hw2 => (heightOf_fn T w2 (hNT.at hw2) (by first | omega | assumption | (simp; omega) | simp | (intros; omega))).mono fun _ _ h => ⟨h.1, Mem.call0 hw2 h.2⟩) ?_
      refine QO.val (v := .bool (decide (((heightT (T).t : Nat) : Int) > 3))) rfl (fun w2 hw2 => Ru.gtr rfl rfl) rfl ?_
      refine QO.val (v := .bool (decide (((heightT (T).t : Nat) : Int) > 3))) rfl (fun w2 hw2 => Ru.pickF rfl rfl) rfl ?_
      refine QO.val (v := .bool (decide (((heightT (T).t : Nat) : Int) > 3))) rfl (fun w2 hw2 => Ru.move rfl) rfl ?_
      refine QO.partp 25 (((heightT (T).t : Nat) : Int) > 3) rfl (fun g25 => ?_) (fun g25 => ?_)
      · refine QO.pass rfl rfl rfl rfl rfl ?_
        refine QO.pass rfl rfl rfl rfl rfl ?_
        refine QO.pass rfl rfl rfl rfl rfl ?_
        refine QO.pass rfl rfl rfl rfl rfl ?_
        refine QO.pass rfl rfl rfl rfl rfl ?_
        refine QO.pass rfl rfl rfl rfl rfl ?_
        refine QO.pass rfl rfl rfl rfl rfl ?_
        refine QO.val (v := .bool (true)) rfl (fun w2 hw2 => Ru.pickT rfl rfl) rfl ?_
        refine QO.nil ?_
        intro w1d hM1d
        refine C.condT rfl ?_
        refine C.seq ?_
        refine C.region ?_
        refine O.val (v := .bool (false)) rfl (Ru.assign rfl) rfl ?_
        refine O.nil ?_
        refine C.ret ?_
        refine P1 (v := .bool (false)) rfl ?_
        exact ⟨(by rw [hvr, show decide (heightT (T).t ≤ 3) = false from decide_eq_false (by omega)]; simp), (Mem.none hM1d)⟩
      · have hh3 : heightT (T).t ≤ 3 := by omega
        refine QO.val rfl (fun w2 hw2 => Ru.loadN (vs := [I ((T).root), .slice ((T).A) ((T).l.length) ((T).cp)]) el39 rfl rfl rfl ((mem_blk (i := 0) (j := 0) hw2 rfl rfl).lds (k := 0) rfl)) rfl ?_
        refine QO.val (v := .pointer (ofs (bl b0_0) (0))) rfl (fun w2 hw2 => Ru.fieldA fl39_0 rfl rfl) rfl ?_
        refine QO.val rfl (fun w2 hw2 => Ru.load1 el3 rfl ((hw2.rd 0 rfl).ld rfl)) rfl ?_
        refine QO.val rfl (fun w2 hw2 => Ru.loadN (vs := [I ((T).root), .slice ((T).A) ((T).l.length) ((T).cp)]) el39 rfl rfl rfl ((mem_blk (i := 0) (j := 0) hw2 rfl rfl).lds (k := 0) rfl)) rfl ?_
        refine QO.callg (v := I (((heightT (T).t : Nat) : Int))) [.agg #[I ((T).root), .slice ((T).A) ((T).l.length) ((T).cp)]] rfl en88 rfl rfl (fun w2 hw2 => (heightOf_fn T w2 (hNT.at hw2) (by first | omega | assumption | (simp; omega) | simp | (intros; omega))).mono fun _ _ h => ⟨h.1, Mem.call0 hw2 h.2⟩) ?_
        refine QO.callg (v := .bool (fitS (T).t (heightT (T).t) ((T).root) 0 99)) [.agg #[I ((T).root), .slice ((T).A) ((T).l.length) ((T).cp)], I ((T).root), I (0), I (99), I (((heightT (T).t : Nat) : Int))] rfl en89 rfl rfl (fun w2 hw2 => (pageFits_fn (heightT (T).t) T ((T).root) 0 99 ((heightT (T).t : Nat) : Int) w2 (hNT.at hw2) (by first | omega | assumption | (simp; omega) | simp | (intros; omega)) (by omega) (by rfl) (by exact height_1) (by exact hh3)).mono fun _ _ h => ⟨h.1, Mem.call0 hw2 h.2⟩) ?_
        refine QO.val (v := .bool (!(fitS (T).t (heightT (T).t) ((T).root) 0 99))) rfl (fun w2 hw2 => Ru.not rfl) rfl ?_
        refine QO.val (v := .bool (!(fitS (T).t (heightT (T).t) ((T).root) 0 99))) rfl (fun w2 hw2 => Ru.pickF rfl rfl) rfl ?_
        refine QO.nil ?_
        intro w1d hM1d
        refine C.condn (b := (fitS (T).t (heightT (T).t) ((T).root) 0 99)) rfl (fun c33 => ?_) (fun c33 => ?_)
        · refine C.seq ?_
          refine C.region ?_
          refine O.val (v := .bool (false)) rfl (Ru.assign rfl) rfl ?_
          refine O.nil ?_
          refine C.ret ?_
          refine P1 (v := .bool (false)) rfl ?_
          exact ⟨(by rw [hvr, show fitS (T).t (heightT (T).t) (T).t.root 0 99 = false from (show fitS (T).t (heightT (T).t) (T).root 0 99 = false from (by simpa using c33))]; simp), (Mem.none hM1d)⟩
        · refine C.skip ?_
          refine C.seq ?_
          have hft : fitS (T).t (heightT (T).t) (T).root 0 99 = true := by simpa using c33
          have hok : okB (T).t (heightT (T).t) (T).root 0 100 = true := (fit_ok (d := heightT (T).t) (low := 0) (hi := 99) hin).symm.trans hft
          have hsl := sub_len3 hok hh3
          have hve : validT (T).t = (decide (subT (T).t (heightT (T).t) (T).root).Nodup && decide ((subT (T).t (heightT (T).t) (T).root).length = (T).t.pages.length)) := by rw [hvr]; simp only [hl16.1, hl16.2, hin, hh3, decide_true, Bool.true_and]; rw [show fitS (T).t (heightT (T).t) (T).t.root 0 99 = true from hft]; rfl
          refine C.region ?_
          refine O.val rfl (Ru.loadN (vs := [I ((T).root), .slice ((T).A) ((T).l.length) ((T).cp)]) el39 rfl rfl rfl ((mem_blk (i := 0) (j := 0) hM1d rfl rfl).lds (k := 0) rfl)) rfl ?_
          refine O.val (v := .pointer (ofs (bl b0_0) (0))) rfl (Ru.fieldA fl39_0 rfl rfl) rfl ?_
          refine O.val rfl (Ru.load1 el3 rfl ((hM1d.rd 0 rfl).ld rfl)) rfl ?_
          refine O.callg [.agg #[I ((T).root), .slice ((T).A) ((T).l.length) ((T).cp)], I ((T).root)] rfl en90 rfl rfl (walk_fn (heightT (T).t) T ((T).root) 0 100 w1d (hNT.at hM1d) (by first | omega | assumption | (simp; omega) | simp | (intros; omega)) (by exact hok) (by exact hh3)) ?_
          rintro _ w3_3 ⟨A13_3, c13_3, rfl, hR3_3⟩
          have hM3_3 : Mem w w3_3 [] [[⟨.slice (A13_3) (((subT (T).t (heightT (T).t) ((T).root))).length) (c13_3), 3, 1, (((subT (T).t (heightT (T).t) ((T).root))).length), ((subT (T).t (heightT (T).t) ((T).root))).map I⟩], [⟨.slice (bl b0_0) 1 1, 39, 2, 1, [I ((T).root), .slice ((T).A) ((T).l.length) ((T).cp)]⟩]] := Mem.call (Ma := []) hM1d hR3_3 rfl
          have hcr3_3_0 := (hM3_3.cap 0 rfl).1
          refine O.val (v := .slice (A13_3) (((subT (T).t (heightT (T).t) ((T).root))).length) (c13_3)) rfl (Ru.assign rfl) rfl ?_
          refine O.nil ?_
          refine C.seq ?_
          refine C.seq ?_
          refine C.region ?_
          refine O.val (v := I (0)) rfl (Ru.assign rfl) rfl ?_
          refine O.nil ?_
          refine C.block ?_
          refine C.loop (ι := Nat) (fun k => ([(1, .pointer (ofs (bl b0_0) (0))), (3, .slice (A13_3) (((subT (T).t (heightT (T).t) ((T).root))).length) (c13_3)), (4, I (((k : Nat) : Int)))] : List (Nat × Value))) (fun k w_ => (k ≤ (subT (T).t (heightT (T).t) (T).root).length) ∧ (((subT (T).t (heightT (T).t) (T).root).take k).Nodup) ∧ (Mem w w_ [] [[⟨.slice (A13_3) (((subT (T).t (heightT (T).t) ((T).root))).length) (c13_3), 3, 1, (((subT (T).t (heightT (T).t) ((T).root))).length), ((subT (T).t (heightT (T).t) ((T).root))).map I⟩], [⟨.slice (bl b0_0) 1 1, 39, 2, 1, [I ((T).root), .slice ((T).A) ((T).l.length) ((T).cp)]⟩]])) (fun k => (subT (T).t (heightT (T).t) (T).root).length - k) (0) (Has.cons rfl (Has.cons rfl (Has.cons (I_congr (by first | rfl | omega | (simp; omega) | simp)) Has.nil))) ⟨(Nat.zero_le _), (by (try dsimp only); simp), (hM3_3.pick [0, 1] (by decide) rfl)⟩ (fun k σ w_l5 hI => ?_)
          try dsimp only at hI
          obtain ⟨hi0_l5, hi1_l5, hM_l5⟩ := hI
          have hcl0_l5 := (hM_l5.cap 0 rfl).1
          refine C.seq ?_
          refine C.seq ?_
          refine C.region ?_
          refine O.val (v := I (((k : Nat) : Int))) rfl (Ru.move rfl) rfl ?_
          refine O.val (v := .slice (A13_3) (((subT (T).t (heightT (T).t) ((T).root))).length) (c13_3)) rfl (Ru.move rfl) rfl ?_
          refine O.val (v := I (((((subT (T).t (heightT (T).t) ((T).root))).length : Nat) : Int))) rfl (Ru.blenSlice Tryd.underlying51 rfl) rfl ?_
          refine O.val (v := .bool (decide (((k : Nat) : Int) < ((((subT (T).t (heightT (T).t) ((T).root))).length : Nat) : Int)))) rfl (Ru.lss rfl rfl) rfl ?_
          refine O.nil ?_
          refine C.cond (p := ((k : Nat) : Int) < ((((subT (T).t (heightT (T).t) ((T).root))).length : Nat) : Int)) rfl (fun c41 => ?_) (fun c41 => ?_)
          · refine C.skip ?_
            refine C.seq ?_
            refine C.block ?_
            refine C.seq ?_
            refine C.draws (fun w2 => Mem w w2 [] [[⟨.slice (A13_3) (((subT (T).t (heightT (T).t) ((T).root))).length) (c13_3), 3, 1, (((subT (T).t (heightT (T).t) ((T).root))).length), ((subT (T).t (heightT (T).t) ((T).root))).map I⟩], [⟨.slice (bl b0_0) 1 1, 39, 2, 1, [I ((T).root), .slice ((T).A) ((T).l.length) ((T).cp)]⟩]]) mixed (by kernel_rfl) (hM_l5.ext (kdrawn _)) ?_
            refine QO.val (v := .slice (A13_3) (((subT (T).t (heightT (T).t) ((T).root))).length) (c13_3)) rfl (fun w2 hw2 => Ru.move rfl) rfl ?_
            refine QO.val (v := I (((k : Nat) : Int))) rfl (fun w2 hw2 => Ru.move rfl) rfl ?_
            have hcp7_2 := hM_l5.cap 0 rfl
            refine QO.val (v := .slice (A13_3) ((((subT (T).t (heightT (T).t) ((T).root))).take (k)).length) (c13_3)) rfl (fun w2 hw2 => Ru.congr (v := .slice (A13_3) (k) (c13_3)) (v' := .slice (A13_3) ((((subT (T).t (heightT (T).t) ((T).root))).take (k)).length) (c13_3)) (Ru.lsliceTo (h := k) Tryd.underlying51 el3 rfl rfl (by omega) (by omega)) (sl_congr (by first | rfl | (simp; done) | omega | (simp; omega)))) rfl ?_
            refine QO.val (v := .slice (A13_3) (((subT (T).t (heightT (T).t) ((T).root))).length) (c13_3)) rfl (fun w2 hw2 => Ru.move rfl) rfl ?_
            refine QO.val (v := I (((k : Nat) : Int))) rfl (fun w2 hw2 => Ru.move rfl) rfl ?_
            have hx7_5 : k < ((subT (T).t (heightT (T).t) ((T).root))).length := (by first | omega | (simp; omega))
            refine QO.val (v := .pointer (ofs (A13_3) (k * 1))) rfl (fun w2 hw2 => Ru.indexA (j := k) Tryd.underlying51 el3 rfl rfl (smm (hw2.rd 0 rfl) hx7_5) (by omega) (by first | omega | (simp; omega))) rfl ?_
            refine QO.val rfl (fun w2 hw2 => Ru.load1 el3 rfl (ldm (hw2.rd 0 rfl) hx7_5)) rfl ?_
            refine QO.callg (v := .bool (decide ((((subT (T).t (heightT (T).t) ((T).root)))[k]'hx7_5) ∈ (((subT (T).t (heightT (T).t) ((T).root))).take (k))))) [.slice (A13_3) ((((subT (T).t (heightT (T).t) ((T).root))).take (k)).length) (c13_3), I (((subT (T).t (heightT (T).t) ((T).root)))[k]'hx7_5)] rfl en91 rfl rfl (fun w2 hw2 => (isIn_fn A13_3 c13_3 (((subT (T).t (heightT (T).t) ((T).root))).take (k)) (((subT (T).t (heightT (T).t) ((T).root)))[k]'hx7_5) w2 (rd_take1 (hw2.rd 0 rfl)) (by simp; omega)).mono fun _ _ h => ⟨h.1, Mem.call0 hw2 h.2⟩) ?_
            refine QO.nil ?_
            intro w7d hM7d
            refine C.condb (t := decide ((((subT (T).t (heightT (T).t) ((T).root)))[k]'hx7_5) ∈ (((subT (T).t (heightT (T).t) ((T).root))).take (k)))) rfl (fun c51 => ?_) (fun c51 => ?_)
            · refine C.seq ?_
              refine C.region ?_
              refine O.val (v := .bool (false)) rfl (Ru.assign rfl) rfl ?_
              refine O.nil ?_
              refine C.ret ?_
              refine P1 (v := .bool (false)) rfl ?_
              exact ⟨(by rw [hve, decide_eq_false (nodup_bad hx7_5 (by simpa using c51))]; rfl), (Mem.none hM7d)⟩
            · refine C.skip ?_
              refine C.region ?_
              refine O.val (v := I (((k : Nat) : Int))) rfl (Ru.move rfl) rfl ?_
              refine O.val (v := I ((((k + 1) : Nat) : Int))) rfl (Ru.congr (v := I ((((k : Nat) : Int) + 1))) (v' := I ((((k + 1) : Nat) : Int))) (Ru.add rfl rfl (by omega)) (I_congr (by first | omega | simp))) rfl ?_
              refine O.val (v := I ((((k + 1) : Nat) : Int))) rfl (Ru.assign rfl) rfl ?_
              refine O.nil ?_
              exact loopEnd (k + 1) (by (try dsimp only); omega) (Has.cons rfl (Has.cons rfl (Has.cons (I_congr (by first | rfl | omega | (simp; omega) | simp)) Has.nil))) ⟨(by (try dsimp only); omega), (nodup_step hx7_5 hi1_l5 (by simpa using c51)), (hM7d.pick [0, 1] (by decide) rfl)⟩
          · refine C.exit ?_
            refine C.seq ?_
            refine C.region ?_
            refine O.val (v := .slice (A13_3) (((subT (T).t (heightT (T).t) ((T).root))).length) (c13_3)) rfl (Ru.move rfl) rfl ?_
            refine O.val (v := I (((((subT (T).t (heightT (T).t) ((T).root))).length : Nat) : Int))) rfl (Ru.blenSlice Tryd.underlying51 rfl) rfl ?_
            refine O.val (v := .pointer (ofs (bl b0_0) (1))) rfl (Ru.fieldA fl39_1 rfl rfl) rfl ?_
            refine O.val rfl (Ru.load1 el37 rfl ((hM_l5.rd 1 rfl).ld rfl)) rfl ?_
            refine O.val (v := I ((((T).l.length : Nat) : Int))) rfl (Ru.blenSlice Tryd.underlying37 rfl) rfl ?_
            refine O.val (v := .bool (decide (((((subT (T).t (heightT (T).t) ((T).root))).length : Nat) : Int) = (((T).l.length : Nat) : Int)))) rfl (Ru.eql rfl rfl) rfl ?_
            refine O.val (v := .bool (decide (((((subT (T).t (heightT (T).t) ((T).root))).length : Nat) : Int) = (((T).l.length : Nat) : Int)))) rfl (Ru.assign rfl) rfl ?_
            refine O.nil ?_
            refine C.ret ?_
            refine P1 (v := .bool (decide (((((subT (T).t (heightT (T).t) ((T).root))).length : Nat) : Int) = (((T).l.length : Nat) : Int)))) rfl ?_
            exact ⟨(by rw [hve, decide_eq_true (show (subT (T).t (heightT (T).t) (T).root).Nodup by rwa [List.take_of_length_le (by omega)] at hi1_l5), pages_len]; refine congrArg Value.bool ?_; rw [Bool.true_and]; exact decide_eq_decide.2 (by omega)), (Mem.none hM_l5)⟩
end Go.Proofs.YtfdlmimgooeioaaDoor
