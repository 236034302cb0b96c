/- Own layer: part of this seat (FA). Plain theorems; no conditions. -/
import Derived.Test.YtfdlmimgooeioaaDoorFK
set_option linter.unusedVariables false
set_option linter.unusedSimpArgs false
namespace Go.Proofs.YtfdlmimgooeioaaDoor
open Go.Px
theorem filledRight_fn (b : Nat) (at0 : Int) (T : TreeL) (s : List Int) (ld : Int) (w : World) (hNT : TrN w T) (hOT : TrO T [some b]) (hM : Mem w w [some b] [[⟨.slice (bl b) 1 1, 92, 19, 1, ckC T s ld⟩]]) (hs : SzT T) (hat : 0 ≤ at0 ∧ at0 < ((T).l.length : Int)) :
    Does Tryd.prog 102 [.pointer (ofs (bl b) (0)), I (at0)] w (fun v w1 => v = .bool (frB (T).t at0) ∧ Mem w w1 [some b] [[⟨.slice (bl b) 1 1, 92, 19, 1, ckC T s ld⟩]]) := by
  refine Does.enter1 Tryd.func102 rfl Tryd.results102 Tryd.ntmps102 rfl ?_
  refine C.seq ?_
  refine C.region ?_
  refine O.val (v := .bool (false)) rfl (Ru.assign rfl) rfl ?_
  refine O.nil ?_
  refine C.seq ?_
  refine C.region ?_
  refine O.val (v := .pointer (ofs (bl b) (0))) rfl (Ru.move rfl) rfl ?_
  refine O.val (v := .pointer (ofs (bl b) (0))) rfl (Ru.nilc rfl rfl) rfl ?_
  refine O.val (v := .pointer (ofs (bl b) (0))) rfl (Ru.fieldA fl92_0 rfl rfl) rfl ?_
  refine O.val (v := .pointer (ofs (bl b) (1))) rfl (Ru.fieldA fl39_1 rfl rfl) rfl ?_
  refine O.val (v := .slice ((T).A) ((T).l.length) ((T).cp)) rfl (Ru.load1 el37 rfl ((hM.rd 0 rfl).ld (k := 1) rfl)) rfl ?_
  refine O.val (v := I (at0)) rfl (Ru.move rfl) rfl ?_
  have hx1_6 : (at0).toNat < ((T).l).length := (by first | omega | (simp; omega))
  refine O.val (v := .pointer (ofs ((T).A) (((at0).toNat) * 3))) rfl (Ru.indexA (j := (at0).toNat) Tryd.underlying37 el58 rfl rfl (smf encPg_len (hNT.atR hM hOT).1 hx1_6 rfl) (by omega) (by first | omega | (simp; omega))) rfl ?_
  refine O.val rfl (Ru.loadN (vs := [.slice ((((T).l)[(at0).toNat]'hx1_6).k.A) ((((T).l)[(at0).toNat]'hx1_6).k.l.length) ((((T).l)[(at0).toNat]'hx1_6).k.cp), .slice ((((T).l)[(at0).toNat]'hx1_6).c.A) ((((T).l)[(at0).toNat]'hx1_6).c.l.length) ((((T).l)[(at0).toNat]'hx1_6).c.cp), .slice ((((T).l)[(at0).toNat]'hx1_6).v.A) ((((T).l)[(at0).toNat]'hx1_6).v.l.length) ((((T).l)[(at0).toNat]'hx1_6).v.cp)]) el58 rfl rfl (smf encPg_len (hNT.atR hM hOT).1 hx1_6 rfl) (ldn encPg_len (hNT.atR hM hOT).1 hx1_6)) rfl ?_
  have hgp : gP (T).t at0 = (((T).l[(at0).toNat]'hx1_6)).t := gP_at rfl hx1_6
  have hsz := hs.at hx1_6
  refine O.malloc (k := 3) hM rfl rfl el58 rfl (fun w1_8 b1_8 hb1_8 (hM1_8 : Mem w w1_8 [some b] [[⟨.slice (bl b1_8) 1 1, 58, 3, 1, [.slice (none) (0) (0), .slice (none) (0) (0), .slice (none) (0) (0)]⟩], [⟨.slice (bl b) 1 1, 92, 19, 1, ckC T s ld⟩]]) => ?_)
  refine O.mstore (vs := [.slice ((((T).l)[(at0).toNat]'hx1_6).k.A) ((((T).l)[(at0).toNat]'hx1_6).k.l.length) ((((T).l)[(at0).toNat]'hx1_6).k.cp), .slice ((((T).l)[(at0).toNat]'hx1_6).c.A) ((((T).l)[(at0).toNat]'hx1_6).c.l.length) ((((T).l)[(at0).toNat]'hx1_6).c.cp), .slice ((((T).l)[(at0).toNat]'hx1_6).v.A) ((((T).l)[(at0).toNat]'hx1_6).v.l.length) ((((T).l)[(at0).toNat]'hx1_6).v.cp)]) (xs' := [.slice ((((T).l)[(at0).toNat]'hx1_6).k.A) ((((T).l)[(at0).toNat]'hx1_6).k.l.length) ((((T).l)[(at0).toNat]'hx1_6).k.cp), .slice ((((T).l)[(at0).toNat]'hx1_6).c.A) ((((T).l)[(at0).toNat]'hx1_6).c.l.length) ((((T).l)[(at0).toNat]'hx1_6).c.cp), .slice ((((T).l)[(at0).toNat]'hx1_6).v.A) ((((T).l)[(at0).toNat]'hx1_6).v.l.length) ((((T).l)[(at0).toNat]'hx1_6).v.cp)]) 0 0 hM1_8 rfl rfl rfl el58 rfl rfl rfl rfl rfl (by simp) (by simp) rfl rfl (fun w1_9 (hM1_9 : Mem w w1_9 [some b] [[⟨.slice (bl b1_8) 1 1, 58, 3, 1, [.slice ((((T).l)[(at0).toNat]'hx1_6).k.A) ((((T).l)[(at0).toNat]'hx1_6).k.l.length) ((((T).l)[(at0).toNat]'hx1_6).k.cp), .slice ((((T).l)[(at0).toNat]'hx1_6).c.A) ((((T).l)[(at0).toNat]'hx1_6).c.l.length) ((((T).l)[(at0).toNat]'hx1_6).c.cp), .slice ((((T).l)[(at0).toNat]'hx1_6).v.A) ((((T).l)[(at0).toNat]'hx1_6).v.l.length) ((((T).l)[(at0).toNat]'hx1_6).v.cp)]⟩], [⟨.slice (bl b) 1 1, 92, 19, 1, ckC T s ld⟩]]) => ?_)
  refine O.nil ?_
  refine C.seq ?_
  refine C.seq ?_
  refine C.region ?_
  refine O.val (v := .pointer (ofs (bl b1_8) (0))) rfl (Ru.fieldA fl58_0 rfl rfl) rfl ?_
  refine O.val rfl (Ru.load1 el51 rfl ((hM1_9.rd 0 rfl).ld rfl)) rfl ?_
  refine O.val (v := I ((((((T).l)[(at0).toNat]'hx1_6).k.l.length : Nat) : Int))) rfl (Ru.blenSlice Tryd.underlying51 rfl) rfl ?_
  refine O.val (v := .bool (decide ((((((T).l)[(at0).toNat]'hx1_6).k.l.length : Nat) : Int) > 4))) rfl (Ru.gtr rfl rfl) rfl ?_
  refine O.val (v := .bool (decide ((((((T).l)[(at0).toNat]'hx1_6).k.l.length : Nat) : Int) > 4))) rfl (Ru.move rfl) rfl ?_
  refine O.partp 20 ((((((T).l)[(at0).toNat]'hx1_6).k.l.length : Nat) : Int) > 4) rfl (fun g20 => ?_) (fun g20 => ?_)
  · refine O.pass rfl rfl rfl rfl rfl ?_
    refine O.pass rfl rfl rfl rfl rfl ?_
    refine O.pass rfl rfl rfl rfl rfl ?_
    refine O.pass rfl rfl rfl rfl rfl ?_
    refine O.val (v := .bool (true)) rfl (Ru.pickT rfl rfl) rfl ?_
    refine O.nil ?_
    refine C.condT rfl ?_
    refine C.seq ?_
    refine C.region ?_
    refine O.val (v := .bool (false)) rfl (Ru.assign rfl) rfl ?_
    refine O.nil ?_
    refine C.ret ?_
    refine P1 (v := .bool (false)) rfl ?_
    exact ⟨(by rw [frB_L, hgp]; first | rw [fr_n1 (by show ¬ ((((T).l[(at0).toNat]'hx1_6)).k.l).length ≤ 4; omega)] | rw [fr_n2 (show validK (((T).l[(at0).toNat]'hx1_6)).t.keys = false from (show validK ((((T).l[(at0).toNat]'hx1_6)).k.l) = false from (by simpa using c25)))]), (hM1_9.pick [1] (by decide) rfl)⟩
  · refine O.val (v := .pointer (ofs (bl b1_8) (0))) rfl (Ru.fieldA fl58_0 rfl rfl) rfl ?_
    refine O.val rfl (Ru.load1 el51 rfl ((hM1_9.rd 0 rfl).ld rfl)) rfl ?_
    refine O.callg [.slice ((((T).l)[(at0).toNat]'hx1_6).k.A) (((((T).l)[(at0).toNat]'hx1_6).k.l).length) ((((T).l)[(at0).toNat]'hx1_6).k.cp)] rfl en70 (by first | rfl | (rw [show ((((T).l)[(at0).toNat]'hx1_6).k.l).length = (((T).l)[(at0).toNat]'hx1_6).k.l.length from (by first | rfl | (simp; done) | omega | (simp; omega))]; rfl)) rfl (ValidKeys_fn ((((T).l)[(at0).toNat]'hx1_6).k.A) ((((T).l)[(at0).toNat]'hx1_6).k.cp) ((((T).l)[(at0).toNat]'hx1_6).k.l) w1_9 (((hNT.atR hM1_9 hOT)).2.get hx1_6).1 (by omega)) ?_
    rintro _ w2_7 ⟨rfl, hR2_7⟩
    have hM2_7 : Mem w w2_7 [some b] [[⟨.slice (bl b1_8) 1 1, 58, 3, 1, [.slice ((((T).l)[(at0).toNat]'hx1_6).k.A) ((((T).l)[(at0).toNat]'hx1_6).k.l.length) ((((T).l)[(at0).toNat]'hx1_6).k.cp), .slice ((((T).l)[(at0).toNat]'hx1_6).c.A) ((((T).l)[(at0).toNat]'hx1_6).c.l.length) ((((T).l)[(at0).toNat]'hx1_6).c.cp), .slice ((((T).l)[(at0).toNat]'hx1_6).v.A) ((((T).l)[(at0).toNat]'hx1_6).v.l.length) ((((T).l)[(at0).toNat]'hx1_6).v.cp)]⟩], [⟨.slice (bl b) 1 1, 92, 19, 1, ckC T s ld⟩]] := Mem.call (Ma := []) hM1_9 hR2_7 rfl
    refine O.val (v := .bool (!(validK ((((T).l)[(at0).toNat]'hx1_6).k.l)))) rfl (Ru.not rfl) rfl ?_
    refine O.val (v := .bool (!(validK ((((T).l)[(at0).toNat]'hx1_6).k.l)))) rfl (Ru.pickF rfl rfl) rfl ?_
    refine O.nil ?_
    refine C.condn (b := (validK ((((T).l)[(at0).toNat]'hx1_6).k.l))) rfl (fun c25 => ?_) (fun c25 => ?_)
    · refine C.seq ?_
      refine C.region ?_
      refine O.val (v := .bool (false)) rfl (Ru.assign rfl) rfl ?_
      refine O.nil ?_
      refine C.ret ?_
      refine P1 (v := .bool (false)) rfl ?_
      exact ⟨(by rw [frB_L, hgp]; first | rw [fr_n1 (by show ¬ ((((T).l[(at0).toNat]'hx1_6)).k.l).length ≤ 4; omega)] | rw [fr_n2 (show validK (((T).l[(at0).toNat]'hx1_6)).t.keys = false from (show validK ((((T).l[(at0).toNat]'hx1_6)).k.l) = false from (by simpa using c25)))]), (hM2_7.pick [1] (by decide) rfl)⟩
    · have hvk : validK (((T).l[(at0).toNat]'hx1_6)).k.l = true := by simpa using c25
      refine C.skip ?_
      refine C.seq ?_
      refine C.seq ?_
      refine C.region ?_
      refine O.val (v := I (at0)) rfl (Ru.move rfl) rfl ?_
      refine O.val (v := .pointer (ofs (bl b) (0))) rfl (Ru.move rfl) rfl ?_
      refine O.val (v := .pointer (ofs (bl b) (0))) rfl (Ru.nilc rfl rfl) rfl ?_
      refine O.val (v := .pointer (ofs (bl b) (0))) rfl (Ru.fieldA fl92_0 rfl rfl) rfl ?_
      refine O.val (v := .pointer (ofs (bl b) (0))) rfl (Ru.fieldA fl39_0 rfl rfl) rfl ?_
      refine O.val (v := I ((T).root)) rfl (Ru.load1 el3 rfl ((hM2_7.rd 1 rfl).ld (k := 0) rfl)) rfl ?_
      refine O.val (v := .bool (decide (at0 ≠ (T).root))) rfl (Ru.neq rfl rfl) rfl ?_
      refine O.val (v := .bool (decide (at0 ≠ (T).root))) rfl (Ru.move rfl) rfl ?_
      refine O.partp 33 (at0 ≠ (T).root) rfl (fun g33 => ?_) (fun g33 => ?_)
      · refine O.val (v := .pointer (ofs (bl b1_8) (0))) rfl (Ru.fieldA fl58_0 rfl rfl) rfl ?_
        refine O.val rfl (Ru.load1 el51 rfl ((hM2_7.rd 0 rfl).ld rfl)) rfl ?_
        refine O.val (v := I ((((((T).l)[(at0).toNat]'hx1_6).k.l.length : Nat) : Int))) rfl (Ru.blenSlice Tryd.underlying51 rfl) rfl ?_
        refine O.val (v := .bool (decide ((((((T).l)[(at0).toNat]'hx1_6).k.l.length : Nat) : Int) < 2))) rfl (Ru.lss rfl rfl) rfl ?_
        refine O.val (v := .bool (decide ((((((T).l)[(at0).toNat]'hx1_6).k.l.length : Nat) : Int) < 2))) rfl (Ru.pickT rfl rfl) rfl ?_
        refine O.nil ?_
        refine C.cond (p := (((((T).l)[(at0).toNat]'hx1_6).k.l.length : Nat) : Int) < 2) rfl (fun c38 => ?_) (fun c38 => ?_)
        · refine C.seq ?_
          refine C.region ?_
          refine O.val (v := .bool (false)) rfl (Ru.assign rfl) rfl ?_
          refine O.nil ?_
          refine C.ret ?_
          refine P1 (v := .bool (false)) rfl ?_
          exact ⟨(by rw [frB_L, hgp, fr_n3 (root := (T).t.root) g33 (by show ¬ 2 ≤ ((((T).l[(at0).toNat]'hx1_6)).k.l).length; omega)]), (hM2_7.pick [1] (by decide) rfl)⟩
        · refine C.skip ?_
          refine C.seq ?_
          refine C.seq ?_
          have hr : at0 = (T).t.root ∨ 2 ≤ (((T).l[(at0).toNat]'hx1_6)).t.keys.length := by first | (left; exact Classical.not_not.1 g33) | (left; simpa using g33) | (right; show 2 ≤ ((((T).l[(at0).toNat]'hx1_6)).k.l).length; omega)
          refine C.region ?_
          refine O.val (v := .pointer (ofs (bl b1_8) (1))) rfl (Ru.fieldA fl58_1 rfl rfl) rfl ?_
          refine O.val rfl (Ru.load1 el51 rfl ((hM2_7.rd 0 rfl).ld rfl)) rfl ?_
          refine O.val (v := I ((((((T).l)[(at0).toNat]'hx1_6).c.l.length : Nat) : Int))) rfl (Ru.blenSlice Tryd.underlying51 rfl) rfl ?_
          refine O.val (v := .bool (decide ((((((T).l)[(at0).toNat]'hx1_6).c.l.length : Nat) : Int) > 0))) rfl (Ru.gtr rfl rfl) rfl ?_
          refine O.nil ?_
          refine C.cond (p := (((((T).l)[(at0).toNat]'hx1_6).c.l.length : Nat) : Int) > 0) rfl (fun c42 => ?_) (fun c42 => ?_)
          · refine C.seq ?_
            refine C.region ?_
            refine O.val (v := .pointer (ofs (bl b1_8) (2))) rfl (Ru.fieldA fl58_2 rfl rfl) rfl ?_
            refine O.val rfl (Ru.load1 el51 rfl ((hM2_7.rd 0 rfl).ld rfl)) rfl ?_
            refine O.val (v := I ((((((T).l)[(at0).toNat]'hx1_6).v.l.length : Nat) : Int))) rfl (Ru.blenSlice Tryd.underlying51 rfl) rfl ?_
            refine O.val (v := .bool (decide ((((((T).l)[(at0).toNat]'hx1_6).v.l.length : Nat) : Int) = 0))) rfl (Ru.eql rfl rfl) rfl ?_
            refine O.val (v := .bool (decide ((((((T).l)[(at0).toNat]'hx1_6).v.l.length : Nat) : Int) = 0))) rfl (Ru.move rfl) rfl ?_
            refine O.partp 47 ((((((T).l)[(at0).toNat]'hx1_6).v.l.length : Nat) : Int) = 0) rfl (fun g47 => ?_) (fun g47 => ?_)
            · refine O.val (v := .pointer (ofs (bl b1_8) (0))) rfl (Ru.fieldA fl58_0 rfl rfl) rfl ?_
              refine O.val rfl (Ru.load1 el51 rfl ((hM2_7.rd 0 rfl).ld rfl)) rfl ?_
              refine O.val (v := I ((((((T).l)[(at0).toNat]'hx1_6).k.l.length : Nat) : Int))) rfl (Ru.blenSlice Tryd.underlying51 rfl) rfl ?_
              refine O.val (v := .bool (decide ((((((T).l)[(at0).toNat]'hx1_6).k.l.length : Nat) : Int) ≥ 1))) rfl (Ru.geq rfl rfl) rfl ?_
              refine O.val (v := .bool (decide ((((((T).l)[(at0).toNat]'hx1_6).k.l.length : Nat) : Int) ≥ 1))) rfl (Ru.pickT rfl rfl) rfl ?_
              refine O.val (v := .bool (decide ((((((T).l)[(at0).toNat]'hx1_6).k.l.length : Nat) : Int) ≥ 1))) rfl (Ru.move rfl) rfl ?_
              refine O.partp 53 ((((((T).l)[(at0).toNat]'hx1_6).k.l.length : Nat) : Int) ≥ 1) rfl (fun g53 => ?_) (fun g53 => ?_)
              · refine O.val (v := .pointer (ofs (bl b1_8) (1))) rfl (Ru.fieldA fl58_1 rfl rfl) rfl ?_
                refine O.val rfl (Ru.load1 el51 rfl ((hM2_7.rd 0 rfl).ld rfl)) rfl ?_
                refine O.val (v := I ((((((T).l)[(at0).toNat]'hx1_6).c.l.length : Nat) : Int))) rfl (Ru.blenSlice Tryd.underlying51 rfl) rfl ?_
                refine O.val (v := .pointer (ofs (bl b1_8) (0))) rfl (Ru.fieldA fl58_0 rfl rfl) rfl ?_
                refine O.val rfl (Ru.load1 el51 rfl ((hM2_7.rd 0 rfl).ld rfl)) rfl ?_
                refine O.val (v := I ((((((T).l)[(at0).toNat]'hx1_6).k.l.length : Nat) : Int))) rfl (Ru.blenSlice Tryd.underlying51 rfl) rfl ?_
                refine O.val (v := I (((((((T).l)[(at0).toNat]'hx1_6).k.l.length + 1) : Nat) : Int))) rfl (Ru.congr (v := I (((((((T).l)[(at0).toNat]'hx1_6).k.l.length : Nat) : Int) + 1))) (v' := I (((((((T).l)[(at0).toNat]'hx1_6).k.l.length + 1) : Nat) : Int))) (Ru.add rfl rfl (by omega)) (I_congr (by first | omega | simp))) rfl ?_
                refine O.val (v := .bool (decide ((((((T).l)[(at0).toNat]'hx1_6).c.l.length : Nat) : Int) = ((((((T).l)[(at0).toNat]'hx1_6).k.l.length + 1) : Nat) : Int)))) rfl (Ru.eql rfl rfl) rfl ?_
                refine O.val (v := .bool (decide ((((((T).l)[(at0).toNat]'hx1_6).c.l.length : Nat) : Int) = ((((((T).l)[(at0).toNat]'hx1_6).k.l.length + 1) : Nat) : Int)))) rfl (Ru.pickT rfl rfl) rfl ?_
                refine O.val (v := .bool (decide ((((((T).l)[(at0).toNat]'hx1_6).c.l.length : Nat) : Int) = ((((((T).l)[(at0).toNat]'hx1_6).k.l.length + 1) : Nat) : Int)))) rfl (Ru.assign rfl) rfl ?_
                refine O.nil ?_
                refine C.ret ?_
                refine P1 (v := .bool (decide ((((((T).l)[(at0).toNat]'hx1_6).c.l.length : Nat) : Int) = ((((((T).l)[(at0).toNat]'hx1_6).k.l.length + 1) : Nat) : Int)))) rfl ?_
                exact ⟨(by rw [frB_L, hgp, fr_yi' (show (((T).l[(at0).toNat]'hx1_6)).t.keys.length ≤ 4 from (by show ((((T).l[(at0).toNat]'hx1_6)).k.l).length ≤ 4; omega)) (show validK (((T).l[(at0).toNat]'hx1_6)).t.keys = true from hvk) hr (by show 0 < (((T).l[(at0).toNat]'hx1_6)).c.l.length; omega) (vl := ((((T).l[(at0).toNat]'hx1_6)).v.l).length) (kl := ((((T).l[(at0).toNat]'hx1_6)).k.l).length) (cl := (((T).l[(at0).toNat]'hx1_6)).c.l.length) rfl rfl rfl]; refine congrArg Value.bool ?_; rw [Bool.eq_iff_iff]; simp only [Bool.and_eq_true, decide_eq_true_eq, reduceCtorEq, true_iff, false_iff]; omega), (hM2_7.pick [1] (by decide) rfl)⟩
              · refine O.pass rfl rfl rfl rfl rfl ?_
                refine O.pass rfl rfl rfl rfl rfl ?_
                refine O.pass rfl rfl rfl rfl rfl ?_
                refine O.pass rfl rfl rfl rfl rfl ?_
                refine O.pass rfl rfl rfl rfl rfl ?_
                refine O.pass rfl rfl rfl rfl rfl ?_
                refine O.pass rfl rfl rfl rfl rfl ?_
                refine O.pass rfl rfl rfl rfl rfl ?_
                refine O.val (v := .bool (false)) rfl (Ru.pickF rfl rfl) rfl ?_
                refine O.val (v := .bool (false)) rfl (Ru.assign rfl) rfl ?_
                refine O.nil ?_
                refine C.ret ?_
                refine P1 (v := .bool (false)) rfl ?_
                exact ⟨(by rw [frB_L, hgp, fr_yi' (show (((T).l[(at0).toNat]'hx1_6)).t.keys.length ≤ 4 from (by show ((((T).l[(at0).toNat]'hx1_6)).k.l).length ≤ 4; omega)) (show validK (((T).l[(at0).toNat]'hx1_6)).t.keys = true from hvk) hr (by show 0 < (((T).l[(at0).toNat]'hx1_6)).c.l.length; omega) (vl := ((((T).l[(at0).toNat]'hx1_6)).v.l).length) (kl := ((((T).l[(at0).toNat]'hx1_6)).k.l).length) (cl := (((T).l[(at0).toNat]'hx1_6)).c.l.length) rfl rfl rfl]; refine congrArg Value.bool ?_; rw [Bool.eq_iff_iff]; simp only [Bool.and_eq_true, decide_eq_true_eq, reduceCtorEq, true_iff, false_iff]; omega), (hM2_7.pick [1] (by decide) rfl)⟩
            · refine O.pass rfl rfl rfl rfl rfl ?_
              refine O.pass rfl rfl rfl rfl rfl ?_
              refine O.pass rfl rfl rfl rfl rfl ?_
              refine O.pass rfl rfl rfl rfl rfl ?_
              refine O.val (v := .bool (false)) rfl (Ru.pickF rfl rfl) rfl ?_
              refine O.val (v := .bool (false)) rfl (Ru.move rfl) rfl ?_
              refine O.pass rfl rfl rfl rfl rfl ?_
              refine O.pass rfl rfl rfl rfl rfl ?_
              refine O.pass rfl rfl rfl rfl rfl ?_
              refine O.pass rfl rfl rfl rfl rfl ?_
              refine O.pass rfl rfl rfl rfl rfl ?_
              refine O.pass rfl rfl rfl rfl rfl ?_
              refine O.pass rfl rfl rfl rfl rfl ?_
              refine O.pass rfl rfl rfl rfl rfl ?_
              refine O.val (v := .bool (false)) rfl (Ru.pickF rfl rfl) rfl ?_
              refine O.val (v := .bool (false)) rfl (Ru.assign rfl) rfl ?_
              refine O.nil ?_
              refine C.ret ?_
              refine P1 (v := .bool (false)) rfl ?_
              exact ⟨(by rw [frB_L, hgp, fr_yi' (show (((T).l[(at0).toNat]'hx1_6)).t.keys.length ≤ 4 from (by show ((((T).l[(at0).toNat]'hx1_6)).k.l).length ≤ 4; omega)) (show validK (((T).l[(at0).toNat]'hx1_6)).t.keys = true from hvk) hr (by show 0 < (((T).l[(at0).toNat]'hx1_6)).c.l.length; omega) (vl := ((((T).l[(at0).toNat]'hx1_6)).v.l).length) (kl := ((((T).l[(at0).toNat]'hx1_6)).k.l).length) (cl := (((T).l[(at0).toNat]'hx1_6)).c.l.length) rfl rfl rfl]; refine congrArg Value.bool ?_; rw [Bool.eq_iff_iff]; simp only [Bool.and_eq_true, decide_eq_true_eq, reduceCtorEq, true_iff, false_iff]; omega), (hM2_7.pick [1] (by decide) rfl)⟩
          · refine C.skip ?_
            refine C.seq ?_
            refine C.seq ?_
            refine C.region ?_
            refine O.val (v := .pointer (ofs (bl b1_8) (2))) rfl (Ru.fieldA fl58_2 rfl rfl) rfl ?_
            refine O.val rfl (Ru.load1 el51 rfl ((hM2_7.rd 0 rfl).ld rfl)) rfl ?_
            refine O.val (v := I ((((((T).l)[(at0).toNat]'hx1_6).v.l.length : Nat) : Int))) rfl (Ru.blenSlice Tryd.underlying51 rfl) rfl ?_
            refine O.val (v := .pointer (ofs (bl b1_8) (0))) rfl (Ru.fieldA fl58_0 rfl rfl) rfl ?_
            refine O.val rfl (Ru.load1 el51 rfl ((hM2_7.rd 0 rfl).ld rfl)) rfl ?_
            refine O.val (v := I ((((((T).l)[(at0).toNat]'hx1_6).k.l.length : Nat) : Int))) rfl (Ru.blenSlice Tryd.underlying51 rfl) rfl ?_
            refine O.val (v := .bool (decide ((((((T).l)[(at0).toNat]'hx1_6).v.l.length : Nat) : Int) ≠ (((((T).l)[(at0).toNat]'hx1_6).k.l.length : Nat) : Int)))) rfl (Ru.neq rfl rfl) rfl ?_
            refine O.nil ?_
            refine C.cond (p := (((((T).l)[(at0).toNat]'hx1_6).v.l.length : Nat) : Int) ≠ (((((T).l)[(at0).toNat]'hx1_6).k.l.length : Nat) : Int)) rfl (fun c69 => ?_) (fun c69 => ?_)
            · refine C.seq ?_
              refine C.region ?_
              refine O.val (v := .bool (false)) rfl (Ru.assign rfl) rfl ?_
              refine O.nil ?_
              refine C.ret ?_
              refine P1 (v := .bool (false)) rfl ?_
              exact ⟨(by rw [frB_L, hgp, fr_yl' (show (((T).l[(at0).toNat]'hx1_6)).t.keys.length ≤ 4 from (by show ((((T).l[(at0).toNat]'hx1_6)).k.l).length ≤ 4; omega)) (show validK (((T).l[(at0).toNat]'hx1_6)).t.keys = true from hvk) hr (by show (((T).l[(at0).toNat]'hx1_6)).c.l.length = 0; omega) (V := (((T).l[(at0).toNat]'hx1_6)).v.l) (kl := ((((T).l[(at0).toNat]'hx1_6)).k.l).length) rfl rfl]; refine congrArg Value.bool (Eq.symm ?_); rw [Bool.and_eq_false_iff]; left; exact decide_eq_false (by omega)), (hM2_7.pick [1] (by decide) rfl)⟩
            · refine C.skip ?_
              refine C.seq ?_
              refine C.seq ?_
              refine C.region ?_
              refine O.val (v := .pointer (ofs (bl b1_8) (2))) rfl (Ru.fieldA fl58_2 rfl rfl) rfl ?_
              refine O.val rfl (Ru.load1 el51 rfl ((hM2_7.rd 0 rfl).ld rfl)) rfl ?_
              refine O.val (v := I ((((((T).l)[(at0).toNat]'hx1_6).v.l.length : Nat) : Int))) rfl (Ru.blenSlice Tryd.underlying51 rfl) rfl ?_
              refine O.val (v := I (0)) rfl (Ru.move rfl) rfl ?_
              refine O.nil ?_
              refine C.block ?_
              refine C.loop (ι := Nat) (fun k => ([(71, .slice ((((T).l)[(at0).toNat]'hx1_6).v.A) ((((T).l)[(at0).toNat]'hx1_6).v.l.length) ((((T).l)[(at0).toNat]'hx1_6).v.cp)), (72, I ((((((T).l)[(at0).toNat]'hx1_6).v.l.length : Nat) : Int))), (73, I (((k : Nat) : Int)))] : List (Nat × Value))) (fun k w_ => (k ≤ ((((T).l[(at0).toNat]'hx1_6)).v.l).length) ∧ ((((((T).l[(at0).toNat]'hx1_6)).v.l).take k).all isValB = true) ∧ (Mem w w_ [some b] [[⟨.slice (bl b1_8) 1 1, 58, 3, 1, [.slice ((((T).l)[(at0).toNat]'hx1_6).k.A) ((((T).l)[(at0).toNat]'hx1_6).k.l.length) ((((T).l)[(at0).toNat]'hx1_6).k.cp), .slice ((((T).l)[(at0).toNat]'hx1_6).c.A) ((((T).l)[(at0).toNat]'hx1_6).c.l.length) ((((T).l)[(at0).toNat]'hx1_6).c.cp), .slice ((((T).l)[(at0).toNat]'hx1_6).v.A) ((((T).l)[(at0).toNat]'hx1_6).v.l.length) ((((T).l)[(at0).toNat]'hx1_6).v.cp)]⟩], [⟨.slice (bl b) 1 1, 92, 19, 1, ckC T s ld⟩]])) (fun k => ((((T).l[(at0).toNat]'hx1_6)).v.l).length - k) (0) (Has.cons rfl (Has.cons rfl (Has.cons (I_congr (by first | rfl | omega | (simp; omega) | simp)) Has.nil))) ⟨(Nat.zero_le _), (by (try dsimp only); simp), (hM2_7.pick [0, 1] (by decide) rfl)⟩ (fun k σ w_l11 hI => ?_)
              try dsimp only at hI
              obtain ⟨hi0_l11, hi1_l11, hM_l11⟩ := hI
              refine C.seq ?_
              refine C.region ?_
              refine O.val (v := .bool (decide (((k : Nat) : Int) < (((((T).l)[(at0).toNat]'hx1_6).v.l.length : Nat) : Int)))) rfl (Ru.lss rfl rfl) rfl ?_
              refine O.nil ?_
              refine C.seq ?_
              refine C.cond (p := ((k : Nat) : Int) < (((((T).l)[(at0).toNat]'hx1_6).v.l.length : Nat) : Int)) rfl (fun c74 => ?_) (fun c74 => ?_)
              · refine C.skip ?_
                refine C.seq ?_
                refine C.block ?_
                refine C.seq ?_
                refine C.region ?_
                have hx12_0 : k < ((((T).l)[(at0).toNat]'hx1_6).v.l).length := (by first | omega | (simp; omega))
                refine O.val (v := .pointer (ofs ((((T).l)[(at0).toNat]'hx1_6).v.A) (k * 1))) rfl (Ru.indexA (j := k) Tryd.underlying51 el3 rfl rfl (smm (((hNT.atR hM_l11 hOT)).2.get hx1_6).2.2 hx12_0) (by omega) (by first | omega | (simp; omega))) rfl ?_
                refine O.val rfl (Ru.load1 el3 rfl (ldm (((hNT.atR hM_l11 hOT)).2.get hx1_6).2.2 hx12_0)) rfl ?_
                refine O.val (v := I (((((T).l)[(at0).toNat]'hx1_6).v.l)[k]'hx12_0)) rfl (Ru.assign rfl) rfl ?_
                refine O.nil ?_
                refine C.seq ?_
                refine C.region ?_
                refine O.val (v := I (((((T).l)[(at0).toNat]'hx1_6).v.l)[k]'hx12_0)) rfl (Ru.move rfl) rfl ?_
                refine O.callg [I (((((T).l)[(at0).toNat]'hx1_6).v.l)[k]'hx12_0)] rfl en69 rfl rfl (isValue_fn (((((T).l)[(at0).toNat]'hx1_6).v.l)[k]'hx12_0) w_l11 ) ?_
                rintro _ w13_1 ⟨rfl, hR13_1⟩
                have hM13_1 : Mem w w13_1 [some b] [[⟨.slice (bl b1_8) 1 1, 58, 3, 1, [.slice ((((T).l)[(at0).toNat]'hx1_6).k.A) ((((T).l)[(at0).toNat]'hx1_6).k.l.length) ((((T).l)[(at0).toNat]'hx1_6).k.cp), .slice ((((T).l)[(at0).toNat]'hx1_6).c.A) ((((T).l)[(at0).toNat]'hx1_6).c.l.length) ((((T).l)[(at0).toNat]'hx1_6).c.cp), .slice ((((T).l)[(at0).toNat]'hx1_6).v.A) ((((T).l)[(at0).toNat]'hx1_6).v.l.length) ((((T).l)[(at0).toNat]'hx1_6).v.cp)]⟩], [⟨.slice (bl b) 1 1, 92, 19, 1, ckC T s ld⟩]] := Mem.call (Ma := []) hM_l11 hR13_1 rfl
                refine O.val (v := .bool (!(isValB (((((T).l)[(at0).toNat]'hx1_6).v.l)[k]'hx12_0)))) rfl (Ru.not rfl) rfl ?_
                refine O.nil ?_
                refine C.condn (b := (isValB (((((T).l)[(at0).toNat]'hx1_6).v.l)[k]'hx12_0))) rfl (fun c79 => ?_) (fun c79 => ?_)
                · refine C.seq ?_
                  refine C.region ?_
                  refine O.val (v := .bool (false)) rfl (Ru.assign rfl) rfl ?_
                  refine O.nil ?_
                  refine C.ret ?_
                  refine P1 (v := .bool (false)) rfl ?_
                  exact ⟨(by rw [frB_L, hgp, fr_yl' (show (((T).l[(at0).toNat]'hx1_6)).t.keys.length ≤ 4 from (by show ((((T).l[(at0).toNat]'hx1_6)).k.l).length ≤ 4; omega)) (show validK (((T).l[(at0).toNat]'hx1_6)).t.keys = true from hvk) hr (by show (((T).l[(at0).toNat]'hx1_6)).c.l.length = 0; omega) (V := (((T).l[(at0).toNat]'hx1_6)).v.l) (kl := ((((T).l[(at0).toNat]'hx1_6)).k.l).length) rfl rfl]; refine congrArg Value.bool (Eq.symm ?_); rw [Bool.and_eq_false_iff]; right; exact all_no hx12_0 (by simpa using c79)), (hM13_1.pick [1] (by decide) rfl)⟩
                · refine C.skip ?_
                  refine C.region ?_
                  refine O.val (v := I ((((k + 1) : Nat) : Int))) rfl (Ru.congr (v := I ((((k : Nat) : Int) + 1))) (v' := I ((((k + 1) : Nat) : Int))) (Ru.add rfl rfl (by omega)) (I_congr (by first | omega | simp))) rfl ?_
                  refine O.val (v := I ((((k + 1) : Nat) : Int))) rfl (Ru.move rfl) rfl ?_
                  refine O.nil ?_
                  exact loopEnd (k + 1) (by (try dsimp only); omega) (Has.cons rfl (Has.cons rfl (Has.cons (I_congr (by first | rfl | omega | (simp; omega) | simp)) Has.nil))) ⟨(by (try dsimp only); omega), (all_keep hx12_0 hi1_l11 (by simpa using c79)), (hM13_1.pick [0, 1] (by decide) rfl)⟩
              · refine C.exit ?_
                refine C.seq ?_
                refine C.region ?_
                refine O.val (v := .bool (true)) rfl (Ru.assign rfl) rfl ?_
                refine O.nil ?_
                refine C.ret ?_
                refine P1 (v := .bool (true)) rfl ?_
                exact ⟨(by rw [frB_L, hgp, fr_yl' (show (((T).l[(at0).toNat]'hx1_6)).t.keys.length ≤ 4 from (by show ((((T).l[(at0).toNat]'hx1_6)).k.l).length ≤ 4; omega)) (show validK (((T).l[(at0).toNat]'hx1_6)).t.keys = true from hvk) hr (by show (((T).l[(at0).toNat]'hx1_6)).c.l.length = 0; omega) (V := (((T).l[(at0).toNat]'hx1_6)).v.l) (kl := ((((T).l[(at0).toNat]'hx1_6)).k.l).length) rfl rfl]; refine congrArg Value.bool (Eq.symm ?_); rw [Bool.and_eq_true]; exact ⟨decide_eq_true (by omega), all_done (by omega) hi1_l11⟩), (hM_l11.pick [1] (by decide) rfl)⟩
      · refine O.pass rfl rfl rfl rfl rfl ?_
        refine O.pass rfl rfl rfl rfl rfl ?_
        refine O.pass rfl rfl rfl rfl rfl ?_
        refine O.pass rfl rfl rfl rfl rfl ?_
        refine O.val (v := .bool (false)) rfl (Ru.pickF rfl rfl) rfl ?_
        refine O.nil ?_
        refine C.condF rfl ?_
        refine C.skip ?_
        refine C.seq ?_
        refine C.seq ?_
        have hr : at0 = (T).t.root ∨ 2 ≤ (((T).l[(at0).toNat]'hx1_6)).t.keys.length := by first | (left; exact Classical.not_not.1 g33) | (left; simpa using g33) | (right; show 2 ≤ ((((T).l[(at0).toNat]'hx1_6)).k.l).length; omega)
        refine C.region ?_
        refine O.val (v := .pointer (ofs (bl b1_8) (1))) rfl (Ru.fieldA fl58_1 rfl rfl) rfl ?_
        refine O.val rfl (Ru.load1 el51 rfl ((hM2_7.rd 0 rfl).ld rfl)) rfl ?_
        refine O.val (v := I ((((((T).l)[(at0).toNat]'hx1_6).c.l.length : Nat) : Int))) rfl (Ru.blenSlice Tryd.underlying51 rfl) rfl ?_
        refine O.val (v := .bool (decide ((((((T).l)[(at0).toNat]'hx1_6).c.l.length : Nat) : Int) > 0))) rfl (Ru.gtr rfl rfl) rfl ?_
        refine O.nil ?_
        refine C.cond (p := (((((T).l)[(at0).toNat]'hx1_6).c.l.length : Nat) : Int) > 0) rfl (fun c42 => ?_) (fun c42 => ?_)
        · refine C.seq ?_
          refine C.region ?_
          refine O.val (v := .pointer (ofs (bl b1_8) (2))) rfl (Ru.fieldA fl58_2 rfl rfl) rfl ?_
          refine O.val rfl (Ru.load1 el51 rfl ((hM2_7.rd 0 rfl).ld rfl)) rfl ?_
          refine O.val (v := I ((((((T).l)[(at0).toNat]'hx1_6).v.l.length : Nat) : Int))) rfl (Ru.blenSlice Tryd.underlying51 rfl) rfl ?_
          refine O.val (v := .bool (decide ((((((T).l)[(at0).toNat]'hx1_6).v.l.length : Nat) : Int) = 0))) rfl (Ru.eql rfl rfl) rfl ?_
          refine O.val (v := .bool (decide ((((((T).l)[(at0).toNat]'hx1_6).v.l.length : Nat) : Int) = 0))) rfl (Ru.move rfl) rfl ?_
          refine O.partp 47 ((((((T).l)[(at0).toNat]'hx1_6).v.l.length : Nat) : Int) = 0) rfl (fun g47 => ?_) (fun g47 => ?_)
          · refine O.val (v := .pointer (ofs (bl b1_8) (0))) rfl (Ru.fieldA fl58_0 rfl rfl) rfl ?_
            refine O.val rfl (Ru.load1 el51 rfl ((hM2_7.rd 0 rfl).ld rfl)) rfl ?_
            refine O.val (v := I ((((((T).l)[(at0).toNat]'hx1_6).k.l.length : Nat) : Int))) rfl (Ru.blenSlice Tryd.underlying51 rfl) rfl ?_
            refine O.val (v := .bool (decide ((((((T).l)[(at0).toNat]'hx1_6).k.l.length : Nat) : Int) ≥ 1))) rfl (Ru.geq rfl rfl) rfl ?_
            refine O.val (v := .bool (decide ((((((T).l)[(at0).toNat]'hx1_6).k.l.length : Nat) : Int) ≥ 1))) rfl (Ru.pickT rfl rfl) rfl ?_
            refine O.val (v := .bool (decide ((((((T).l)[(at0).toNat]'hx1_6).k.l.length : Nat) : Int) ≥ 1))) rfl (Ru.move rfl) rfl ?_
            refine O.partp 53 ((((((T).l)[(at0).toNat]'hx1_6).k.l.length : Nat) : Int) ≥ 1) rfl (fun g53 => ?_) (fun g53 => ?_)
            · refine O.val (v := .pointer (ofs (bl b1_8) (1))) rfl (Ru.fieldA fl58_1 rfl rfl) rfl ?_
              refine O.val rfl (Ru.load1 el51 rfl ((hM2_7.rd 0 rfl).ld rfl)) rfl ?_
              refine O.val (v := I ((((((T).l)[(at0).toNat]'hx1_6).c.l.length : Nat) : Int))) rfl (Ru.blenSlice Tryd.underlying51 rfl) rfl ?_
              refine O.val (v := .pointer (ofs (bl b1_8) (0))) rfl (Ru.fieldA fl58_0 rfl rfl) rfl ?_
              refine O.val rfl (Ru.load1 el51 rfl ((hM2_7.rd 0 rfl).ld rfl)) rfl ?_
              refine O.val (v := I ((((((T).l)[(at0).toNat]'hx1_6).k.l.length : Nat) : Int))) rfl (Ru.blenSlice Tryd.underlying51 rfl) rfl ?_
              refine O.val (v := I (((((((T).l)[(at0).toNat]'hx1_6).k.l.length + 1) : Nat) : Int))) rfl (Ru.congr (v := I (((((((T).l)[(at0).toNat]'hx1_6).k.l.length : Nat) : Int) + 1))) (v' := I (((((((T).l)[(at0).toNat]'hx1_6).k.l.length + 1) : Nat) : Int))) (Ru.add rfl rfl (by omega)) (I_congr (by first | omega | simp))) rfl ?_
              refine O.val (v := .bool (decide ((((((T).l)[(at0).toNat]'hx1_6).c.l.length : Nat) : Int) = ((((((T).l)[(at0).toNat]'hx1_6).k.l.length + 1) : Nat) : Int)))) rfl (Ru.eql rfl rfl) rfl ?_
              refine O.val (v := .bool (decide ((((((T).l)[(at0).toNat]'hx1_6).c.l.length : Nat) : Int) = ((((((T).l)[(at0).toNat]'hx1_6).k.l.length + 1) : Nat) : Int)))) rfl (Ru.pickT rfl rfl) rfl ?_
              refine O.val (v := .bool (decide ((((((T).l)[(at0).toNat]'hx1_6).c.l.length : Nat) : Int) = ((((((T).l)[(at0).toNat]'hx1_6).k.l.length + 1) : Nat) : Int)))) rfl (Ru.assign rfl) rfl ?_
              refine O.nil ?_
              refine C.ret ?_
              refine P1 (v := .bool (decide ((((((T).l)[(at0).toNat]'hx1_6).c.l.length : Nat) : Int) = ((((((T).l)[(at0).toNat]'hx1_6).k.l.length + 1) : Nat) : Int)))) rfl ?_
              exact ⟨(by rw [frB_L, hgp, fr_yi' (show (((T).l[(at0).toNat]'hx1_6)).t.keys.length ≤ 4 from (by show ((((T).l[(at0).toNat]'hx1_6)).k.l).length ≤ 4; omega)) (show validK (((T).l[(at0).toNat]'hx1_6)).t.keys = true from hvk) hr (by show 0 < (((T).l[(at0).toNat]'hx1_6)).c.l.length; omega) (vl := ((((T).l[(at0).toNat]'hx1_6)).v.l).length) (kl := ((((T).l[(at0).toNat]'hx1_6)).k.l).length) (cl := (((T).l[(at0).toNat]'hx1_6)).c.l.length) rfl rfl rfl]; refine congrArg Value.bool ?_; rw [Bool.eq_iff_iff]; simp only [Bool.and_eq_true, decide_eq_true_eq, reduceCtorEq, true_iff, false_iff]; omega), (hM2_7.pick [1] (by decide) rfl)⟩
            · refine O.pass rfl rfl rfl rfl rfl ?_
              refine O.pass rfl rfl rfl rfl rfl ?_
              refine O.pass rfl rfl rfl rfl rfl ?_
              refine O.pass rfl rfl rfl rfl rfl ?_
              refine O.pass rfl rfl rfl rfl rfl ?_
              refine O.pass rfl rfl rfl rfl rfl ?_
              refine O.pass rfl rfl rfl rfl rfl ?_
              refine O.pass rfl rfl rfl rfl rfl ?_
              refine O.val (v := .bool (false)) rfl (Ru.pickF rfl rfl) rfl ?_
              refine O.val (v := .bool (false)) rfl (Ru.assign rfl) rfl ?_
              refine O.nil ?_
              refine C.ret ?_
              refine P1 (v := .bool (false)) rfl ?_
              exact ⟨(by rw [frB_L, hgp, fr_yi' (show (((T).l[(at0).toNat]'hx1_6)).t.keys.length ≤ 4 from (by show ((((T).l[(at0).toNat]'hx1_6)).k.l).length ≤ 4; omega)) (show validK (((T).l[(at0).toNat]'hx1_6)).t.keys = true from hvk) hr (by show 0 < (((T).l[(at0).toNat]'hx1_6)).c.l.length; omega) (vl := ((((T).l[(at0).toNat]'hx1_6)).v.l).length) (kl := ((((T).l[(at0).toNat]'hx1_6)).k.l).length) (cl := (((T).l[(at0).toNat]'hx1_6)).c.l.length) rfl rfl rfl]; refine congrArg Value.bool ?_; rw [Bool.eq_iff_iff]; simp only [Bool.and_eq_true, decide_eq_true_eq, reduceCtorEq, true_iff, false_iff]; omega), (hM2_7.pick [1] (by decide) rfl)⟩
          · refine O.pass rfl rfl rfl rfl rfl ?_
            refine O.pass rfl rfl rfl rfl rfl ?_
            refine O.pass rfl rfl rfl rfl rfl ?_
            refine O.pass rfl rfl rfl rfl rfl ?_
            refine O.val (v := .bool (false)) rfl (Ru.pickF rfl rfl) rfl ?_
            refine O.val (v := .bool (false)) rfl (Ru.move rfl) rfl ?_
            refine O.pass rfl rfl rfl rfl rfl ?_
            refine O.pass rfl rfl rfl rfl rfl ?_
            refine O.pass rfl rfl rfl rfl rfl ?_
            refine O.pass rfl rfl rfl rfl rfl ?_
            refine O.pass rfl rfl rfl rfl rfl ?_
            refine O.pass rfl rfl rfl rfl rfl ?_
            refine O.pass rfl rfl rfl rfl rfl ?_
            refine O.pass rfl rfl rfl rfl rfl ?_
            refine O.val (v := .bool (false)) rfl (Ru.pickF rfl rfl) rfl ?_
            refine O.val (v := .bool (false)) rfl (Ru.assign rfl) rfl ?_
            refine O.nil ?_
            refine C.ret ?_
            refine P1 (v := .bool (false)) rfl ?_
            exact ⟨(by rw [frB_L, hgp, fr_yi' (show (((T).l[(at0).toNat]'hx1_6)).t.keys.length ≤ 4 from (by show ((((T).l[(at0).toNat]'hx1_6)).k.l).length ≤ 4; omega)) (show validK (((T).l[(at0).toNat]'hx1_6)).t.keys = true from hvk) hr (by show 0 < (((T).l[(at0).toNat]'hx1_6)).c.l.length; omega) (vl := ((((T).l[(at0).toNat]'hx1_6)).v.l).length) (kl := ((((T).l[(at0).toNat]'hx1_6)).k.l).length) (cl := (((T).l[(at0).toNat]'hx1_6)).c.l.length) rfl rfl rfl]; refine congrArg Value.bool ?_; rw [Bool.eq_iff_iff]; simp only [Bool.and_eq_true, decide_eq_true_eq, reduceCtorEq, true_iff, false_iff]; omega), (hM2_7.pick [1] (by decide) rfl)⟩
        · refine C.skip ?_
          refine C.seq ?_
          refine C.seq ?_
          refine C.region ?_
          refine O.val (v := .pointer (ofs (bl b1_8) (2))) rfl (Ru.fieldA fl58_2 rfl rfl) rfl ?_
          refine O.val rfl (Ru.load1 el51 rfl ((hM2_7.rd 0 rfl).ld rfl)) rfl ?_
          refine O.val (v := I ((((((T).l)[(at0).toNat]'hx1_6).v.l.length : Nat) : Int))) rfl (Ru.blenSlice Tryd.underlying51 rfl) rfl ?_
          refine O.val (v := .pointer (ofs (bl b1_8) (0))) rfl (Ru.fieldA fl58_0 rfl rfl) rfl ?_
          refine O.val rfl (Ru.load1 el51 rfl ((hM2_7.rd 0 rfl).ld rfl)) rfl ?_
          refine O.val (v := I ((((((T).l)[(at0).toNat]'hx1_6).k.l.length : Nat) : Int))) rfl (Ru.blenSlice Tryd.underlying51 rfl) rfl ?_
          refine O.val (v := .bool (decide ((((((T).l)[(at0).toNat]'hx1_6).v.l.length : Nat) : Int) ≠ (((((T).l)[(at0).toNat]'hx1_6).k.l.length : Nat) : Int)))) rfl (Ru.neq rfl rfl) rfl ?_
          refine O.nil ?_
          refine C.cond (p := (((((T).l)[(at0).toNat]'hx1_6).v.l.length : Nat) : Int) ≠ (((((T).l)[(at0).toNat]'hx1_6).k.l.length : Nat) : Int)) rfl (fun c69 => ?_) (fun c69 => ?_)
          · refine C.seq ?_
            refine C.region ?_
            refine O.val (v := .bool (false)) rfl (Ru.assign rfl) rfl ?_
            refine O.nil ?_
            refine C.ret ?_
            refine P1 (v := .bool (false)) rfl ?_
            exact ⟨(by rw [frB_L, hgp, fr_yl' (show (((T).l[(at0).toNat]'hx1_6)).t.keys.length ≤ 4 from (by show ((((T).l[(at0).toNat]'hx1_6)).k.l).length ≤ 4; omega)) (show validK (((T).l[(at0).toNat]'hx1_6)).t.keys = true from hvk) hr (by show (((T).l[(at0).toNat]'hx1_6)).c.l.length = 0; omega) (V := (((T).l[(at0).toNat]'hx1_6)).v.l) (kl := ((((T).l[(at0).toNat]'hx1_6)).k.l).length) rfl rfl]; refine congrArg Value.bool (Eq.symm ?_); rw [Bool.and_eq_false_iff]; left; exact decide_eq_false (by omega)), (hM2_7.pick [1] (by decide) rfl)⟩
          · refine C.skip ?_
            refine C.seq ?_
            refine C.seq ?_
            refine C.region ?_
            refine O.val (v := .pointer (ofs (bl b1_8) (2))) rfl (Ru.fieldA fl58_2 rfl rfl) rfl ?_
            refine O.val rfl (Ru.load1 el51 rfl ((hM2_7.rd 0 rfl).ld rfl)) rfl ?_
            refine O.val (v := I ((((((T).l)[(at0).toNat]'hx1_6).v.l.length : Nat) : Int))) rfl (Ru.blenSlice Tryd.underlying51 rfl) rfl ?_
            refine O.val (v := I (0)) rfl (Ru.move rfl) rfl ?_
            refine O.nil ?_
            refine C.block ?_
            refine C.loop (ι := Nat) (fun k => ([(71, .slice ((((T).l)[(at0).toNat]'hx1_6).v.A) ((((T).l)[(at0).toNat]'hx1_6).v.l.length) ((((T).l)[(at0).toNat]'hx1_6).v.cp)), (72, I ((((((T).l)[(at0).toNat]'hx1_6).v.l.length : Nat) : Int))), (73, I (((k : Nat) : Int)))] : List (Nat × Value))) (fun k w_ => (k ≤ ((((T).l[(at0).toNat]'hx1_6)).v.l).length) ∧ ((((((T).l[(at0).toNat]'hx1_6)).v.l).take k).all isValB = true) ∧ (Mem w w_ [some b] [[⟨.slice (bl b1_8) 1 1, 58, 3, 1, [.slice ((((T).l)[(at0).toNat]'hx1_6).k.A) ((((T).l)[(at0).toNat]'hx1_6).k.l.length) ((((T).l)[(at0).toNat]'hx1_6).k.cp), .slice ((((T).l)[(at0).toNat]'hx1_6).c.A) ((((T).l)[(at0).toNat]'hx1_6).c.l.length) ((((T).l)[(at0).toNat]'hx1_6).c.cp), .slice ((((T).l)[(at0).toNat]'hx1_6).v.A) ((((T).l)[(at0).toNat]'hx1_6).v.l.length) ((((T).l)[(at0).toNat]'hx1_6).v.cp)]⟩], [⟨.slice (bl b) 1 1, 92, 19, 1, ckC T s ld⟩]])) (fun k => ((((T).l[(at0).toNat]'hx1_6)).v.l).length - k) (0) (Has.cons rfl (Has.cons rfl (Has.cons (I_congr (by first | rfl | omega | (simp; omega) | simp)) Has.nil))) ⟨(Nat.zero_le _), (by (try dsimp only); simp), (hM2_7.pick [0, 1] (by decide) rfl)⟩ (fun k σ w_l11 hI => ?_)
            try dsimp only at hI
            obtain ⟨hi0_l11, hi1_l11, hM_l11⟩ := hI
            refine C.seq ?_
            refine C.region ?_
            refine O.val (v := .bool (decide (((k : Nat) : Int) < (((((T).l)[(at0).toNat]'hx1_6).v.l.length : Nat) : Int)))) rfl (Ru.lss rfl rfl) rfl ?_
            refine O.nil ?_
            refine C.seq ?_
            refine C.cond (p := ((k : Nat) : Int) < (((((T).l)[(at0).toNat]'hx1_6).v.l.length : Nat) : Int)) rfl (fun c74 => ?_) (fun c74 => ?_)
            · refine C.skip ?_
              refine C.seq ?_
              refine C.block ?_
              refine C.seq ?_
              refine C.region ?_
              have hx12_0 : k < ((((T).l)[(at0).toNat]'hx1_6).v.l).length := (by first | omega | (simp; omega))
              refine O.val (v := .pointer (ofs ((((T).l)[(at0).toNat]'hx1_6).v.A) (k * 1))) rfl (Ru.indexA (j := k) Tryd.underlying51 el3 rfl rfl (smm (((hNT.atR hM_l11 hOT)).2.get hx1_6).2.2 hx12_0) (by omega) (by first | omega | (simp; omega))) rfl ?_
              refine O.val rfl (Ru.load1 el3 rfl (ldm (((hNT.atR hM_l11 hOT)).2.get hx1_6).2.2 hx12_0)) rfl ?_
              refine O.val (v := I (((((T).l)[(at0).toNat]'hx1_6).v.l)[k]'hx12_0)) rfl (Ru.assign rfl) rfl ?_
              refine O.nil ?_
              refine C.seq ?_
              refine C.region ?_
              refine O.val (v := I (((((T).l)[(at0).toNat]'hx1_6).v.l)[k]'hx12_0)) rfl (Ru.move rfl) rfl ?_
              refine O.callg [I (((((T).l)[(at0).toNat]'hx1_6).v.l)[k]'hx12_0)] rfl en69 rfl rfl (isValue_fn (((((T).l)[(at0).toNat]'hx1_6).v.l)[k]'hx12_0) w_l11 ) ?_
              rintro _ w13_1 ⟨rfl, hR13_1⟩
              have hM13_1 : Mem w w13_1 [some b] [[⟨.slice (bl b1_8) 1 1, 58, 3, 1, [.slice ((((T).l)[(at0).toNat]'hx1_6).k.A) ((((T).l)[(at0).toNat]'hx1_6).k.l.length) ((((T).l)[(at0).toNat]'hx1_6).k.cp), .slice ((((T).l)[(at0).toNat]'hx1_6).c.A) ((((T).l)[(at0).toNat]'hx1_6).c.l.length) ((((T).l)[(at0).toNat]'hx1_6).c.cp), .slice ((((T).l)[(at0).toNat]'hx1_6).v.A) ((((T).l)[(at0).toNat]'hx1_6).v.l.length) ((((T).l)[(at0).toNat]'hx1_6).v.cp)]⟩], [⟨.slice (bl b) 1 1, 92, 19, 1, ckC T s ld⟩]] := Mem.call (Ma := []) hM_l11 hR13_1 rfl
              refine O.val (v := .bool (!(isValB (((((T).l)[(at0).toNat]'hx1_6).v.l)[k]'hx12_0)))) rfl (Ru.not rfl) rfl ?_
              refine O.nil ?_
              refine C.condn (b := (isValB (((((T).l)[(at0).toNat]'hx1_6).v.l)[k]'hx12_0))) rfl (fun c79 => ?_) (fun c79 => ?_)
              · refine C.seq ?_
                refine C.region ?_
                refine O.val (v := .bool (false)) rfl (Ru.assign rfl) rfl ?_
                refine O.nil ?_
                refine C.ret ?_
                refine P1 (v := .bool (false)) rfl ?_
                exact ⟨(by rw [frB_L, hgp, fr_yl' (show (((T).l[(at0).toNat]'hx1_6)).t.keys.length ≤ 4 from (by show ((((T).l[(at0).toNat]'hx1_6)).k.l).length ≤ 4; omega)) (show validK (((T).l[(at0).toNat]'hx1_6)).t.keys = true from hvk) hr (by show (((T).l[(at0).toNat]'hx1_6)).c.l.length = 0; omega) (V := (((T).l[(at0).toNat]'hx1_6)).v.l) (kl := ((((T).l[(at0).toNat]'hx1_6)).k.l).length) rfl rfl]; refine congrArg Value.bool (Eq.symm ?_); rw [Bool.and_eq_false_iff]; right; exact all_no hx12_0 (by simpa using c79)), (hM13_1.pick [1] (by decide) rfl)⟩
              · refine C.skip ?_
                refine C.region ?_
                refine O.val (v := I ((((k + 1) : Nat) : Int))) rfl (Ru.congr (v := I ((((k : Nat) : Int) + 1))) (v' := I ((((k + 1) : Nat) : Int))) (Ru.add rfl rfl (by omega)) (I_congr (by first | omega | simp))) rfl ?_
                refine O.val (v := I ((((k + 1) : Nat) : Int))) rfl (Ru.move rfl) rfl ?_
                refine O.nil ?_
                exact loopEnd (k + 1) (by (try dsimp only); omega) (Has.cons rfl (Has.cons rfl (Has.cons (I_congr (by first | rfl | omega | (simp; omega) | simp)) Has.nil))) ⟨(by (try dsimp only); omega), (all_keep hx12_0 hi1_l11 (by simpa using c79)), (hM13_1.pick [0, 1] (by decide) rfl)⟩
            · refine C.exit ?_
              refine C.seq ?_
              refine C.region ?_
              refine O.val (v := .bool (true)) rfl (Ru.assign rfl) rfl ?_
              refine O.nil ?_
              refine C.ret ?_
              refine P1 (v := .bool (true)) rfl ?_
              exact ⟨(by rw [frB_L, hgp, fr_yl' (show (((T).l[(at0).toNat]'hx1_6)).t.keys.length ≤ 4 from (by show ((((T).l[(at0).toNat]'hx1_6)).k.l).length ≤ 4; omega)) (show validK (((T).l[(at0).toNat]'hx1_6)).t.keys = true from hvk) hr (by show (((T).l[(at0).toNat]'hx1_6)).c.l.length = 0; omega) (V := (((T).l[(at0).toNat]'hx1_6)).v.l) (kl := ((((T).l[(at0).toNat]'hx1_6)).k.l).length) rfl rfl]; refine congrArg Value.bool (Eq.symm ?_); rw [Bool.and_eq_true]; exact ⟨decide_eq_true (by omega), all_done (by omega) hi1_l11⟩), (hM_l11.pick [1] (by decide) rfl)⟩

theorem visit0_fn (b : Nat) (at0 : Int) (dp : Int) (low : Int) (high : Int) (T : TreeL) (s : List Int) (ld : Int) (w : World) (hNT : TrN w T) (hOT : TrO T [some b]) (hM : Mem w w [some b] [[⟨.slice (bl b) 1 1, 92, 19, 1, ckC T s ld⟩]]) (hs : SzT T) (h16 : (T).l.length ≤ 16) (hn : 0 ≤ 3) (hd : dp = 3 - (0 : Int)) :
    Does Tryd.prog 67 [.pointer (ofs (bl b) (0)), I (at0), I (dp), I (low), I (high)] w (fun v w1 => ∃ (s1 : List Int) (l1 : Int), v = .bool ((visT (T).t 0 at0 low high s ld).isSome) ∧ (∀ q, visT (T).t 0 at0 low high s ld = some q → q = (s1, l1)) ∧ Mem w w1 [some b] [[⟨.slice (bl b) 1 1, 92, 19, 1, ckC T s1 l1⟩]]) := by
  refine Does.enter1 Tryd.func67 rfl Tryd.results67 Tryd.ntmps67 rfl ?_
  refine C.seq ?_
  refine C.region ?_
  refine O.val (v := .bool (false)) rfl (Ru.assign rfl) rfl ?_
  refine O.nil ?_
  refine C.seq ?_
  refine C.seq ?_
  refine C.region ?_
  refine O.val (v := I (at0)) rfl (Ru.move rfl) rfl ?_
  refine O.val (v := .bool (decide (at0 < 0))) rfl (Ru.lss rfl rfl) rfl ?_
  refine O.val (v := .bool (decide (at0 < 0))) rfl (Ru.move rfl) rfl ?_
  refine O.partp 20 (at0 < 0) rfl (fun g20 => ?_) (fun g20 => ?_)
  · refine O.pass rfl rfl rfl rfl rfl ?_
    refine O.pass rfl rfl rfl rfl rfl ?_
    refine O.pass rfl rfl rfl rfl rfl ?_
    refine O.pass rfl rfl rfl rfl rfl ?_
    refine O.pass rfl rfl rfl rfl rfl ?_
    refine O.pass rfl rfl rfl rfl rfl ?_
    refine O.pass rfl rfl rfl rfl rfl ?_
    refine O.pass rfl rfl rfl rfl rfl ?_
    refine O.val (v := .bool (true)) rfl (Ru.pickT rfl rfl) rfl ?_
    refine O.val (v := .bool (true)) rfl (Ru.move rfl) rfl ?_
    refine O.pass rfl rfl rfl rfl rfl ?_
    refine O.pass rfl rfl rfl rfl rfl ?_
    refine O.val (v := .bool (true)) rfl (Ru.pickT rfl rfl) rfl ?_
    refine O.val (v := .bool (true)) rfl (Ru.move rfl) rfl ?_
    refine O.pass rfl rfl rfl rfl rfl ?_
    refine O.pass rfl rfl rfl rfl rfl ?_
    refine O.pass rfl rfl rfl rfl rfl ?_
    refine O.pass rfl rfl rfl rfl rfl ?_
    refine O.pass rfl rfl rfl rfl rfl ?_
    refine O.pass rfl rfl rfl rfl rfl ?_
    refine O.val (v := .bool (true)) rfl (Ru.pickT rfl rfl) rfl ?_
    refine O.nil ?_
    refine C.condT rfl ?_
    refine C.seq ?_
    refine C.region ?_
    refine O.val (v := .bool (false)) rfl (Ru.assign rfl) rfl ?_
    refine O.nil ?_
    refine C.ret ?_
    refine P1 (v := .bool (false)) rfl ?_
    exact ⟨s, ld, rfl, (fun q9 hq9 => by cases hq9), (hM.pick [0] (by decide) rfl)⟩
  · refine O.val (v := I (at0)) rfl (Ru.move rfl) rfl ?_
    refine O.val (v := .pointer (ofs (bl b) (0))) rfl (Ru.move rfl) rfl ?_
    refine O.val (v := .pointer (ofs (bl b) (0))) rfl (Ru.nilc rfl rfl) rfl ?_
    refine O.val (v := .pointer (ofs (bl b) (0))) rfl (Ru.fieldA fl92_0 rfl rfl) rfl ?_
    refine O.val (v := .pointer (ofs (bl b) (1))) rfl (Ru.fieldA fl39_1 rfl rfl) rfl ?_
    refine O.val (v := .slice ((T).A) ((T).l.length) ((T).cp)) rfl (Ru.load1 el37 rfl ((hM.rd 0 rfl).ld (k := 1) rfl)) rfl ?_
    refine O.val (v := I ((((T).l.length : Nat) : Int))) rfl (Ru.blenSlice Tryd.underlying37 rfl) rfl ?_
    refine O.val (v := .bool (decide (at0 ≥ (((T).l.length : Nat) : Int)))) rfl (Ru.geq rfl rfl) rfl ?_
    refine O.val (v := .bool (decide (at0 ≥ (((T).l.length : Nat) : Int)))) rfl (Ru.pickF rfl rfl) rfl ?_
    refine O.val (v := .bool (decide (at0 ≥ (((T).l.length : Nat) : Int)))) rfl (Ru.move rfl) rfl ?_
    refine O.partp 30 (at0 ≥ (((T).l.length : Nat) : Int)) rfl (fun g30 => ?_) (fun g30 => ?_)
    · refine O.pass rfl rfl rfl rfl rfl ?_
      refine O.pass rfl rfl rfl rfl rfl ?_
      refine O.val (v := .bool (true)) rfl (Ru.pickT rfl rfl) rfl ?_
      refine O.val (v := .bool (true)) rfl (Ru.move rfl) rfl ?_
      refine O.pass rfl rfl rfl rfl rfl ?_
      refine O.pass rfl rfl rfl rfl rfl ?_
      refine O.pass rfl rfl rfl rfl rfl ?_
      refine O.pass rfl rfl rfl rfl rfl ?_
      refine O.pass rfl rfl rfl rfl rfl ?_
      refine O.pass rfl rfl rfl rfl rfl ?_
      refine O.val (v := .bool (true)) rfl (Ru.pickT rfl rfl) rfl ?_
      refine O.nil ?_
      refine C.condT rfl ?_
      refine C.seq ?_
      refine C.region ?_
      refine O.val (v := .bool (false)) rfl (Ru.assign rfl) rfl ?_
      refine O.nil ?_
      refine C.ret ?_
      refine P1 (v := .bool (false)) rfl ?_
      exact ⟨s, ld, rfl, (fun q9 hq9 => by cases hq9), (hM.pick [0] (by decide) rfl)⟩
    · refine O.val (v := I (dp)) rfl (Ru.move rfl) rfl ?_
      refine O.val (v := .bool (decide (dp ≥ 3))) rfl (Ru.geq rfl rfl) rfl ?_
      refine O.val (v := .bool (decide (dp ≥ 3))) rfl (Ru.pickF rfl rfl) rfl ?_
      refine O.val (v := .bool (decide (dp ≥ 3))) rfl (Ru.move rfl) rfl ?_
      refine O.partp 34 (dp ≥ 3) rfl (fun g34 => ?_) (fun g34 => ?_)
      · refine O.pass rfl rfl rfl rfl rfl ?_
        refine O.pass rfl rfl rfl rfl rfl ?_
        refine O.pass rfl rfl rfl rfl rfl ?_
        refine O.pass rfl rfl rfl rfl rfl ?_
        refine O.pass rfl rfl rfl rfl rfl ?_
        refine O.pass rfl rfl rfl rfl rfl ?_
        refine O.val (v := .bool (true)) rfl (Ru.pickT rfl rfl) rfl ?_
        refine O.nil ?_
        refine C.condT rfl ?_
        refine C.seq ?_
        refine C.region ?_
        refine O.val (v := .bool (false)) rfl (Ru.assign rfl) rfl ?_
        refine O.nil ?_
        refine C.ret ?_
        refine P1 (v := .bool (false)) rfl ?_
        exact ⟨s, ld, rfl, (fun q9 hq9 => by cases hq9), (hM.pick [0] (by decide) rfl)⟩
      · exfalso; omega

set_option maxHeartbeats 2000000 in
theorem visitS_fn (n : Nat) (ih_fn : ∀ (b : Nat) (at0 : Int) (dp : Int) (low : Int) (high : Int) (T : TreeL) (s : List Int) (ld : Int) (w : World) (hNT : TrN w T) (hOT : TrO T [some b]) (hM : Mem w w [some b] [[⟨.slice (bl b) 1 1, 92, 19, 1, ckC T s ld⟩]]) (hs : SzT T) (h16 : (T).l.length ≤ 16) (hn : n ≤ 3) (hd : dp = 3 - (n : Int)), Does Tryd.prog 67 [.pointer (ofs (bl b) (0)), I (at0), I (dp), I (low), I (high)] w (fun v w1 => ∃ (s1 : List Int) (l1 : Int), v = .bool ((visT (T).t n at0 low high s ld).isSome) ∧ (∀ q, visT (T).t n at0 low high s ld = some q → q = (s1, l1)) ∧ Mem w w1 [some b] [[⟨.slice (bl b) 1 1, 92, 19, 1, ckC T s1 l1⟩]])) (b : Nat) (at0 : Int) (dp : Int) (low : Int) (high : Int) (T : TreeL) (s : List Int) (ld : Int) (w : World) (hNT : TrN w T) (hOT : TrO T [some b]) (hM : Mem w w [some b] [[⟨.slice (bl b) 1 1, 92, 19, 1, ckC T s ld⟩]]) (hs : SzT T) (h16 : (T).l.length ≤ 16) (hn : (n + 1) ≤ 3) (hd : dp = 3 - ((n + 1) : Int)) :
    Does Tryd.prog 67 [.pointer (ofs (bl b) (0)), I (at0), I (dp), I (low), I (high)] w (fun v w1 => ∃ (s1 : List Int) (l1 : Int), v = .bool ((visT (T).t (n + 1) at0 low high s ld).isSome) ∧ (∀ q, visT (T).t (n + 1) at0 low high s ld = some q → q = (s1, l1)) ∧ Mem w w1 [some b] [[⟨.slice (bl b) 1 1, 92, 19, 1, ckC T s1 l1⟩]]) := by
  refine Does.enter1 Tryd.func67 rfl Tryd.results67 Tryd.ntmps67 rfl ?_
  refine C.seq ?_
  refine C.region ?_
  refine O.val (v := .bool (false)) rfl (Ru.assign rfl) rfl ?_
  refine O.nil ?_
  refine C.seq ?_
  refine C.seq ?_
  refine C.region ?_
  refine O.val (v := I (at0)) rfl (Ru.move rfl) rfl ?_
  refine O.val (v := .bool (decide (at0 < 0))) rfl (Ru.lss rfl rfl) rfl ?_
  refine O.val (v := .bool (decide (at0 < 0))) rfl (Ru.move rfl) rfl ?_
  refine O.partp 20 (at0 < 0) rfl (fun g20 => ?_) (fun g20 => ?_)
  · refine O.pass rfl rfl rfl rfl rfl ?_
    refine O.pass rfl rfl rfl rfl rfl ?_
    refine O.pass rfl rfl rfl rfl rfl ?_
    refine O.pass rfl rfl rfl rfl rfl ?_
    refine O.pass rfl rfl rfl rfl rfl ?_
    refine O.pass rfl rfl rfl rfl rfl ?_
    refine O.pass rfl rfl rfl rfl rfl ?_
    refine O.pass rfl rfl rfl rfl rfl ?_
    refine O.val (v := .bool (true)) rfl (Ru.pickT rfl rfl) rfl ?_
    refine O.val (v := .bool (true)) rfl (Ru.move rfl) rfl ?_
    refine O.pass rfl rfl rfl rfl rfl ?_
    refine O.pass rfl rfl rfl rfl rfl ?_
    refine O.val (v := .bool (true)) rfl (Ru.pickT rfl rfl) rfl ?_
    refine O.val (v := .bool (true)) rfl (Ru.move rfl) rfl ?_
    refine O.pass rfl rfl rfl rfl rfl ?_
    refine O.pass rfl rfl rfl rfl rfl ?_
    refine O.pass rfl rfl rfl rfl rfl ?_
    refine O.pass rfl rfl rfl rfl rfl ?_
    refine O.pass rfl rfl rfl rfl rfl ?_
    refine O.pass rfl rfl rfl rfl rfl ?_
    refine O.val (v := .bool (true)) rfl (Ru.pickT rfl rfl) rfl ?_
    refine O.nil ?_
    refine C.condT rfl ?_
    refine C.seq ?_
    refine C.region ?_
    refine O.val (v := .bool (false)) rfl (Ru.assign rfl) rfl ?_
    refine O.nil ?_
    refine C.ret ?_
    refine P1 (v := .bool (false)) rfl ?_
    have hno : visT (T).t (n + 1) at0 low high s ld = none := vis_no1 (by first | exact .inr (by assumption) | (left; cases h9 : inT (T).t at0 with | false => rfl | true => (have := inT_t.1 h9; exfalso; omega)))
    exact ⟨s, ld, (by rw [hno]; rfl), (fun q9 hq9 => by rw [hno] at hq9; cases hq9), (hM.pick [0] (by decide) rfl)⟩
  · refine O.val (v := I (at0)) rfl (Ru.move rfl) rfl ?_
    refine O.val (v := .pointer (ofs (bl b) (0))) rfl (Ru.move rfl) rfl ?_
    refine O.val (v := .pointer (ofs (bl b) (0))) rfl (Ru.nilc rfl rfl) rfl ?_
    refine O.val (v := .pointer (ofs (bl b) (0))) rfl (Ru.fieldA fl92_0 rfl rfl) rfl ?_
    refine O.val (v := .pointer (ofs (bl b) (1))) rfl (Ru.fieldA fl39_1 rfl rfl) rfl ?_
    refine O.val (v := .slice ((T).A) ((T).l.length) ((T).cp)) rfl (Ru.load1 el37 rfl ((hM.rd 0 rfl).ld (k := 1) rfl)) rfl ?_
    refine O.val (v := I ((((T).l.length : Nat) : Int))) rfl (Ru.blenSlice Tryd.underlying37 rfl) rfl ?_
    refine O.val (v := .bool (decide (at0 ≥ (((T).l.length : Nat) : Int)))) rfl (Ru.geq rfl rfl) rfl ?_
    refine O.val (v := .bool (decide (at0 ≥ (((T).l.length : Nat) : Int)))) rfl (Ru.pickF rfl rfl) rfl ?_
    refine O.val (v := .bool (decide (at0 ≥ (((T).l.length : Nat) : Int)))) rfl (Ru.move rfl) rfl ?_
    refine O.partp 30 (at0 ≥ (((T).l.length : Nat) : Int)) rfl (fun g30 => ?_) (fun g30 => ?_)
    · refine O.pass rfl rfl rfl rfl rfl ?_
      refine O.pass rfl rfl rfl rfl rfl ?_
      refine O.val (v := .bool (true)) rfl (Ru.pickT rfl rfl) rfl ?_
      refine O.val (v := .bool (true)) rfl (Ru.move rfl) rfl ?_
      refine O.pass rfl rfl rfl rfl rfl ?_
      refine O.pass rfl rfl rfl rfl rfl ?_
      refine O.pass rfl rfl rfl rfl rfl ?_
      refine O.pass rfl rfl rfl rfl rfl ?_
      refine O.pass rfl rfl rfl rfl rfl ?_
      refine O.pass rfl rfl rfl rfl rfl ?_
      refine O.val (v := .bool (true)) rfl (Ru.pickT rfl rfl) rfl ?_
      refine O.nil ?_
      refine C.condT rfl ?_
      refine C.seq ?_
      refine C.region ?_
      refine O.val (v := .bool (false)) rfl (Ru.assign rfl) rfl ?_
      refine O.nil ?_
      refine C.ret ?_
      refine P1 (v := .bool (false)) rfl ?_
      have hno : visT (T).t (n + 1) at0 low high s ld = none := vis_no1 (by first | exact .inr (by assumption) | (left; cases h9 : inT (T).t at0 with | false => rfl | true => (have := inT_t.1 h9; exfalso; omega)))
      exact ⟨s, ld, (by rw [hno]; rfl), (fun q9 hq9 => by rw [hno] at hq9; cases hq9), (hM.pick [0] (by decide) rfl)⟩
    · refine O.val (v := I (dp)) rfl (Ru.move rfl) rfl ?_
      refine O.val (v := .bool (decide (dp ≥ 3))) rfl (Ru.geq rfl rfl) rfl ?_
      refine O.val (v := .bool (decide (dp ≥ 3))) rfl (Ru.pickF rfl rfl) rfl ?_
      refine O.val (v := .bool (decide (dp ≥ 3))) rfl (Ru.move rfl) rfl ?_
      refine O.partp 34 (dp ≥ 3) rfl (fun g34 => ?_) (fun g34 => ?_)
      · exfalso; omega
      · refine O.val (v := .pointer (ofs (bl b) (0))) rfl (Ru.move rfl) rfl ?_
        refine O.val (v := I (at0)) rfl (Ru.move rfl) rfl ?_
        refine O.val (v := .pointer (ofs (bl b) (0))) rfl (Ru.nilc rfl rfl) rfl ?_
        refine O.val (v := .pointer (ofs (bl b) (2))) rfl (Ru.fieldA fl92_1 rfl rfl) rfl ?_
        have hx1_21 : 0 ≤ at0 ∧ at0 < 16 := (by omega)
        refine O.val (v := .pointer (ofs (bl b) (2 + (at0).toNat))) rfl (Ru.indexArrK (j := (at0).toNat) Tryd.underlying90 el4 rfl rfl rfl rfl rfl hx1_21) rfl ?_
        refine O.val (v := .bool (decide (at0 ∈ s))) rfl (Ru.load1 el4 rfl ((hM.rd 0 rfl).ld (ck_getI hx1_21))) rfl ?_
        refine O.val (v := .bool (decide (at0 ∈ s))) rfl (Ru.pickF rfl rfl) rfl ?_
        refine O.nil ?_
        refine C.cond (p := at0 ∈ s) rfl (fun c41 => ?_) (fun c41 => ?_)
        · refine C.seq ?_
          refine C.region ?_
          refine O.val (v := .bool (false)) rfl (Ru.assign rfl) rfl ?_
          refine O.nil ?_
          refine C.ret ?_
          refine P1 (v := .bool (false)) rfl ?_
          have hno : visT (T).t (n + 1) at0 low high s ld = none := vis_no1 (by first | exact .inr (by assumption) | (left; cases h9 : inT (T).t at0 with | false => rfl | true => (have := inT_t.1 h9; exfalso; omega)))
          exact ⟨s, ld, (by rw [hno]; rfl), (fun q9 hq9 => by rw [hno] at hq9; cases hq9), (hM.pick [0] (by decide) rfl)⟩
        · refine C.skip ?_
          refine C.seq ?_
          refine C.region ?_
          refine O.val (v := .pointer (ofs (bl b) (0))) rfl (Ru.move rfl) rfl ?_
          refine O.val (v := I (at0)) rfl (Ru.move rfl) rfl ?_
          refine O.val (v := .pointer (ofs (bl b) (0))) rfl (Ru.nilc rfl rfl) rfl ?_
          refine O.val (v := .pointer (ofs (bl b) (2))) rfl (Ru.fieldA fl92_1 rfl rfl) rfl ?_
          have hx3_4 : 0 ≤ at0 ∧ at0 < 16 := (by omega)
          refine O.val (v := .pointer (ofs (bl b) (2 + (at0).toNat))) rfl (Ru.indexArrK (j := (at0).toNat) Tryd.underlying90 el4 rfl rfl rfl rfl rfl hx3_4) rfl ?_
          refine O.mstore (vs := [.bool (true)]) (xs' := ckC T (s ++ [at0]) ld) 0 0 hM rfl rfl rfl el4 rfl rfl rfl rfl rfl (by simp [ckC]; omega) (by simp) (ck_setI hx3_4) rfl (fun w3_5 (hM3_5 : Mem w w3_5 [some b] [[⟨.slice (bl b) 1 1, 92, 19, 1, ckC T (s ++ [at0]) ld⟩]]) => ?_)
          refine O.nil ?_
          refine C.seq ?_
          refine C.seq ?_
          refine C.region ?_
          refine O.val (v := .pointer (ofs (bl b) (0))) rfl (Ru.move rfl) rfl ?_
          refine O.val (v := I (at0)) rfl (Ru.move rfl) rfl ?_
          refine O.callg [.pointer (ofs (bl b) (0)), I (at0)] rfl en102 rfl rfl (filledRight_fn b at0 T (s ++ [at0]) (ld) w3_5 (hNT.atR hM3_5 hOT) (TrO.cons (TrO.own hM3_5 hNT hOT 0 rfl) TrO.nil) (Mem.focus (Ma := [[⟨.slice (bl b) 1 1, 92, 19, 1, ckC T (s ++ [at0]) ld⟩]]) (rest := []) hM3_5 rfl) (by first | omega | assumption | (simp; omega) | simp | (intros; omega)) (by omega)) ?_
          rintro _ w4_2 ⟨rfl, hR4_2⟩
          have hM4_2 : Mem w w4_2 [some b] [[⟨.slice (bl b) 1 1, 92, 19, 1, ckC T (s ++ [at0]) (ld)⟩]] := Mem.call (Ma := [[⟨.slice (bl b) 1 1, 92, 19, 1, ckC T (s ++ [at0]) ld⟩]]) hM3_5 hR4_2 rfl
          refine O.val (v := .bool (!(frB (T).t at0))) rfl (Ru.not rfl) rfl ?_
          refine O.nil ?_
          refine C.condn (b := (frB (T).t at0)) rfl (fun c50 => ?_) (fun c50 => ?_)
          · refine C.seq ?_
            refine C.region ?_
            refine O.val (v := .bool (false)) rfl (Ru.assign rfl) rfl ?_
            refine O.nil ?_
            refine C.ret ?_
            refine P1 (v := .bool (false)) rfl ?_
            have hno : visT (T).t (n + 1) at0 low high s ld = none := vis_no2 (.inl (by simpa using c50))
            exact ⟨(s ++ [at0]), (ld), (by rw [hno]; rfl), (fun q9 hq9 => by rw [hno] at hq9; cases hq9), (hM4_2.pick [0] (by decide) rfl)⟩
          · have hfb : frB (T).t at0 = true := by simpa using c50
            refine C.skip ?_
            refine C.seq ?_
            refine C.region ?_
            refine O.val (v := .pointer (ofs (bl b) (0))) rfl (Ru.move rfl) rfl ?_
            refine O.val (v := .pointer (ofs (bl b) (0))) rfl (Ru.nilc rfl rfl) rfl ?_
            refine O.val (v := .pointer (ofs (bl b) (0))) rfl (Ru.fieldA fl92_0 rfl rfl) rfl ?_
            refine O.val (v := .pointer (ofs (bl b) (1))) rfl (Ru.fieldA fl39_1 rfl rfl) rfl ?_
            refine O.val (v := .slice ((T).A) ((T).l.length) ((T).cp)) rfl (Ru.load1 el37 rfl ((hM4_2.rd 0 rfl).ld (k := 1) rfl)) rfl ?_
            refine O.val (v := I (at0)) rfl (Ru.move rfl) rfl ?_
            have hx6_6 : (at0).toNat < ((T).l).length := (by first | omega | (simp; omega))
            refine O.val (v := .pointer (ofs ((T).A) (((at0).toNat) * 3))) rfl (Ru.indexA (j := (at0).toNat) Tryd.underlying37 el58 rfl rfl (smf encPg_len (hNT.atR hM4_2 hOT).1 hx6_6 rfl) (by omega) (by first | omega | (simp; omega))) rfl ?_
            refine O.val rfl (Ru.loadN (vs := [.slice ((((T).l)[(at0).toNat]'hx6_6).k.A) ((((T).l)[(at0).toNat]'hx6_6).k.l.length) ((((T).l)[(at0).toNat]'hx6_6).k.cp), .slice ((((T).l)[(at0).toNat]'hx6_6).c.A) ((((T).l)[(at0).toNat]'hx6_6).c.l.length) ((((T).l)[(at0).toNat]'hx6_6).c.cp), .slice ((((T).l)[(at0).toNat]'hx6_6).v.A) ((((T).l)[(at0).toNat]'hx6_6).v.l.length) ((((T).l)[(at0).toNat]'hx6_6).v.cp)]) el58 rfl rfl (smf encPg_len (hNT.atR hM4_2 hOT).1 hx6_6 rfl) (ldn encPg_len (hNT.atR hM4_2 hOT).1 hx6_6)) rfl ?_
            have hgp : gP (T).t at0 = (((T).l[(at0).toNat]'hx6_6)).t := gP_at rfl hx6_6
            have hsz := hs.at hx6_6
            have hl4 := fr_len hfb
            rw [hgp] at hl4
            simp only [PgL.t] at hl4
            have hki : (gP (T).t at0).kids = (((T).l[(at0).toNat]'hx6_6)).c.l := by rw [hgp]; rfl
            refine O.malloc (k := 3) hM4_2 rfl rfl el58 rfl (fun w6_8 b6_8 hb6_8 (hM6_8 : Mem w w6_8 [some b] [[⟨.slice (bl b6_8) 1 1, 58, 3, 1, [.slice (none) (0) (0), .slice (none) (0) (0), .slice (none) (0) (0)]⟩], [⟨.slice (bl b) 1 1, 92, 19, 1, ckC T (s ++ [at0]) (ld)⟩]]) => ?_)
            refine O.mstore (vs := [.slice ((((T).l)[(at0).toNat]'hx6_6).k.A) ((((T).l)[(at0).toNat]'hx6_6).k.l.length) ((((T).l)[(at0).toNat]'hx6_6).k.cp), .slice ((((T).l)[(at0).toNat]'hx6_6).c.A) ((((T).l)[(at0).toNat]'hx6_6).c.l.length) ((((T).l)[(at0).toNat]'hx6_6).c.cp), .slice ((((T).l)[(at0).toNat]'hx6_6).v.A) ((((T).l)[(at0).toNat]'hx6_6).v.l.length) ((((T).l)[(at0).toNat]'hx6_6).v.cp)]) (xs' := [.slice ((((T).l)[(at0).toNat]'hx6_6).k.A) ((((T).l)[(at0).toNat]'hx6_6).k.l.length) ((((T).l)[(at0).toNat]'hx6_6).k.cp), .slice ((((T).l)[(at0).toNat]'hx6_6).c.A) ((((T).l)[(at0).toNat]'hx6_6).c.l.length) ((((T).l)[(at0).toNat]'hx6_6).c.cp), .slice ((((T).l)[(at0).toNat]'hx6_6).v.A) ((((T).l)[(at0).toNat]'hx6_6).v.l.length) ((((T).l)[(at0).toNat]'hx6_6).v.cp)]) 0 0 hM6_8 rfl rfl rfl el58 rfl rfl rfl rfl rfl (by simp) (by simp) rfl rfl (fun w6_9 (hM6_9 : Mem w w6_9 [some b] [[⟨.slice (bl b6_8) 1 1, 58, 3, 1, [.slice ((((T).l)[(at0).toNat]'hx6_6).k.A) ((((T).l)[(at0).toNat]'hx6_6).k.l.length) ((((T).l)[(at0).toNat]'hx6_6).k.cp), .slice ((((T).l)[(at0).toNat]'hx6_6).c.A) ((((T).l)[(at0).toNat]'hx6_6).c.l.length) ((((T).l)[(at0).toNat]'hx6_6).c.cp), .slice ((((T).l)[(at0).toNat]'hx6_6).v.A) ((((T).l)[(at0).toNat]'hx6_6).v.l.length) ((((T).l)[(at0).toNat]'hx6_6).v.cp)]⟩], [⟨.slice (bl b) 1 1, 92, 19, 1, ckC T (s ++ [at0]) (ld)⟩]]) => ?_)
            refine O.nil ?_
            refine C.seq ?_
            refine C.seq ?_
            refine C.region ?_
            refine O.val (v := .pointer (ofs (bl b6_8) (0))) rfl (Ru.fieldA fl58_0 rfl rfl) rfl ?_
            refine O.val rfl (Ru.load1 el51 rfl ((hM6_9.rd 0 rfl).ld rfl)) rfl ?_
            refine O.val (v := I ((((((T).l)[(at0).toNat]'hx6_6).k.l.length : Nat) : Int))) rfl (Ru.blenSlice Tryd.underlying51 rfl) rfl ?_
            refine O.val (v := I (0)) rfl (Ru.move rfl) rfl ?_
            refine O.nil ?_
            refine C.block ?_
            refine C.loop (ι := Nat) (fun k => ([(0, .pointer (ofs (bl b) (0))), (2, I (dp)), (3, I (low)), (4, I (high)), (11, .pointer (ofs (bl b6_8) (0))), (60, .slice ((((T).l)[(at0).toNat]'hx6_6).k.A) ((((T).l)[(at0).toNat]'hx6_6).k.l.length) ((((T).l)[(at0).toNat]'hx6_6).k.cp)), (61, I ((((((T).l)[(at0).toNat]'hx6_6).k.l.length : Nat) : Int))), (62, I (((k : Nat) : Int)))] : List (Nat × Value))) (fun k w_ => (k ≤ ((((T).l[(at0).toNat]'hx6_6)).k.l).length) ∧ ((((((T).l[(at0).toNat]'hx6_6)).k.l).take k).all (fun k9 => decide (low ≤ k9) && decide (k9 < high)) = true) ∧ (Mem w w_ [some b] [[⟨.slice (bl b6_8) 1 1, 58, 3, 1, [.slice ((((T).l)[(at0).toNat]'hx6_6).k.A) ((((T).l)[(at0).toNat]'hx6_6).k.l.length) ((((T).l)[(at0).toNat]'hx6_6).k.cp), .slice ((((T).l)[(at0).toNat]'hx6_6).c.A) ((((T).l)[(at0).toNat]'hx6_6).c.l.length) ((((T).l)[(at0).toNat]'hx6_6).c.cp), .slice ((((T).l)[(at0).toNat]'hx6_6).v.A) ((((T).l)[(at0).toNat]'hx6_6).v.l.length) ((((T).l)[(at0).toNat]'hx6_6).v.cp)]⟩], [⟨.slice (bl b) 1 1, 92, 19, 1, ckC T (s ++ [at0]) (ld)⟩]])) (fun k => ((((T).l[(at0).toNat]'hx6_6)).k.l).length - k) (0) (Has.cons rfl (Has.cons rfl (Has.cons rfl (Has.cons rfl (Has.cons rfl (Has.cons rfl (Has.cons rfl (Has.cons (I_congr (by first | rfl | omega | (simp; omega) | simp)) Has.nil)))))))) ⟨(Nat.zero_le _), (by (try dsimp only); simp), (hM6_9.pick [0, 1] (by decide) rfl)⟩ (fun k σ w_l8 hI => ?_)
            try dsimp only at hI
            obtain ⟨hi0_l8, hi1_l8, hM_l8⟩ := hI
            refine C.seq ?_
            refine C.region ?_
            refine O.val (v := .bool (decide (((k : Nat) : Int) < (((((T).l)[(at0).toNat]'hx6_6).k.l.length : Nat) : Int)))) rfl (Ru.lss rfl rfl) rfl ?_
            refine O.nil ?_
            refine C.seq ?_
            refine C.cond (p := ((k : Nat) : Int) < (((((T).l)[(at0).toNat]'hx6_6).k.l.length : Nat) : Int)) rfl (fun c63 => ?_) (fun c63 => ?_)
            · refine C.skip ?_
              refine C.seq ?_
              refine C.block ?_
              refine C.seq ?_
              refine C.region ?_
              have hx9_0 : k < ((((T).l)[(at0).toNat]'hx6_6).k.l).length := (by first | omega | (simp; omega))
              refine O.val (v := .pointer (ofs ((((T).l)[(at0).toNat]'hx6_6).k.A) (k * 1))) rfl (Ru.indexA (j := k) Tryd.underlying51 el3 rfl rfl (smm (((hNT.atR hM_l8 hOT)).2.get hx6_6).1 hx9_0) (by omega) (by first | omega | (simp; omega))) rfl ?_
              refine O.val rfl (Ru.load1 el3 rfl (ldm (((hNT.atR hM_l8 hOT)).2.get hx6_6).1 hx9_0)) rfl ?_
              refine O.val (v := I (((((T).l)[(at0).toNat]'hx6_6).k.l)[k]'hx9_0)) rfl (Ru.assign rfl) rfl ?_
              refine O.nil ?_
              refine C.seq ?_
              refine C.region ?_
              refine O.val (v := I (((((T).l)[(at0).toNat]'hx6_6).k.l)[k]'hx9_0)) rfl (Ru.move rfl) rfl ?_
              refine O.val (v := I (low)) rfl (Ru.move rfl) rfl ?_
              refine O.val (v := .bool (decide (((((T).l)[(at0).toNat]'hx6_6).k.l)[k]'hx9_0 < low))) rfl (Ru.lss rfl rfl) rfl ?_
              refine O.val (v := .bool (decide (((((T).l)[(at0).toNat]'hx6_6).k.l)[k]'hx9_0 < low))) rfl (Ru.move rfl) rfl ?_
              refine O.partp 69 (((((T).l)[(at0).toNat]'hx6_6).k.l)[k]'hx9_0 < low) rfl (fun g69 => ?_) (fun g69 => ?_)
              · refine O.pass rfl rfl rfl rfl rfl ?_
                refine O.pass rfl rfl rfl rfl rfl ?_
                refine O.pass rfl rfl rfl rfl rfl ?_
                refine O.val (v := .bool (true)) rfl (Ru.pickT rfl rfl) rfl ?_
                refine O.nil ?_
                refine C.condT rfl ?_
                refine C.seq ?_
                refine C.region ?_
                refine O.val (v := .bool (false)) rfl (Ru.assign rfl) rfl ?_
                refine O.nil ?_
                refine C.ret ?_
                refine P1 (v := .bool (false)) rfl ?_
                have hno : visT (T).t (n + 1) at0 low high s ld = none := vis_no2 (.inr (by rw [hgp]; exact kin_bad (show k < (((T).l[(at0).toNat]'hx6_6)).t.keys.length from hx9_0) (by first | (left; assumption) | (right; assumption) | (show ((((T).l[(at0).toNat]'hx6_6)).k.l)[k] < low ∨ ((((T).l[(at0).toNat]'hx6_6)).k.l)[k] ≥ high; omega))))
                exact ⟨(s ++ [at0]), (ld), (by rw [hno]; rfl), (fun q9 hq9 => by rw [hno] at hq9; cases hq9), (hM_l8.pick [1] (by decide) rfl)⟩
              · refine O.val (v := I (((((T).l)[(at0).toNat]'hx6_6).k.l)[k]'hx9_0)) rfl (Ru.move rfl) rfl ?_
                refine O.val (v := I (high)) rfl (Ru.move rfl) rfl ?_
                refine O.val (v := .bool (decide (((((T).l)[(at0).toNat]'hx6_6).k.l)[k]'hx9_0 ≥ high))) rfl (Ru.geq rfl rfl) rfl ?_
                refine O.val (v := .bool (decide (((((T).l)[(at0).toNat]'hx6_6).k.l)[k]'hx9_0 ≥ high))) rfl (Ru.pickF rfl rfl) rfl ?_
                refine O.nil ?_
                refine C.cond (p := ((((T).l)[(at0).toNat]'hx6_6).k.l)[k]'hx9_0 ≥ high) rfl (fun c73 => ?_) (fun c73 => ?_)
                · refine C.seq ?_
                  refine C.region ?_
                  refine O.val (v := .bool (false)) rfl (Ru.assign rfl) rfl ?_
                  refine O.nil ?_
                  refine C.ret ?_
                  refine P1 (v := .bool (false)) rfl ?_
                  have hno : visT (T).t (n + 1) at0 low high s ld = none := vis_no2 (.inr (by rw [hgp]; exact kin_bad (show k < (((T).l[(at0).toNat]'hx6_6)).t.keys.length from hx9_0) (by first | (left; assumption) | (right; assumption) | (show ((((T).l[(at0).toNat]'hx6_6)).k.l)[k] < low ∨ ((((T).l[(at0).toNat]'hx6_6)).k.l)[k] ≥ high; omega))))
                  exact ⟨(s ++ [at0]), (ld), (by rw [hno]; rfl), (fun q9 hq9 => by rw [hno] at hq9; cases hq9), (hM_l8.pick [1] (by decide) rfl)⟩
                · refine C.skip ?_
                  refine C.region ?_
                  refine O.val (v := I ((((k + 1) : Nat) : Int))) rfl (Ru.congr (v := I ((((k : Nat) : Int) + 1))) (v' := I ((((k + 1) : Nat) : Int))) (Ru.add rfl rfl (by omega)) (I_congr (by first | omega | simp))) rfl ?_
                  refine O.val (v := I ((((k + 1) : Nat) : Int))) rfl (Ru.move rfl) rfl ?_
                  refine O.nil ?_
                  exact loopEnd (k + 1) (by (try dsimp only); omega) (Has.cons rfl (Has.cons rfl (Has.cons rfl (Has.cons rfl (Has.cons rfl (Has.cons rfl (Has.cons rfl (Has.cons (I_congr (by first | rfl | omega | (simp; omega) | simp)) Has.nil)))))))) ⟨(by (try dsimp only); omega), (all_keep hx9_0 hi1_l8 (by simp; omega)), (hM_l8.pick [0, 1] (by decide) rfl)⟩
            · refine C.exit ?_
              refine C.seq ?_
              refine C.seq ?_
              have hkin : keysIn (gP (T).t at0) low high = true := by rw [hgp]; exact all_done (by show ((((T).l[(at0).toNat]'hx6_6)).k.l).length ≤ k; omega) hi1_l8
              refine C.region ?_
              refine O.val (v := .pointer (ofs (bl b6_8) (1))) rfl (Ru.fieldA fl58_1 rfl rfl) rfl ?_
              refine O.val rfl (Ru.load1 el51 rfl ((hM_l8.rd 0 rfl).ld rfl)) rfl ?_
              refine O.val (v := I ((((((T).l)[(at0).toNat]'hx6_6).c.l.length : Nat) : Int))) rfl (Ru.blenSlice Tryd.underlying51 rfl) rfl ?_
              refine O.val (v := .bool (decide ((((((T).l)[(at0).toNat]'hx6_6).c.l.length : Nat) : Int) = 0))) rfl (Ru.eql rfl rfl) rfl ?_
              refine O.nil ?_
              refine C.cond (p := (((((T).l)[(at0).toNat]'hx6_6).c.l.length : Nat) : Int) = 0) rfl (fun c78 => ?_) (fun c78 => ?_)
              · have hk0 : (gP (T).t at0).kids = [] := by rw [hki]; exact List.eq_nil_of_length_eq_zero (by omega)
                have hvl := vis_leaf (T := (T).t) (n := n) (low := low) (high := high) (ld := ld) (inT_t.2 (by omega)) c41 hfb (by first | assumption | exact hkin) hk0
                refine C.seq ?_
                refine C.seq ?_
                refine C.region ?_
                refine O.val (v := .pointer (ofs (bl b) (0))) rfl (Ru.move rfl) rfl ?_
                refine O.val (v := .pointer (ofs (bl b) (0))) rfl (Ru.nilc rfl rfl) rfl ?_
                refine O.val (v := .pointer (ofs (bl b) (18))) rfl (Ru.fieldA fl92_2 rfl rfl) rfl ?_
                refine O.val (v := I ((ld))) rfl (Ru.load1 el3 rfl ((hM_l8.rd 1 rfl).ld (k := 18) rfl)) rfl ?_
                refine O.val (v := .bool (decide ((ld) < 0))) rfl (Ru.lss rfl rfl) rfl ?_
                refine O.nil ?_
                refine C.cond (p := (ld) < 0) rfl (fun c83 => ?_) (fun c83 => ?_)
                · refine C.region ?_
                  refine O.val (v := .pointer (ofs (bl b) (0))) rfl (Ru.move rfl) rfl ?_
                  refine O.val (v := I (dp)) rfl (Ru.move rfl) rfl ?_
                  refine O.val (v := .pointer (ofs (bl b) (0))) rfl (Ru.nilc rfl rfl) rfl ?_
                  refine O.val (v := .pointer (ofs (bl b) (18))) rfl (Ru.fieldA fl92_2 rfl rfl) rfl ?_
                  refine O.mstore (vs := [I (dp)]) (xs' := ckC T (s ++ [at0]) dp) 1 0 hM_l8 rfl rfl rfl el3 rfl rfl rfl rfl rfl (by simp [ckC]) (by simp) ck_ld rfl (fun w15_4 (hM15_4 : Mem w w15_4 [some b] [[⟨.slice (bl b6_8) 1 1, 58, 3, 1, [.slice ((((T).l)[(at0).toNat]'hx6_6).k.A) ((((T).l)[(at0).toNat]'hx6_6).k.l.length) ((((T).l)[(at0).toNat]'hx6_6).k.cp), .slice ((((T).l)[(at0).toNat]'hx6_6).c.A) ((((T).l)[(at0).toNat]'hx6_6).c.l.length) ((((T).l)[(at0).toNat]'hx6_6).c.cp), .slice ((((T).l)[(at0).toNat]'hx6_6).v.A) ((((T).l)[(at0).toNat]'hx6_6).v.l.length) ((((T).l)[(at0).toNat]'hx6_6).v.cp)]⟩], [⟨.slice (bl b) 1 1, 92, 19, 1, ckC T (s ++ [at0]) dp⟩]]) => ?_)
                  refine O.nil ?_
                  refine C.seq ?_
                  refine C.region ?_
                  refine O.val (v := .pointer (ofs (bl b) (0))) rfl (Ru.move rfl) rfl ?_
                  refine O.val (v := .pointer (ofs (bl b) (0))) rfl (Ru.nilc rfl rfl) rfl ?_
                  refine O.val (v := .pointer (ofs (bl b) (18))) rfl (Ru.fieldA fl92_2 rfl rfl) rfl ?_
                  refine O.val (v := I (dp)) rfl (Ru.load1 el3 rfl ((hM15_4.rd 1 rfl).ld (k := 18) rfl)) rfl ?_
                  refine O.val (v := I (dp)) rfl (Ru.move rfl) rfl ?_
                  refine O.val (v := .bool (true)) rfl (Ru.congr (v := .bool (decide (dp = dp))) (v' := .bool (true)) (Ru.eql rfl rfl) (congrArg Value.bool (by simp))) rfl ?_
                  refine O.val (v := .bool (true)) rfl (Ru.assign rfl) rfl ?_
                  refine O.nil ?_
                  refine C.ret ?_
                  refine P1 (v := .bool (true)) rfl ?_
                  exact ⟨(s ++ [at0]), dp, (by rw [hvl]; first | (split <;> simp <;> omega) | (rw [if_pos (.inl c83)]; rfl)), (fun q9 hq9 => by rw [hvl] at hq9; split at hq9; (have h8 := Option.some.inj hq9; rw [← h8]; congr 1; omega); cases hq9), (hM15_4.pick [1] (by decide) rfl)⟩
                · refine C.skip ?_
                  refine C.seq ?_
                  refine C.region ?_
                  refine O.val (v := .pointer (ofs (bl b) (0))) rfl (Ru.move rfl) rfl ?_
                  refine O.val (v := .pointer (ofs (bl b) (0))) rfl (Ru.nilc rfl rfl) rfl ?_
                  refine O.val (v := .pointer (ofs (bl b) (18))) rfl (Ru.fieldA fl92_2 rfl rfl) rfl ?_
                  refine O.val (v := I ((ld))) rfl (Ru.load1 el3 rfl ((hM_l8.rd 1 rfl).ld (k := 18) rfl)) rfl ?_
                  refine O.val (v := I (dp)) rfl (Ru.move rfl) rfl ?_
                  refine O.val (v := .bool (decide ((ld) = dp))) rfl (Ru.eql rfl rfl) rfl ?_
                  refine O.val (v := .bool (decide ((ld) = dp))) rfl (Ru.assign rfl) rfl ?_
                  refine O.nil ?_
                  refine C.ret ?_
                  refine P1 (v := .bool (decide ((ld) = dp))) rfl ?_
                  exact ⟨(s ++ [at0]), (ld), (by rw [hvl]; first | (split <;> simp <;> omega) | (rw [if_pos (.inl c83)]; rfl)), (fun q9 hq9 => by rw [hvl] at hq9; split at hq9; (have h8 := Option.some.inj hq9; rw [← h8]; congr 1; omega); cases hq9), (hM_l8.pick [1] (by decide) rfl)⟩
              · have hk0 : (gP (T).t at0).kids ≠ [] := by rw [hki]; intro e9; apply c78; rw [e9]; rfl
                have hvi := vis_in (T := (T).t) (n := n) (low := low) (high := high) (ld := ld) (inT_t.2 (by omega)) c41 hfb (by first | assumption | exact hkin) hk0
                have hkl := (fr_in hfb hk0).2
                rw [hki, hgp] at hkl
                simp only [PgL.t] at hkl
                rw [hki] at hvi
                refine C.skip ?_
                refine C.seq ?_
                refine C.seq ?_
                refine C.region ?_
                refine O.val (v := .pointer (ofs (bl b6_8) (1))) rfl (Ru.fieldA fl58_1 rfl rfl) rfl ?_
                refine O.val rfl (Ru.load1 el51 rfl ((hM_l8.rd 0 rfl).ld rfl)) rfl ?_
                refine O.val (v := I ((((((T).l)[(at0).toNat]'hx6_6).c.l.length : Nat) : Int))) rfl (Ru.blenSlice Tryd.underlying51 rfl) rfl ?_
                refine O.val (v := I (0)) rfl (Ru.move rfl) rfl ?_
                refine O.nil ?_
                refine C.block ?_
                refine C.loop (ι := Nat × (List Int) × Int) (fun x_ => ([(0, .pointer (ofs (bl b) (0))), (2, I (dp)), (3, I (low)), (4, I (high)), (11, .pointer (ofs (bl b6_8) (0))), (95, .slice ((((T).l)[(at0).toNat]'hx6_6).c.A) ((((T).l)[(at0).toNat]'hx6_6).c.l.length) ((((T).l)[(at0).toNat]'hx6_6).c.cp)), (96, I ((((((T).l)[(at0).toNat]'hx6_6).c.l.length : Nat) : Int))), (97, I (((x_.1 : Nat) : Int)))] : List (Nat × Value))) (fun x_ w_ => (x_.1 ≤ ((((T).l[(at0).toNat]'hx6_6)).c.l).length) ∧ (visK (fun k9 x9 s9 l9 => visT (T).t n x9 (lowK (gP (T).t at0) low k9) (highK (gP (T).t at0) high k9) s9 l9) x_.1 (((((T).l[(at0).toNat]'hx6_6)).c.l).drop x_.1) x_.2.1 x_.2.2 = visT (T).t (n + 1) at0 low high s ld) ∧ (Mem w w_ [some b] [[⟨.slice (bl b6_8) 1 1, 58, 3, 1, [.slice ((((T).l)[(at0).toNat]'hx6_6).k.A) ((((T).l)[(at0).toNat]'hx6_6).k.l.length) ((((T).l)[(at0).toNat]'hx6_6).k.cp), .slice ((((T).l)[(at0).toNat]'hx6_6).c.A) ((((T).l)[(at0).toNat]'hx6_6).c.l.length) ((((T).l)[(at0).toNat]'hx6_6).c.cp), .slice ((((T).l)[(at0).toNat]'hx6_6).v.A) ((((T).l)[(at0).toNat]'hx6_6).v.l.length) ((((T).l)[(at0).toNat]'hx6_6).v.cp)]⟩], [⟨.slice (bl b) 1 1, 92, 19, 1, ckC T x_.2.1 x_.2.2⟩]])) (fun x_ => ((((T).l[(at0).toNat]'hx6_6)).c.l).length - x_.1) (0, ((s ++ [at0])), ((ld))) (Has.cons rfl (Has.cons rfl (Has.cons rfl (Has.cons rfl (Has.cons rfl (Has.cons rfl (Has.cons rfl (Has.cons (I_congr (by first | rfl | omega | (simp; omega) | simp)) Has.nil)))))))) ⟨(Nat.zero_le _), (by (try dsimp only); rw [List.drop_zero]; exact hvi.symm), (hM_l8.pick [0, 1] (by decide) rfl)⟩ (fun ⟨k, s2, l2⟩ σ w_l18 hI => ?_)
                try dsimp only at hI
                obtain ⟨hi0_l18, hi1_l18, hM_l18⟩ := hI
                refine C.seq ?_
                refine C.region ?_
                refine O.val (v := .bool (decide (((k : Nat) : Int) < (((((T).l)[(at0).toNat]'hx6_6).c.l.length : Nat) : Int)))) rfl (Ru.lss rfl rfl) rfl ?_
                refine O.nil ?_
                refine C.seq ?_
                refine C.cond (p := ((k : Nat) : Int) < (((((T).l)[(at0).toNat]'hx6_6).c.l.length : Nat) : Int)) rfl (fun c98 => ?_) (fun c98 => ?_)
                · refine C.skip ?_
                  refine C.seq ?_
                  refine C.block ?_
                  refine C.seq ?_
                  refine C.region ?_
                  refine O.val (v := I (((k : Nat) : Int))) rfl (Ru.move rfl) rfl ?_
                  have hx19_1 : k < ((((T).l)[(at0).toNat]'hx6_6).c.l).length := (by first | omega | (simp; omega))
                  refine O.val (v := .pointer (ofs ((((T).l)[(at0).toNat]'hx6_6).c.A) (k * 1))) rfl (Ru.indexA (j := k) Tryd.underlying51 el3 rfl rfl (smm (((hNT.atR hM_l18 hOT)).2.get hx6_6).2.1 hx19_1) (by omega) (by first | omega | (simp; omega))) rfl ?_
                  refine O.val rfl (Ru.load1 el3 rfl (ldm (((hNT.atR hM_l18 hOT)).2.get hx6_6).2.1 hx19_1)) rfl ?_
                  refine O.val (v := I (((k : Nat) : Int))) rfl (Ru.assign rfl) rfl ?_
                  refine O.val (v := I (((((T).l)[(at0).toNat]'hx6_6).c.l)[k]'hx19_1)) rfl (Ru.assign rfl) rfl ?_
                  refine O.nil ?_
                  refine C.seq ?_
                  refine C.region ?_
                  refine O.val (v := I (low)) rfl (Ru.move rfl) rfl ?_
                  refine O.val (v := I (high)) rfl (Ru.move rfl) rfl ?_
                  refine O.val (v := I (low)) rfl (Ru.assign rfl) rfl ?_
                  refine O.val (v := I (high)) rfl (Ru.assign rfl) rfl ?_
                  refine O.nil ?_
                  refine C.cut (ι := Unit) (fun _u => ([(0, .pointer (ofs (bl b) (0))), (2, I (dp)), (3, I (low)), (4, I (high)), (11, .pointer (ofs (bl b6_8) (0))), (14, I (((k : Nat) : Int))), (15, I (((((T).l)[(at0).toNat]'hx6_6).c.l)[k]'hx19_1)), (16, I (lowK (gP (T).t at0) low k)), (17, I (high)), (95, .slice ((((T).l)[(at0).toNat]'hx6_6).c.A) ((((T).l)[(at0).toNat]'hx6_6).c.l.length) ((((T).l)[(at0).toNat]'hx6_6).c.cp)), (96, I ((((((T).l)[(at0).toNat]'hx6_6).c.l.length : Nat) : Int))), (97, I (((k : Nat) : Int)))] : List (Nat × Value))) (fun _u w_ => (Mem w w_ [some b] [[⟨.slice (bl b6_8) 1 1, 58, 3, 1, [.slice ((((T).l)[(at0).toNat]'hx6_6).k.A) ((((T).l)[(at0).toNat]'hx6_6).k.l.length) ((((T).l)[(at0).toNat]'hx6_6).k.cp), .slice ((((T).l)[(at0).toNat]'hx6_6).c.A) ((((T).l)[(at0).toNat]'hx6_6).c.l.length) ((((T).l)[(at0).toNat]'hx6_6).c.cp), .slice ((((T).l)[(at0).toNat]'hx6_6).v.A) ((((T).l)[(at0).toNat]'hx6_6).v.l.length) ((((T).l)[(at0).toNat]'hx6_6).v.cp)]⟩], [⟨.slice (bl b) 1 1, 92, 19, 1, ckC T s2 l2⟩]])) ?_ (fun _ σ w_c105 hI => ?_)
                  · refine C.seq ?_
                    refine C.region ?_
                    refine O.val (v := I (((k : Nat) : Int))) rfl (Ru.move rfl) rfl ?_
                    refine O.val (v := .bool (decide (((k : Nat) : Int) > 0))) rfl (Ru.gtr rfl rfl) rfl ?_
                    refine O.nil ?_
                    refine C.cond (p := ((k : Nat) : Int) > 0) rfl (fun c105 => ?_) (fun c105 => ?_)
                    · refine C.region ?_
                      refine O.val (v := .pointer (ofs (bl b6_8) (0))) rfl (Ru.fieldA fl58_0 rfl rfl) rfl ?_
                      refine O.val rfl (Ru.load1 el51 rfl ((hM_l18.rd 0 rfl).ld rfl)) rfl ?_
                      refine O.val (v := I (((k : Nat) : Int))) rfl (Ru.move rfl) rfl ?_
                      refine O.val (v := I ((((k : Nat) : Int) - 1))) rfl (Ru.sub rfl rfl (by omega)) rfl ?_
                      have hx22_4 : k - 1 < ((((T).l)[(at0).toNat]'hx6_6).k.l).length := (by first | omega | (simp; omega))
                      refine O.val (v := .pointer (ofs ((((T).l)[(at0).toNat]'hx6_6).k.A) ((k - 1) * 1))) rfl (Ru.indexA (j := k - 1) Tryd.underlying51 el3 rfl rfl (smm (((hNT.atR hM_l18 hOT)).2.get hx6_6).1 hx22_4) (by omega) (by omega)) rfl ?_
                      refine O.val rfl (Ru.load1 el3 rfl (ldm (((hNT.atR hM_l18 hOT)).2.get hx6_6).1 hx22_4)) rfl ?_
                      refine O.val (v := I (((((T).l)[(at0).toNat]'hx6_6).k.l)[k - 1]'hx22_4)) rfl (Ru.assign rfl) rfl ?_
                      refine O.nil ?_
                      exact cutEnd () (Has.cons rfl (Has.cons rfl (Has.cons rfl (Has.cons rfl (Has.cons rfl (Has.cons rfl (Has.cons rfl (Has.cons (I_congr (by rw [hgp]; exact (lowK_pos (by omega) (show k - 1 < (((T).l[(at0).toNat]'hx6_6)).t.keys.length from hx22_4)).symm)) (Has.cons rfl (Has.cons rfl (Has.cons rfl (Has.cons rfl Has.nil)))))))))))) (hM_l18.pick [0, 1] (by decide) rfl)
                    · refine C.skip ?_
                      exact cutEnd () (Has.cons rfl (Has.cons rfl (Has.cons rfl (Has.cons rfl (Has.cons rfl (Has.cons rfl (Has.cons rfl (Has.cons (I_congr (lowK_zero (by omega)).symm) (Has.cons rfl (Has.cons rfl (Has.cons rfl (Has.cons rfl Has.nil)))))))))))) (hM_l18.pick [0, 1] (by decide) rfl)
                  · try dsimp only at hI
                    have hM_c105 := hI
                    refine C.cut (ι := Unit) (fun _u => ([(0, .pointer (ofs (bl b) (0))), (2, I (dp)), (3, I (low)), (4, I (high)), (11, .pointer (ofs (bl b6_8) (0))), (15, I (((((T).l)[(at0).toNat]'hx6_6).c.l)[k]'hx19_1)), (16, I (lowK (gP (T).t at0) low k)), (17, I (highK (gP (T).t at0) high k)), (95, .slice ((((T).l)[(at0).toNat]'hx6_6).c.A) ((((T).l)[(at0).toNat]'hx6_6).c.l.length) ((((T).l)[(at0).toNat]'hx6_6).c.cp)), (96, I ((((((T).l)[(at0).toNat]'hx6_6).c.l.length : Nat) : Int))), (97, I (((k : Nat) : Int)))] : List (Nat × Value))) (fun _u w_ => (Mem w w_ [some b] [[⟨.slice (bl b6_8) 1 1, 58, 3, 1, [.slice ((((T).l)[(at0).toNat]'hx6_6).k.A) ((((T).l)[(at0).toNat]'hx6_6).k.l.length) ((((T).l)[(at0).toNat]'hx6_6).k.cp), .slice ((((T).l)[(at0).toNat]'hx6_6).c.A) ((((T).l)[(at0).toNat]'hx6_6).c.l.length) ((((T).l)[(at0).toNat]'hx6_6).c.cp), .slice ((((T).l)[(at0).toNat]'hx6_6).v.A) ((((T).l)[(at0).toNat]'hx6_6).v.l.length) ((((T).l)[(at0).toNat]'hx6_6).v.cp)]⟩], [⟨.slice (bl b) 1 1, 92, 19, 1, ckC T s2 l2⟩]])) ?_ (fun _ σ w_c116 hI => ?_)
                    · refine C.seq ?_
                      refine C.region ?_
                      refine O.val (v := I (((k : Nat) : Int))) rfl (Ru.move rfl) rfl ?_
                      refine O.val (v := .pointer (ofs (bl b6_8) (0))) rfl (Ru.fieldA fl58_0 rfl rfl) rfl ?_
                      refine O.val rfl (Ru.load1 el51 rfl ((hM_c105.rd 0 rfl).ld rfl)) rfl ?_
                      refine O.val (v := I ((((((T).l)[(at0).toNat]'hx6_6).k.l.length : Nat) : Int))) rfl (Ru.blenSlice Tryd.underlying51 rfl) rfl ?_
                      refine O.val (v := .bool (decide (((k : Nat) : Int) < (((((T).l)[(at0).toNat]'hx6_6).k.l.length : Nat) : Int)))) rfl (Ru.lss rfl rfl) rfl ?_
                      refine O.nil ?_
                      refine C.cond (p := ((k : Nat) : Int) < (((((T).l)[(at0).toNat]'hx6_6).k.l.length : Nat) : Int)) rfl (fun c116 => ?_) (fun c116 => ?_)
                      · refine C.region ?_
                        refine O.val (v := .pointer (ofs (bl b6_8) (0))) rfl (Ru.fieldA fl58_0 rfl rfl) rfl ?_
                        refine O.val rfl (Ru.load1 el51 rfl ((hM_c105.rd 0 rfl).ld rfl)) rfl ?_
                        refine O.val (v := I (((k : Nat) : Int))) rfl (Ru.move rfl) rfl ?_
                        have hx24_3 : k < ((((T).l)[(at0).toNat]'hx6_6).k.l).length := (by first | omega | (simp; omega))
                        refine O.val (v := .pointer (ofs ((((T).l)[(at0).toNat]'hx6_6).k.A) (k * 1))) rfl (Ru.indexA (j := k) Tryd.underlying51 el3 rfl rfl (smm (((hNT.atR hM_c105 hOT)).2.get hx6_6).1 hx24_3) (by omega) (by first | omega | (simp; omega))) rfl ?_
                        refine O.val rfl (Ru.load1 el3 rfl (ldm (((hNT.atR hM_c105 hOT)).2.get hx6_6).1 hx24_3)) rfl ?_
                        refine O.val (v := I (((((T).l)[(at0).toNat]'hx6_6).k.l)[k]'hx24_3)) rfl (Ru.assign rfl) rfl ?_
                        refine O.nil ?_
                        exact cutEnd () (Has.cons rfl (Has.cons rfl (Has.cons rfl (Has.cons rfl (Has.cons rfl (Has.cons rfl (Has.cons rfl (Has.cons (I_congr (by rw [hgp]; exact (highK_in (show k < (((T).l[(at0).toNat]'hx6_6)).t.keys.length from hx24_3)).symm)) (Has.cons rfl (Has.cons rfl (Has.cons rfl Has.nil))))))))))) (hM_c105.pick [0, 1] (by decide) rfl)
                      · refine C.skip ?_
                        exact cutEnd () (Has.cons rfl (Has.cons rfl (Has.cons rfl (Has.cons rfl (Has.cons rfl (Has.cons rfl (Has.cons rfl (Has.cons (I_congr (by rw [hgp]; exact (highK_end (show ¬ k < (((T).l[(at0).toNat]'hx6_6)).t.keys.length from (by show ¬ k < ((((T).l[(at0).toNat]'hx6_6)).k.l).length; omega))).symm)) (Has.cons rfl (Has.cons rfl (Has.cons rfl Has.nil))))))))))) (hM_c105.pick [0, 1] (by decide) rfl)
                    · try dsimp only at hI
                      have hM_c116 := hI
                      refine C.seq ?_
                      refine C.region ?_
                      refine O.val (v := .pointer (ofs (bl b) (0))) rfl (Ru.move rfl) rfl ?_
                      refine O.val (v := I (((((T).l)[(at0).toNat]'hx6_6).c.l)[k]'hx19_1)) rfl (Ru.move rfl) rfl ?_
                      refine O.val (v := I (dp)) rfl (Ru.move rfl) rfl ?_
                      refine O.val (v := I ((dp + 1))) rfl (Ru.add rfl rfl (by omega)) rfl ?_
                      refine O.val (v := I (lowK (gP (T).t at0) low k)) rfl (Ru.move rfl) rfl ?_
                      refine O.val (v := I (highK (gP (T).t at0) high k)) rfl (Ru.move rfl) rfl ?_
                      have hMf25_6 : Mem w w_c116 [some b] [[⟨.slice (bl b) 1 1, 92, 19, 1, ckC T s2 l2⟩], [⟨.slice (bl b6_8) 1 1, 58, 3, 1, [.slice ((((T).l)[(at0).toNat]'hx6_6).k.A) ((((T).l)[(at0).toNat]'hx6_6).k.l.length) ((((T).l)[(at0).toNat]'hx6_6).k.cp), .slice ((((T).l)[(at0).toNat]'hx6_6).c.A) ((((T).l)[(at0).toNat]'hx6_6).c.l.length) ((((T).l)[(at0).toNat]'hx6_6).c.cp), .slice ((((T).l)[(at0).toNat]'hx6_6).v.A) ((((T).l)[(at0).toNat]'hx6_6).v.l.length) ((((T).l)[(at0).toNat]'hx6_6).v.cp)]⟩]] := hM_c116.pick [1, 0] (by decide) rfl
                      refine O.callg [.pointer (ofs (bl b) (0)), I (((((T).l)[(at0).toNat]'hx6_6).c.l)[k]'hx19_1), I ((dp + 1)), I (lowK (gP (T).t at0) low k), I (highK (gP (T).t at0) high k)] rfl en67 rfl rfl (ih_fn b (((((T).l)[(at0).toNat]'hx6_6).c.l)[k]'hx19_1) (dp + 1) (lowK (gP (T).t at0) low k) (highK (gP (T).t at0) high k) T (s2) (l2) w_c116 (hNT.atR hMf25_6 hOT) (TrO.cons (TrO.own hMf25_6 hNT hOT 0 rfl) TrO.nil) (Mem.focus (Ma := [[⟨.slice (bl b) 1 1, 92, 19, 1, ckC T s2 l2⟩]]) (rest := [[⟨.slice (bl b6_8) 1 1, 58, 3, 1, [.slice ((((T).l)[(at0).toNat]'hx6_6).k.A) ((((T).l)[(at0).toNat]'hx6_6).k.l.length) ((((T).l)[(at0).toNat]'hx6_6).k.cp), .slice ((((T).l)[(at0).toNat]'hx6_6).c.A) ((((T).l)[(at0).toNat]'hx6_6).c.l.length) ((((T).l)[(at0).toNat]'hx6_6).c.cp), .slice ((((T).l)[(at0).toNat]'hx6_6).v.A) ((((T).l)[(at0).toNat]'hx6_6).v.l.length) ((((T).l)[(at0).toNat]'hx6_6).v.cp)]⟩]]) hMf25_6 rfl) (by first | omega | assumption | (simp; omega) | simp | (intros; omega)) (by first | omega | assumption | (simp; omega) | simp | (intros; omega)) (by omega) (by omega)) ?_
                      rintro _ w25_6 ⟨s125_6, l125_6, rfl, hv25_6, hR25_6⟩
                      have hM25_6 : Mem w w25_6 [some b] [[⟨.slice (bl b) 1 1, 92, 19, 1, ckC T s125_6 l125_6⟩], [⟨.slice (bl b6_8) 1 1, 58, 3, 1, [.slice ((((T).l)[(at0).toNat]'hx6_6).k.A) ((((T).l)[(at0).toNat]'hx6_6).k.l.length) ((((T).l)[(at0).toNat]'hx6_6).k.cp), .slice ((((T).l)[(at0).toNat]'hx6_6).c.A) ((((T).l)[(at0).toNat]'hx6_6).c.l.length) ((((T).l)[(at0).toNat]'hx6_6).c.cp), .slice ((((T).l)[(at0).toNat]'hx6_6).v.A) ((((T).l)[(at0).toNat]'hx6_6).v.l.length) ((((T).l)[(at0).toNat]'hx6_6).v.cp)]⟩]] := Mem.call (Ma := [[⟨.slice (bl b) 1 1, 92, 19, 1, ckC T s2 l2⟩]]) hMf25_6 hR25_6 rfl
                      refine O.val (v := .bool (!((visT (T).t n (((((T).l)[(at0).toNat]'hx6_6).c.l)[k]'hx19_1) (lowK (gP (T).t at0) low k) (highK (gP (T).t at0) high k) (s2) (l2)).isSome))) rfl (Ru.not rfl) rfl ?_
                      refine O.nil ?_
                      refine C.condn (b := ((visT (T).t n (((((T).l)[(at0).toNat]'hx6_6).c.l)[k]'hx19_1) (lowK (gP (T).t at0) low k) (highK (gP (T).t at0) high k) (s2) (l2)).isSome)) rfl (fun c129 => ?_) (fun c129 => ?_)
                      · have hn1 := vis_none c129
                        refine C.seq ?_
                        refine C.region ?_
                        refine O.val (v := .bool (false)) rfl (Ru.assign rfl) rfl ?_
                        refine O.nil ?_
                        refine C.ret ?_
                        refine P1 (v := .bool (false)) rfl ?_
                        have hno : visT (T).t (n + 1) at0 low high s ld = none := by rw [← hi1_l18]; exact visK_no hx19_1 hn1
                        exact ⟨s125_6, l125_6, (by rw [hno]; rfl), (fun q9 hq9 => by rw [hno] at hq9; cases hq9), (hM25_6.pick [0] (by decide) rfl)⟩
                      · have hs1 := vis_some (by simpa using c129) hv25_6
                        refine C.skip ?_
                        refine C.region ?_
                        refine O.val (v := I ((((k + 1) : Nat) : Int))) rfl (Ru.congr (v := I ((((k : Nat) : Int) + 1))) (v' := I ((((k + 1) : Nat) : Int))) (Ru.add rfl rfl (by omega)) (I_congr (by first | omega | simp))) rfl ?_
                        refine O.val (v := I ((((k + 1) : Nat) : Int))) rfl (Ru.move rfl) rfl ?_
                        refine O.nil ?_
                        exact loopEnd (k + 1, (s125_6), (l125_6)) (by (try dsimp only); omega) (Has.cons rfl (Has.cons rfl (Has.cons rfl (Has.cons rfl (Has.cons rfl (Has.cons rfl (Has.cons rfl (Has.cons (I_congr (by first | rfl | omega | (simp; omega) | simp)) Has.nil)))))))) ⟨(by (try dsimp only); omega), (by (try dsimp only); rw [← visK_ok hx19_1 hs1]; exact hi1_l18), (hM25_6.pick [1, 0] (by decide) rfl)⟩
                · refine C.exit ?_
                  refine C.seq ?_
                  refine C.region ?_
                  refine O.val (v := .bool (true)) rfl (Ru.assign rfl) rfl ?_
                  refine O.nil ?_
                  refine C.ret ?_
                  refine P1 (v := .bool (true)) rfl ?_
                  have hve : visT (T).t (n + 1) at0 low high s ld = some (s2, l2) := by rw [← hi1_l18]; exact visK_end (by omega)
                  exact ⟨s2, l2, (by rw [hve]; rfl), (fun q9 hq9 => by rw [hve] at hq9; exact (Option.some.inj hq9).symm), (hM_l18.pick [1] (by decide) rfl)⟩

theorem visit_fn : ∀ (n : Nat), ∀ (b : Nat) (at0 : Int) (dp : Int) (low : Int) (high : Int) (T : TreeL) (s : List Int) (ld : Int) (w : World) (hNT : TrN w T) (hOT : TrO T [some b]) (hM : Mem w w [some b] [[⟨.slice (bl b) 1 1, 92, 19, 1, ckC T s ld⟩]]) (hs : SzT T) (h16 : (T).l.length ≤ 16) (hn : n ≤ 3) (hd : dp = 3 - (n : Int)), Does Tryd.prog 67 [.pointer (ofs (bl b) (0)), I (at0), I (dp), I (low), I (high)] w (fun v w1 => ∃ (s1 : List Int) (l1 : Int), v = .bool ((visT (T).t n at0 low high s ld).isSome) ∧ (∀ q, visT (T).t n at0 low high s ld = some q → q = (s1, l1)) ∧ Mem w w1 [some b] [[⟨.slice (bl b) 1 1, 92, 19, 1, ckC T s1 l1⟩]]) := by
  intro n
  induction n with
  | zero => exact visit0_fn
  | succ n ih => exact visitS_fn n ih

theorem ValidTree_fn (T : TreeL) (w : World) (hNT : TrN w T) (hs : SzT T) :
    Does Tryd.prog 31 [.agg #[I ((T).root), .slice ((T).A) ((T).l.length) ((T).cp)]] w (fun v w1 => v = .bool (validT (T).t) ∧ Mem w w1 [] []) := by
  have hM : Mem w w [] [] := Mem.refl
  refine Does.enter1 Tryd.func31 rfl Tryd.results31 Tryd.ntmps31 rfl ?_
  refine C.seq ?_
  refine C.region ?_
  refine O.mbox (k := 2) (vs := [I ((T).root), .slice ((T).A) ((T).l.length) ((T).cp)]) hM rfl rfl rfl rfl rfl (fun w0_0 b0_0 hb0_0 (hM0_0 : Mem w w0_0 [] [[⟨.slice (bl b0_0) 1 1, 39, 2, 1, [I ((T).root), .slice ((T).A) ((T).l.length) ((T).cp)]⟩]]) => ?_)
  refine O.val (v := .bool (false)) rfl (Ru.assign rfl) rfl ?_
  refine O.nil ?_
  refine C.seq ?_
  refine C.seq ?_
  refine C.region ?_
  refine O.val (v := .pointer (ofs (bl b0_0) (1))) rfl (Ru.fieldA fl39_1 rfl rfl) rfl ?_
  refine O.val rfl (Ru.load1 el37 rfl ((hM0_0.rd 0 rfl).ld rfl)) rfl ?_
  refine O.val (v := I ((((T).l.length : Nat) : Int))) rfl (Ru.blenSlice Tryd.underlying37 rfl) rfl ?_
  refine O.val (v := .bool (decide ((((T).l.length : Nat) : Int) < 1))) rfl (Ru.lss rfl rfl) rfl ?_
  refine O.val (v := .bool (decide ((((T).l.length : Nat) : Int) < 1))) rfl (Ru.move rfl) rfl ?_
  refine O.partp 9 ((((T).l.length : Nat) : Int) < 1) rfl (fun g9 => ?_) (fun g9 => ?_)
  · refine O.pass rfl rfl rfl rfl rfl ?_
    refine O.pass rfl rfl rfl rfl rfl ?_
    refine O.pass rfl rfl rfl rfl rfl ?_
    refine O.pass rfl rfl rfl rfl rfl ?_
    refine O.val (v := .bool (true)) rfl (Ru.pickT rfl rfl) rfl ?_
    refine O.nil ?_
    refine C.condT rfl ?_
    refine C.seq ?_
    refine C.region ?_
    refine O.val (v := .bool (false)) rfl (Ru.assign rfl) rfl ?_
    refine O.nil ?_
    refine C.ret ?_
    refine P1 (v := .bool (false)) rfl ?_
    exact ⟨(by rw [validT_len (by rw [pages_len]; omega)]), (Mem.none hM0_0)⟩
  · refine O.val (v := .pointer (ofs (bl b0_0) (1))) rfl (Ru.fieldA fl39_1 rfl rfl) rfl ?_
    refine O.val rfl (Ru.load1 el37 rfl ((hM0_0.rd 0 rfl).ld rfl)) rfl ?_
    refine O.val (v := I ((((T).l.length : Nat) : Int))) rfl (Ru.blenSlice Tryd.underlying37 rfl) rfl ?_
    refine O.val (v := .bool (decide ((((T).l.length : Nat) : Int) > 16))) rfl (Ru.gtr rfl rfl) rfl ?_
    refine O.val (v := .bool (decide ((((T).l.length : Nat) : Int) > 16))) rfl (Ru.pickF rfl rfl) rfl ?_
    refine O.nil ?_
    refine C.cond (p := (((T).l.length : Nat) : Int) > 16) rfl (fun c14 => ?_) (fun c14 => ?_)
    · refine C.seq ?_
      refine C.region ?_
      refine O.val (v := .bool (false)) rfl (Ru.assign rfl) rfl ?_
      refine O.nil ?_
      refine C.ret ?_
      refine P1 (v := .bool (false)) rfl ?_
      exact ⟨(by rw [validT_len (by rw [pages_len]; omega)]), (Mem.none hM0_0)⟩
    · refine C.skip ?_
      refine C.seq ?_
      have hpl : 1 ≤ (T).t.pages.length ∧ (T).t.pages.length ≤ 16 := by rw [pages_len]; omega
      refine C.region ?_
      refine O.val rfl (Ru.loadN (vs := [I ((T).root), .slice ((T).A) ((T).l.length) ((T).cp)]) el39 rfl rfl rfl ((mem_blk (i := 0) (j := 0) hM0_0 rfl rfl).lds (k := 0) rfl)) rfl ?_
      refine O.val (v := .agg #[I ((T).root), .slice ((T).A) ((T).l.length) ((T).cp), .bool (false), .bool (false), .bool (false), .bool (false), .bool (false), .bool (false), .bool (false), .bool (false), .bool (false), .bool (false), .bool (false), .bool (false), .bool (false), .bool (false), .bool (false), .bool (false), I ((-1))]) rfl (Ru.buildN (cs := [I ((T).root), .slice ((T).A) ((T).l.length) ((T).cp), .bool (false), .bool (false), .bool (false), .bool (false), .bool (false), .bool (false), .bool (false), .bool (false), .bool (false), .bool (false), .bool (false), .bool (false), .bool (false), .bool (false), .bool (false), .bool (false), I ((-1))]) mf92 rfl (by kernel_rfl)) rfl ?_
      refine O.malloc (k := 19) hM0_0 rfl rfl el92 rfl (fun w3_2 b3_2 hb3_2 (hM3_2 : Mem w w3_2 [] [[⟨.slice (bl b3_2) 1 1, 92, 19, 1, [I (0), .slice (none) (0) (0), .bool (false), .bool (false), .bool (false), .bool (false), .bool (false), .bool (false), .bool (false), .bool (false), .bool (false), .bool (false), .bool (false), .bool (false), .bool (false), .bool (false), .bool (false), .bool (false), I (0)]⟩], [⟨.slice (bl b0_0) 1 1, 39, 2, 1, [I ((T).root), .slice ((T).A) ((T).l.length) ((T).cp)]⟩]]) => ?_)
      refine O.mstore (vs := [I ((T).root), .slice ((T).A) ((T).l.length) ((T).cp), .bool (false), .bool (false), .bool (false), .bool (false), .bool (false), .bool (false), .bool (false), .bool (false), .bool (false), .bool (false), .bool (false), .bool (false), .bool (false), .bool (false), .bool (false), .bool (false), I ((-1))]) (xs' := [I ((T).root), .slice ((T).A) ((T).l.length) ((T).cp), .bool (false), .bool (false), .bool (false), .bool (false), .bool (false), .bool (false), .bool (false), .bool (false), .bool (false), .bool (false), .bool (false), .bool (false), .bool (false), .bool (false), .bool (false), .bool (false), I ((-1))]) 0 0 hM3_2 rfl rfl rfl el92 rfl rfl rfl rfl rfl (by simp) (by simp) rfl rfl (fun w3_3 (hM3_3 : Mem w w3_3 [] [[⟨.slice (bl b3_2) 1 1, 92, 19, 1, [I ((T).root), .slice ((T).A) ((T).l.length) ((T).cp), .bool (false), .bool (false), .bool (false), .bool (false), .bool (false), .bool (false), .bool (false), .bool (false), .bool (false), .bool (false), .bool (false), .bool (false), .bool (false), .bool (false), .bool (false), .bool (false), I ((-1))]⟩], [⟨.slice (bl b0_0) 1 1, 39, 2, 1, [I ((T).root), .slice ((T).A) ((T).l.length) ((T).cp)]⟩]]) => ?_)
      refine O.nil ?_
      have hMk1 : Mem w w3_3 [] [[⟨.slice (bl b3_2) 1 1, 92, 19, 1, ckC T ([] : List Int) (-1)⟩], [⟨.slice (bl b0_0) 1 1, 39, 2, 1, [I ((T).root), .slice ((T).A) ((T).l.length) ((T).cp)]⟩]] := Mem.cast hM3_3 (by rw [ck_nil])
      refine C.seq ?_
      refine C.seq ?_
      refine C.region ?_
      refine O.val (v := .pointer (ofs (bl b0_0) (0))) rfl (Ru.fieldA fl39_0 rfl rfl) rfl ?_
      refine O.val rfl (Ru.load1 el3 rfl ((hMk1.rd 1 rfl).ld rfl)) rfl ?_
      refine O.callg [.pointer (ofs (bl b3_2) (0)), I ((T).root), I (0), I (0), I (100)] rfl en67 rfl rfl (visit_fn 3 b3_2 ((T).root) 0 0 100 T (([] : List Int)) ((-1)) w3_3 (hNT.at hMk1) (TrO.cons (TrO.old hMk1 hNT 0 rfl) TrO.nil) (Mem.focus (Ma := [[⟨.slice (bl b3_2) 1 1, 92, 19, 1, ckC T ([] : List Int) (-1)⟩]]) (rest := [[⟨.slice (bl b0_0) 1 1, 39, 2, 1, [I ((T).root), .slice ((T).A) ((T).l.length) ((T).cp)]⟩]]) hMk1 rfl) (by first | omega | assumption | (simp; omega) | simp | (intros; omega)) (by omega) (by omega) (by rfl)) ?_
      rintro _ w4_2 ⟨s14_2, l14_2, rfl, hv4_2, hR4_2⟩
      have hM4_2 : Mem w w4_2 [] [[⟨.slice (bl b3_2) 1 1, 92, 19, 1, ckC T s14_2 l14_2⟩], [⟨.slice (bl b0_0) 1 1, 39, 2, 1, [I ((T).root), .slice ((T).A) ((T).l.length) ((T).cp)]⟩]] := Mem.call (Ma := [[⟨.slice (bl b3_2) 1 1, 92, 19, 1, ckC T ([] : List Int) (-1)⟩]]) hMk1 hR4_2 rfl
      refine O.val (v := .bool (!((visT (T).t 3 ((T).root) 0 100 (([] : List Int)) ((-1))).isSome))) rfl (Ru.not rfl) rfl ?_
      refine O.nil ?_
      refine C.condn (b := ((visT (T).t 3 ((T).root) 0 100 (([] : List Int)) ((-1))).isSome)) rfl (fun c20 => ?_) (fun c20 => ?_)
      · have hno := vis_none c20
        refine C.seq ?_
        refine C.region ?_
        refine O.val (v := .bool (false)) rfl (Ru.assign rfl) rfl ?_
        refine O.nil ?_
        refine C.ret ?_
        refine P1 (v := .bool (false)) rfl ?_
        exact ⟨(by rw [valid_vis_no hno]), (Mem.none hM4_2)⟩
      · have hve := vis_some (by simpa using c20) hv4_2
        refine C.skip ?_
        refine C.seq ?_
        refine C.seq ?_
        refine C.region ?_
        refine O.val (v := .pointer (ofs (bl b0_0) (1))) rfl (Ru.fieldA fl39_1 rfl rfl) rfl ?_
        refine O.val rfl (Ru.load1 el37 rfl ((hM4_2.rd 1 rfl).ld rfl)) rfl ?_
        refine O.val (v := I ((((T).l.length : Nat) : Int))) rfl (Ru.blenSlice Tryd.underlying37 rfl) rfl ?_
        refine O.val (v := I (0)) rfl (Ru.move rfl) rfl ?_
        refine O.nil ?_
        refine C.block ?_
        refine C.loop (ι := Nat) (fun k => ([(3, .pointer (ofs (bl b3_2) (0))), (23, I ((((T).l.length : Nat) : Int))), (24, I (((k : Nat) : Int)))] : List (Nat × Value))) (fun k w_ => (k ≤ (T).l.length) ∧ (∀ j : Nat, j < k → (j : Int) ∈ s14_2) ∧ (Mem w w_ [] [[⟨.slice (bl b3_2) 1 1, 92, 19, 1, ckC T s14_2 l14_2⟩], [⟨.slice (bl b0_0) 1 1, 39, 2, 1, [I ((T).root), .slice ((T).A) ((T).l.length) ((T).cp)]⟩]])) (fun k => (T).l.length - k) (0) (Has.cons rfl (Has.cons rfl (Has.cons (I_congr (by first | rfl | omega | (simp; omega) | simp)) Has.nil))) ⟨(Nat.zero_le _), (fun j hj => absurd hj (by omega)), (hM4_2.pick [0, 1] (by decide) rfl)⟩ (fun k σ w_l7 hI => ?_)
        try dsimp only at hI
        obtain ⟨hi0_l7, hi1_l7, hM_l7⟩ := hI
        refine C.seq ?_
        refine C.region ?_
        refine O.val (v := .bool (decide (((k : Nat) : Int) < (((T).l.length : Nat) : Int)))) rfl (Ru.lss rfl rfl) rfl ?_
        refine O.nil ?_
        refine C.seq ?_
        refine C.cond (p := ((k : Nat) : Int) < (((T).l.length : Nat) : Int)) rfl (fun c25 => ?_) (fun c25 => ?_)
        · refine C.skip ?_
          refine C.seq ?_
          refine C.block ?_
          refine C.seq ?_
          refine C.region ?_
          refine O.val (v := I (((k : Nat) : Int))) rfl (Ru.move rfl) rfl ?_
          refine O.val (v := I (((k : Nat) : Int))) rfl (Ru.assign rfl) rfl ?_
          refine O.nil ?_
          refine C.seq ?_
          refine C.region ?_
          refine O.val (v := I (((k : Nat) : Int))) rfl (Ru.move rfl) rfl ?_
          refine O.val (v := .pointer (ofs (bl b3_2) (2))) rfl (Ru.fieldA fl92_1 rfl rfl) rfl ?_
          have hx9_2 : 0 ≤ ((k : Nat) : Int) ∧ ((k : Nat) : Int) < 16 := (by omega)
          refine O.val (v := .pointer (ofs (bl b3_2) (2 + (((k : Nat) : Int)).toNat))) rfl (Ru.indexArrK (j := (((k : Nat) : Int)).toNat) Tryd.underlying90 el4 rfl rfl rfl rfl rfl hx9_2) rfl ?_
          refine O.val (v := .bool (decide (((k : Nat) : Int) ∈ s14_2))) rfl (Ru.load1 el4 rfl ((hM_l7.rd 0 rfl).ld (ck_getI hx9_2))) rfl ?_
          refine O.val (v := .bool (decide (¬ (((k : Nat) : Int) ∈ s14_2)))) rfl (Ru.notp rfl) rfl ?_
          refine O.nil ?_
          refine C.cond (p := ¬ (((k : Nat) : Int) ∈ s14_2)) rfl (fun c31 => ?_) (fun c31 => ?_)
          · refine C.seq ?_
            refine C.region ?_
            refine O.val (v := .bool (false)) rfl (Ru.assign rfl) rfl ?_
            refine O.nil ?_
            refine C.ret ?_
            refine P1 (v := .bool (false)) rfl ?_
            exact ⟨(by rw [valid_f (i := k) hpl hve (by rw [pages_len]; omega) (by simpa using c31)]), (Mem.none hM_l7)⟩
          · refine C.skip ?_
            refine C.region ?_
            refine O.val (v := I ((((k + 1) : Nat) : Int))) rfl (Ru.congr (v := I ((((k : Nat) : Int) + 1))) (v' := I ((((k + 1) : Nat) : Int))) (Ru.add rfl rfl (by omega)) (I_congr (by first | omega | simp))) rfl ?_
            refine O.val (v := I ((((k + 1) : Nat) : Int))) rfl (Ru.move rfl) rfl ?_
            refine O.nil ?_
            exact loopEnd (k + 1) (by (try dsimp only); omega) (Has.cons rfl (Has.cons rfl (Has.cons (I_congr (by first | rfl | omega | (simp; omega) | simp)) Has.nil))) ⟨(by (try dsimp only); omega), (fun j hj => by rcases Nat.lt_succ_iff_lt_or_eq.1 hj with h | h; exact hi1_l7 j h; subst h; simpa using c31), (hM_l7.pick [0, 1] (by decide) rfl)⟩
        · refine C.exit ?_
          refine C.seq ?_
          refine C.region ?_
          refine O.val (v := .bool (true)) rfl (Ru.assign rfl) rfl ?_
          refine O.nil ?_
          refine C.ret ?_
          refine P1 (v := .bool (true)) rfl ?_
          exact ⟨(by rw [(valid_vis hpl hve).2 (fun (i9 : Nat) (hi9 : i9 < (T).t.pages.length) => hi1_l7 i9 (by have := pages_len (T := T); omega))]), (Mem.none hM_l7)⟩
end Go.Proofs.YtfdlmimgooeioaaDoor
