/- Own layer: part of this seat (DB). Plain theorems; no conditions. -/
import Derived.Test.YteljpjapacajoaaDA
set_option linter.unusedVariables false
set_option linter.unusedSimpArgs false
namespace Go.Proofs.Yteljpjapacajoaa
open Go.Px
set_option maxHeartbeats 1000000 in
theorem ValidChain_fn (A : Option Addr) (c : Nat) (l : List LnkL) (w : World) (hA : Rd w A ((l).flatMap encL)) (hNA : Nst w l) (hl : l.length ≤ 1048576) :
    Does Try.prog 18 [.slice (A) ((l).length) (c)] w (fun v w1 => v = .bool (validC (tsL l)) ∧ Mem w w1 [] []) := by
  have hM : Mem w w [] [] := Mem.refl
  refine Does.enter1 Try.func18 rfl Try.results18 Try.ntmps18 rfl ?_
  refine C.seq ?_
  refine C.region ?_
  refine O.val (v := .bool (false)) rfl (Ru.assign rfl) rfl ?_
  refine O.nil ?_
  refine C.seq ?_
  refine C.seq ?_
  refine C.region ?_
  refine O.val (v := .slice (A) ((l).length) (c)) rfl (Ru.move rfl) rfl ?_
  refine O.val (v := I ((((l).length : Nat) : Int))) rfl (Ru.blenSlice Try.underlying23 rfl) rfl ?_
  refine O.val (v := .bool (decide ((((l).length : Nat) : Int) < 1))) rfl (Ru.lss rfl rfl) rfl ?_
  refine O.val (v := .bool (decide ((((l).length : Nat) : Int) < 1))) rfl (Ru.move rfl) rfl ?_
  refine O.partp 13 ((((l).length : Nat) : Int) < 1) rfl (fun g13 => ?_) (fun g13 => ?_)
  · refine O.pass rfl rfl rfl rfl rfl ?_
    refine O.pass rfl rfl rfl rfl rfl ?_
    refine O.pass rfl rfl rfl rfl rfl ?_
    refine O.val (v := .bool (true)) rfl (Ru.pickT rfl rfl) rfl ?_
    refine O.nil ?_
    refine C.condT rfl ?_
    refine C.seq ?_
    refine C.region ?_
    refine O.val (v := .bool (false)) rfl (Ru.assign rfl) rfl ?_
    refine O.nil ?_
    refine C.ret ?_
    refine P1 (v := .bool (false)) rfl ?_
    exact ⟨(by rw [validC_big (by simp; omega)]), (Mem.none hM)⟩
  · refine O.val (v := .slice (A) ((l).length) (c)) rfl (Ru.move rfl) rfl ?_
    refine O.val (v := I ((((l).length : Nat) : Int))) rfl (Ru.blenSlice Try.underlying23 rfl) rfl ?_
    refine O.val (v := .bool (decide ((((l).length : Nat) : Int) > 16))) rfl (Ru.gtr rfl rfl) rfl ?_
    refine O.val (v := .bool (decide ((((l).length : Nat) : Int) > 16))) rfl (Ru.pickF rfl rfl) rfl ?_
    refine O.nil ?_
    refine C.cond (p := (((l).length : Nat) : Int) > 16) rfl (fun c17 => ?_) (fun c17 => ?_)
    · refine C.seq ?_
      refine C.region ?_
      refine O.val (v := .bool (false)) rfl (Ru.assign rfl) rfl ?_
      refine O.nil ?_
      refine C.ret ?_
      refine P1 (v := .bool (false)) rfl ?_
      exact ⟨(by rw [validC_big (by simp; omega)]), (Mem.none hM)⟩
    · have hl16 : 1 ≤ l.length ∧ l.length ≤ 16 := by omega
      have hvr := validC_run (l := tsL l) (by simp; omega) (by simp; omega)
      refine C.skip ?_
      refine C.seq ?_
      refine C.region ?_
      refine O.val (v := I (0)) rfl (Ru.assign rfl) rfl ?_
      refine O.nil ?_
      refine C.seq ?_
      refine C.region ?_
      refine O.val (v := I (0)) rfl (Ru.assign rfl) rfl ?_
      refine O.nil ?_
      refine C.seq ?_
      refine C.region ?_
      refine O.marr (m := 16) (sz := 1) (xs := (List.replicate 16 false).map boV) hM rfl rfl el52 (by kernel_rfl) (by simp) (by decide) (fun w5_0 b5_0 hb5_0 (hM5_0 : Mem w w5_0 [] [[⟨.slice (bl b5_0) (16) (16), 52, 1, 16, (List.replicate 16 false).map boV⟩]]) => ?_)
      have hMn1 : Mem w w5_0 [] [[⟨.slice (bl b5_0) (16) (16), 52, 1, 16, (seenT []).map boV⟩]] := Mem.cast hM5_0 (by rw [show List.replicate 16 false = seenT [] from seenT_nil])
      refine O.nil ?_
      refine C.seq ?_
      refine C.region ?_
      refine O.val (v := I (1)) rfl (Ru.assign rfl) rfl ?_
      refine O.nil ?_
      refine C.block ?_
      refine C.loop (ι := Nat × Int × Int × (List Int)) (fun x_ => ([(0, .slice (A) ((l).length) (c)), (3, I (x_.2.2.1)), (4, I (x_.2.1)), (5, .pointer (ofs (bl b5_0) (0))), (6, I (((x_.1 : Nat) : Int)))] : List (Nat × Value))) (fun x_ w_ => (1 ≤ x_.1 ∧ x_.1 ≤ l.length) ∧ (vcA (tsL l) (l.length + 1 - x_.1) x_.2.2.2 x_.2.1 x_.2.2.1 = validC (tsL l)) ∧ (Mem w w_ [] [[⟨.slice (bl b5_0) (16) (16), 52, 1, 16, (seenT x_.2.2.2).map boV⟩]])) (fun x_ => l.length + 1 - x_.1) (1, 0, 0, []) (Has.cons rfl (Has.cons rfl (Has.cons rfl (Has.cons rfl (Has.cons (I_congr (by first | rfl | omega | (simp; omega) | simp)) Has.nil))))) ⟨(by (try dsimp only); omega), (by (try dsimp only); rw [hvr]; simp), (hMn1.pick [0] (by decide) rfl)⟩ (fun ⟨t, a, low, seen⟩ σ w_l8 hI => ?_)
      try dsimp only at hI
      obtain ⟨hi0_l8, hi1_l8, hM_l8⟩ := hI
      refine C.seq ?_
      refine C.block ?_
      refine C.seq ?_
      refine C.seq ?_
      refine C.region ?_
      refine O.val (v := I (a)) rfl (Ru.move rfl) rfl ?_
      refine O.val (v := .bool (decide (a < 0))) rfl (Ru.lss rfl rfl) rfl ?_
      refine O.val (v := .bool (decide (a < 0))) rfl (Ru.move rfl) rfl ?_
      refine O.partp 22 (a < 0) rfl (fun g22 => ?_) (fun g22 => ?_)
      · refine O.pass rfl rfl rfl rfl rfl ?_
        refine O.pass rfl rfl rfl rfl rfl ?_
        refine O.pass rfl rfl rfl rfl rfl ?_
        refine O.pass rfl rfl rfl rfl rfl ?_
        refine O.val (v := .bool (true)) rfl (Ru.pickT rfl rfl) rfl ?_
        refine O.val (v := .bool (true)) rfl (Ru.move rfl) rfl ?_
        refine O.pass rfl rfl rfl rfl rfl ?_
        refine O.pass rfl rfl rfl rfl rfl ?_
        refine O.pass rfl rfl rfl rfl rfl ?_
        refine O.val (v := .bool (true)) rfl (Ru.pickT rfl rfl) rfl ?_
        refine O.nil ?_
        refine C.condT rfl ?_
        refine C.seq ?_
        refine C.region ?_
        refine O.val (v := .bool (false)) rfl (Ru.assign rfl) rfl ?_
        refine O.nil ?_
        refine C.ret ?_
        refine P1 (v := .bool (false)) rfl ?_
        exact ⟨(by rw [← hi1_l8]; first | rw [vc_out (.inl (by omega))] | rw [vc_out (.inr (by simp; omega))] | rw [vc_seen (by have h9 := c32; rw [seenT_get (by omega)] at h9; have h10 := of_decide_eq_true h9; rwa [Int.toNat_of_nonneg (by omega)] at h10)]), (Mem.none hM_l8)⟩
      · refine O.val (v := I (a)) rfl (Ru.move rfl) rfl ?_
        refine O.val (v := .slice (A) ((l).length) (c)) rfl (Ru.move rfl) rfl ?_
        refine O.val (v := I ((((l).length : Nat) : Int))) rfl (Ru.blenSlice Try.underlying23 rfl) rfl ?_
        refine O.val (v := .bool (decide (a ≥ (((l).length : Nat) : Int)))) rfl (Ru.geq rfl rfl) rfl ?_
        refine O.val (v := .bool (decide (a ≥ (((l).length : Nat) : Int)))) rfl (Ru.pickF rfl rfl) rfl ?_
        refine O.val (v := .bool (decide (a ≥ (((l).length : Nat) : Int)))) rfl (Ru.move rfl) rfl ?_
        refine O.partp 28 (a ≥ (((l).length : Nat) : Int)) rfl (fun g28 => ?_) (fun g28 => ?_)
        · refine O.pass rfl rfl rfl rfl rfl ?_
          refine O.pass rfl rfl rfl rfl rfl ?_
          refine O.pass rfl rfl rfl rfl rfl ?_
          refine O.val (v := .bool (true)) rfl (Ru.pickT rfl rfl) rfl ?_
          refine O.nil ?_
          refine C.condT rfl ?_
          refine C.seq ?_
          refine C.region ?_
          refine O.val (v := .bool (false)) rfl (Ru.assign rfl) rfl ?_
          refine O.nil ?_
          refine C.ret ?_
          refine P1 (v := .bool (false)) rfl ?_
          exact ⟨(by rw [← hi1_l8]; first | rw [vc_out (.inl (by omega))] | rw [vc_out (.inr (by simp; omega))] | rw [vc_seen (by have h9 := c32; rw [seenT_get (by omega)] at h9; have h10 := of_decide_eq_true h9; rwa [Int.toNat_of_nonneg (by omega)] at h10)]), (Mem.none hM_l8)⟩
        · refine O.val (v := I (a)) rfl (Ru.move rfl) rfl ?_
          have hx8_10 : (a).toNat < (seenT seen).length := (by rw [seenT_len]; omega)
          refine O.val (v := .pointer (ofs (bl b5_0) (((a).toNat) * 1))) rfl (Ru.indexArr (j := (a).toNat) Try.underlying52 el4 rfl rfl rfl (by omega) (by simp [seenT_len]; omega)) rfl ?_
          refine O.val rfl (Ru.load1 el4 rfl (ldm (hM_l8.rd 0 rfl) hx8_10)) rfl ?_
          refine O.val (v := .bool ((seenT seen)[(a).toNat]'hx8_10)) rfl (Ru.pickF rfl rfl) rfl ?_
          refine O.nil ?_
          refine C.condb (t := (seenT seen)[(a).toNat]'hx8_10) rfl (fun c32 => ?_) (fun c32 => ?_)
          · refine C.seq ?_
            refine C.region ?_
            refine O.val (v := .bool (false)) rfl (Ru.assign rfl) rfl ?_
            refine O.nil ?_
            refine C.ret ?_
            refine P1 (v := .bool (false)) rfl ?_
            exact ⟨(by rw [← hi1_l8]; first | rw [vc_out (.inl (by omega))] | rw [vc_out (.inr (by simp; omega))] | rw [vc_seen (by have h9 := c32; rw [seenT_get (by omega)] at h9; have h10 := of_decide_eq_true h9; rwa [Int.toNat_of_nonneg (by omega)] at h10)]), (Mem.none hM_l8)⟩
          · have hns : a ∉ seen := (by have h9 := c32; rw [seenT_get (by omega)] at h9; have h10 := of_decide_eq_false h9; rwa [Int.toNat_of_nonneg (by omega)] at h10)
            refine C.skip ?_
            refine C.seq ?_
            refine C.region ?_
            refine O.val (v := I (a)) rfl (Ru.move rfl) rfl ?_
            have hx10_1 : (a).toNat < (seenT seen).length := (by rw [seenT_len]; omega)
            refine O.val (v := .pointer (ofs (bl b5_0) (((a).toNat) * 1))) rfl (Ru.indexArr (j := (a).toNat) Try.underlying52 el4 rfl rfl rfl (by omega) (by simp [seenT_len]; omega)) rfl ?_
            refine O.mstore (vs := [.bool (true)]) (xs' := ((seenT seen).set ((a).toNat) true).map boV) 0 0 hM_l8 rfl rfl rfl el4 rfl rfl rfl rfl rfl (by simp; omega) (by simp) (spl_map (l := seenT seen) (a := true) hx10_1) rfl (fun w10_2 (hM10_2 : Mem w w10_2 [] [[⟨.slice (bl b5_0) (16) (16), 52, 1, 16, ((seenT seen).set ((a).toNat) true).map boV⟩]]) => ?_)
            have hMn2 : Mem w w10_2 [] [[⟨.slice (bl b5_0) (16) (16), 52, 1, 16, (seenT (seen ++ [a])).map boV⟩]] := Mem.cast hM10_2 (by rw [show (seenT seen).set ((a).toNat) true = seenT (seen ++ [a]) from (by rw [seenT_set (by omega), Int.toNat_of_nonneg (by omega)])])
            refine O.nil ?_
            refine C.seq ?_
            refine C.region ?_
            refine O.val (v := .slice (A) ((l).length) (c)) rfl (Ru.move rfl) rfl ?_
            refine O.val (v := I (a)) rfl (Ru.move rfl) rfl ?_
            have hx11_2 : (a).toNat < (l).length := (by first | omega | (simp; omega))
            refine O.val (v := .pointer (ofs (A) (((a).toNat) * 3))) rfl (Ru.indexA (j := (a).toNat) Try.underlying23 el28 rfl rfl (smf encL_len (hA.at hMn2) hx11_2 rfl) (by omega) (by first | omega | (simp; omega))) rfl ?_
            have hgl := gL_ts hx11_2
            have han : 0 ≤ a := by omega
            refine O.val rfl (Ru.loadN (vs := [.slice (((l)[(a).toNat]'hx11_2).A) (((l)[(a).toNat]'hx11_2).t.keys.length) (((l)[(a).toNat]'hx11_2).cp), I (((l)[(a).toNat]'hx11_2).t.high), I (((l)[(a).toNat]'hx11_2).t.right)]) el28 rfl rfl (smf encL_len (hA.at hMn2) hx11_2 rfl) (ldn encL_len (hA.at hMn2) hx11_2)) rfl ?_
            refine O.malloc (k := 3) hMn2 rfl rfl el28 rfl (fun w11_4 b11_4 hb11_4 (hM11_4 : Mem w w11_4 [] [[⟨.slice (bl b11_4) 1 1, 28, 3, 1, [.slice (none) (0) (0), I (0), I (0)]⟩], [⟨.slice (bl b5_0) (16) (16), 52, 1, 16, (seenT (seen ++ [a])).map boV⟩]]) => ?_)
            refine O.mstore (vs := [.slice (((l)[(a).toNat]'hx11_2).A) (((l)[(a).toNat]'hx11_2).t.keys.length) (((l)[(a).toNat]'hx11_2).cp), I (((l)[(a).toNat]'hx11_2).t.high), I (((l)[(a).toNat]'hx11_2).t.right)]) (xs' := [.slice (((l)[(a).toNat]'hx11_2).A) (((l)[(a).toNat]'hx11_2).t.keys.length) (((l)[(a).toNat]'hx11_2).cp), I (((l)[(a).toNat]'hx11_2).t.high), I (((l)[(a).toNat]'hx11_2).t.right)]) 0 0 hM11_4 rfl rfl rfl el28 rfl rfl rfl rfl rfl (by simp) (by simp) rfl rfl (fun w11_5 (hM11_5 : Mem w w11_5 [] [[⟨.slice (bl b11_4) 1 1, 28, 3, 1, [.slice (((l)[(a).toNat]'hx11_2).A) (((l)[(a).toNat]'hx11_2).t.keys.length) (((l)[(a).toNat]'hx11_2).cp), I (((l)[(a).toNat]'hx11_2).t.high), I (((l)[(a).toNat]'hx11_2).t.right)]⟩], [⟨.slice (bl b5_0) (16) (16), 52, 1, 16, (seenT (seen ++ [a])).map boV⟩]]) => ?_)
            refine O.nil ?_
            refine C.seq ?_
            refine C.seq ?_
            refine C.region ?_
            refine O.val (v := .pointer (ofs (bl b11_4) (1))) rfl (Ru.fieldA fl28_1 rfl rfl) rfl ?_
            refine O.val rfl (Ru.load1 el3 rfl ((hM11_5.rd 0 rfl).ld rfl)) rfl ?_
            refine O.val (v := I (low)) rfl (Ru.move rfl) rfl ?_
            refine O.val (v := .bool (decide (((l)[(a).toNat]'hx11_2).t.high < low))) rfl (Ru.lss rfl rfl) rfl ?_
            refine O.val (v := .bool (decide (((l)[(a).toNat]'hx11_2).t.high < low))) rfl (Ru.move rfl) rfl ?_
            refine O.partp 43 (((l)[(a).toNat]'hx11_2).t.high < low) rfl (fun g43 => ?_) (fun g43 => ?_)
            · refine O.pass rfl rfl rfl rfl rfl ?_
              refine O.pass rfl rfl rfl rfl rfl ?_
              refine O.pass rfl rfl rfl rfl rfl ?_
              refine O.pass rfl rfl rfl rfl rfl ?_
              refine O.val (v := .bool (true)) rfl (Ru.pickT rfl rfl) rfl ?_
              refine O.val (v := .bool (true)) rfl (Ru.move rfl) rfl ?_
              refine O.pass rfl rfl rfl rfl rfl ?_
              refine O.pass rfl rfl rfl rfl rfl ?_
              refine O.pass rfl rfl rfl rfl rfl ?_
              refine O.pass rfl rfl rfl rfl rfl ?_
              refine O.val (v := .bool (true)) rfl (Ru.pickT rfl rfl) rfl ?_
              refine O.nil ?_
              refine C.condT rfl ?_
              refine C.seq ?_
              refine C.region ?_
              refine O.val (v := .bool (false)) rfl (Ru.assign rfl) rfl ?_
              refine O.nil ?_
              refine C.ret ?_
              refine P1 (v := .bool (false)) rfl ?_
              exact ⟨(by rw [← hi1_l8, vc_bad (by rw [hgl]; exact ok_no (by first | exact .inl (by omega) | exact .inr (.inl (by omega)) | exact .inr (.inr (by simp_all))))]), (Mem.none hM11_5)⟩
            · refine O.val (v := .pointer (ofs (bl b11_4) (0))) rfl (Ru.fieldA fl28_0 rfl rfl) rfl ?_
              refine O.val rfl (Ru.load1 el26 rfl ((hM11_5.rd 0 rfl).ld rfl)) rfl ?_
              refine O.val (v := I (((((l)[(a).toNat]'hx11_2).t.keys.length : Nat) : Int))) rfl (Ru.blenSlice Try.underlying26 rfl) rfl ?_
              refine O.val (v := .bool (decide (((((l)[(a).toNat]'hx11_2).t.keys.length : Nat) : Int) > 4))) rfl (Ru.gtr rfl rfl) rfl ?_
              refine O.val (v := .bool (decide (((((l)[(a).toNat]'hx11_2).t.keys.length : Nat) : Int) > 4))) rfl (Ru.pickF rfl rfl) rfl ?_
              refine O.val (v := .bool (decide (((((l)[(a).toNat]'hx11_2).t.keys.length : Nat) : Int) > 4))) rfl (Ru.move rfl) rfl ?_
              refine O.partp 49 (((((l)[(a).toNat]'hx11_2).t.keys.length : Nat) : Int) > 4) rfl (fun g49 => ?_) (fun g49 => ?_)
              · refine O.pass rfl rfl rfl rfl rfl ?_
                refine O.pass rfl rfl rfl rfl rfl ?_
                refine O.pass rfl rfl rfl rfl rfl ?_
                refine O.pass rfl rfl rfl rfl rfl ?_
                refine O.val (v := .bool (true)) rfl (Ru.pickT rfl rfl) rfl ?_
                refine O.nil ?_
                refine C.condT rfl ?_
                refine C.seq ?_
                refine C.region ?_
                refine O.val (v := .bool (false)) rfl (Ru.assign rfl) rfl ?_
                refine O.nil ?_
                refine C.ret ?_
                refine P1 (v := .bool (false)) rfl ?_
                exact ⟨(by rw [← hi1_l8, vc_bad (by rw [hgl]; exact ok_no (by first | exact .inl (by omega) | exact .inr (.inl (by omega)) | exact .inr (.inr (by simp_all))))]), (Mem.none hM11_5)⟩
              · refine O.val (v := .pointer (ofs (bl b11_4) (0))) rfl (Ru.fieldA fl28_0 rfl rfl) rfl ?_
                refine O.val rfl (Ru.load1 el26 rfl ((hM11_5.rd 0 rfl).ld rfl)) rfl ?_
                refine O.callg [.slice (((l)[(a).toNat]'hx11_2).A) ((((l)[(a).toNat]'hx11_2).t.keys).length) (((l)[(a).toNat]'hx11_2).cp)] rfl en27 (by first | rfl | (rw [show (((l)[(a).toNat]'hx11_2).t.keys).length = ((l)[(a).toNat]'hx11_2).t.keys.length from (by first | rfl | (simp; done) | omega | (simp; omega))]; rfl)) rfl (ValidKeys_fn (((l)[(a).toNat]'hx11_2).A) (((l)[(a).toNat]'hx11_2).cp) (((l)[(a).toNat]'hx11_2).t.keys) w11_5 ((hNA.at hM11_5).get hx11_2) (by omega)) ?_
                rintro _ w12_13 ⟨rfl, hR12_13⟩
                have hM12_13 : Mem w w12_13 [] [[⟨.slice (bl b11_4) 1 1, 28, 3, 1, [.slice (((l)[(a).toNat]'hx11_2).A) (((l)[(a).toNat]'hx11_2).t.keys.length) (((l)[(a).toNat]'hx11_2).cp), I (((l)[(a).toNat]'hx11_2).t.high), I (((l)[(a).toNat]'hx11_2).t.right)]⟩], [⟨.slice (bl b5_0) (16) (16), 52, 1, 16, (seenT (seen ++ [a])).map boV⟩]] := Mem.call (Ma := []) hM11_5 hR12_13 rfl
                refine O.val (v := .bool (!(validK (((l)[(a).toNat]'hx11_2).t.keys)))) rfl (Ru.not rfl) rfl ?_
                refine O.val (v := .bool (!(validK (((l)[(a).toNat]'hx11_2).t.keys)))) rfl (Ru.pickF rfl rfl) rfl ?_
                refine O.nil ?_
                refine C.condn (b := (validK (((l)[(a).toNat]'hx11_2).t.keys))) rfl (fun c54 => ?_) (fun c54 => ?_)
                · refine C.seq ?_
                  refine C.region ?_
                  refine O.val (v := .bool (false)) rfl (Ru.assign rfl) rfl ?_
                  refine O.nil ?_
                  refine C.ret ?_
                  refine P1 (v := .bool (false)) rfl ?_
                  exact ⟨(by rw [← hi1_l8, vc_bad (by rw [hgl]; exact ok_no (by first | exact .inl (by omega) | exact .inr (.inl (by omega)) | exact .inr (.inr (by simp_all))))]), (Mem.none hM12_13)⟩
                · refine C.skip ?_
                  refine C.seq ?_
                  refine C.seq ?_
                  refine C.region ?_
                  refine O.val (v := .pointer (ofs (bl b11_4) (0))) rfl (Ru.fieldA fl28_0 rfl rfl) rfl ?_
                  refine O.val rfl (Ru.load1 el26 rfl ((hM12_13.rd 0 rfl).ld rfl)) rfl ?_
                  refine O.val (v := I (((((l)[(a).toNat]'hx11_2).t.keys.length : Nat) : Int))) rfl (Ru.blenSlice Try.underlying26 rfl) rfl ?_
                  refine O.val (v := I (0)) rfl (Ru.move rfl) rfl ?_
                  refine O.nil ?_
                  refine C.block ?_
                  refine C.loop (ι := Nat) (fun k => ([(0, .slice (A) ((l).length) (c)), (3, I (low)), (5, .pointer (ofs (bl b5_0) (0))), (6, I (((t : Nat) : Int))), (7, .pointer (ofs (bl b11_4) (0))), (56, .slice (((l)[(a).toNat]'hx11_2).A) (((l)[(a).toNat]'hx11_2).t.keys.length) (((l)[(a).toNat]'hx11_2).cp)), (57, I (((((l)[(a).toNat]'hx11_2).t.keys.length : Nat) : Int))), (58, I (((k : Nat) : Int)))] : List (Nat × Value))) (fun k w_ => (k ≤ ((l)[(a).toNat]'hx11_2).t.keys.length) ∧ ((((l)[(a).toNat]'hx11_2).t.keys.take k).all (inLk low ((l)[(a).toNat]'hx11_2).t.high) = true) ∧ (Mem w w_ [] [[⟨.slice (bl b11_4) 1 1, 28, 3, 1, [.slice (((l)[(a).toNat]'hx11_2).A) (((l)[(a).toNat]'hx11_2).t.keys.length) (((l)[(a).toNat]'hx11_2).cp), I (((l)[(a).toNat]'hx11_2).t.high), I (((l)[(a).toNat]'hx11_2).t.right)]⟩], [⟨.slice (bl b5_0) (16) (16), 52, 1, 16, (seenT (seen ++ [a])).map boV⟩]])) (fun k => ((l)[(a).toNat]'hx11_2).t.keys.length - k) (0) (Has.cons rfl (Has.cons rfl (Has.cons rfl (Has.cons rfl (Has.cons rfl (Has.cons rfl (Has.cons rfl (Has.cons (I_congr (by first | rfl | omega | (simp; omega) | simp)) Has.nil)))))))) ⟨(by (try dsimp only); omega), (by (try dsimp only); simp), (hM12_13.pick [0, 1] (by decide) rfl)⟩ (fun k σ w_l15 hI => ?_)
                  try dsimp only at hI
                  obtain ⟨hi0_l15, hi1_l15, hM_l15⟩ := hI
                  refine C.seq ?_
                  refine C.region ?_
                  refine O.val (v := .bool (decide (((k : Nat) : Int) < ((((l)[(a).toNat]'hx11_2).t.keys.length : Nat) : Int)))) rfl (Ru.lss rfl rfl) rfl ?_
                  refine O.nil ?_
                  refine C.seq ?_
                  refine C.cond (p := ((k : Nat) : Int) < ((((l)[(a).toNat]'hx11_2).t.keys.length : Nat) : Int)) rfl (fun c59 => ?_) (fun c59 => ?_)
                  · refine C.skip ?_
                    refine C.seq ?_
                    refine C.block ?_
                    refine C.seq ?_
                    refine C.region ?_
                    have hx16_0 : k < (((l)[(a).toNat]'hx11_2).t.keys).length := (by first | omega | (simp; omega))
                    refine O.val (v := .pointer (ofs (((l)[(a).toNat]'hx11_2).A) (k * 1))) rfl (Ru.indexA (j := k) Try.underlying26 el3 rfl rfl (smm ((hNA.at hM_l15).get hx11_2) hx16_0) (by omega) (by first | omega | (simp; omega))) rfl ?_
                    refine O.val rfl (Ru.load1 el3 rfl (ldm ((hNA.at hM_l15).get hx11_2) hx16_0)) rfl ?_
                    refine O.val (v := I ((((l)[(a).toNat]'hx11_2).t.keys)[k]'hx16_0)) rfl (Ru.assign rfl) rfl ?_
                    refine O.nil ?_
                    refine C.seq ?_
                    refine C.region ?_
                    refine O.val (v := I ((((l)[(a).toNat]'hx11_2).t.keys)[k]'hx16_0)) rfl (Ru.move rfl) rfl ?_
                    refine O.val (v := I (low)) rfl (Ru.move rfl) rfl ?_
                    refine O.val (v := .bool (decide ((((l)[(a).toNat]'hx11_2).t.keys)[k]'hx16_0 < low))) rfl (Ru.lss rfl rfl) rfl ?_
                    refine O.val (v := .bool (decide ((((l)[(a).toNat]'hx11_2).t.keys)[k]'hx16_0 < low))) rfl (Ru.move rfl) rfl ?_
                    refine O.partp 65 ((((l)[(a).toNat]'hx11_2).t.keys)[k]'hx16_0 < low) rfl (fun g65 => ?_) (fun g65 => ?_)
                    · refine O.pass rfl rfl rfl rfl rfl ?_
                      refine O.pass rfl rfl rfl rfl rfl ?_
                      refine O.pass rfl rfl rfl rfl rfl ?_
                      refine O.pass rfl rfl rfl rfl rfl ?_
                      refine O.val (v := .bool (true)) rfl (Ru.pickT rfl rfl) rfl ?_
                      refine O.nil ?_
                      refine C.condT rfl ?_
                      refine C.seq ?_
                      refine C.region ?_
                      refine O.val (v := .bool (false)) rfl (Ru.assign rfl) rfl ?_
                      refine O.nil ?_
                      refine C.ret ?_
                      refine P1 (v := .bool (false)) rfl ?_
                      exact ⟨(by rw [← hi1_l8, vc_bad (by rw [hgl]; exact ok_key hx16_0 (by omega))]), (Mem.none hM_l15)⟩
                    · refine O.val (v := I ((((l)[(a).toNat]'hx11_2).t.keys)[k]'hx16_0)) rfl (Ru.move rfl) rfl ?_
                      refine O.val (v := .pointer (ofs (bl b11_4) (1))) rfl (Ru.fieldA fl28_1 rfl rfl) rfl ?_
                      refine O.val rfl (Ru.load1 el3 rfl ((hM_l15.rd 0 rfl).ld rfl)) rfl ?_
                      refine O.val (v := .bool (decide ((((l)[(a).toNat]'hx11_2).t.keys)[k]'hx16_0 ≥ ((l)[(a).toNat]'hx11_2).t.high))) rfl (Ru.geq rfl rfl) rfl ?_
                      refine O.val (v := .bool (decide ((((l)[(a).toNat]'hx11_2).t.keys)[k]'hx16_0 ≥ ((l)[(a).toNat]'hx11_2).t.high))) rfl (Ru.pickF rfl rfl) rfl ?_
                      refine O.nil ?_
                      refine C.cond (p := (((l)[(a).toNat]'hx11_2).t.keys)[k]'hx16_0 ≥ ((l)[(a).toNat]'hx11_2).t.high) rfl (fun c70 => ?_) (fun c70 => ?_)
                      · refine C.seq ?_
                        refine C.region ?_
                        refine O.val (v := .bool (false)) rfl (Ru.assign rfl) rfl ?_
                        refine O.nil ?_
                        refine C.ret ?_
                        refine P1 (v := .bool (false)) rfl ?_
                        exact ⟨(by rw [← hi1_l8, vc_bad (by rw [hgl]; exact ok_key hx16_0 (by omega))]), (Mem.none hM_l15)⟩
                      · refine C.skip ?_
                        refine C.region ?_
                        refine O.val (v := I ((((k + 1) : Nat) : Int))) rfl (Ru.congr (v := I ((((k : Nat) : Int) + 1))) (v' := I ((((k + 1) : Nat) : Int))) (Ru.add rfl rfl (by omega)) (I_congr (by first | omega | simp))) rfl ?_
                        refine O.val (v := I ((((k + 1) : Nat) : Int))) rfl (Ru.move rfl) rfl ?_
                        refine O.nil ?_
                        exact loopEnd (k + 1) (by (try dsimp only); omega) (Has.cons rfl (Has.cons rfl (Has.cons rfl (Has.cons rfl (Has.cons rfl (Has.cons rfl (Has.cons rfl (Has.cons (I_congr (by first | rfl | omega | (simp; omega) | simp)) Has.nil)))))))) ⟨(by (try dsimp only); omega), (in_step hi1_l15 hx16_0 (by omega) (by omega)), (hM_l15.pick [0, 1] (by decide) rfl)⟩
                  · refine C.exit ?_
                    refine C.seq ?_
                    refine C.seq ?_
                    have hal : ((l)[(a).toNat]'hx11_2).t.keys.all (inLk low ((l)[(a).toNat]'hx11_2).t.high) = true := all_end hi1_l15 (by omega)
                    have hok : okLk (gL (tsL l) a.toNat) low = true := by rw [hgl]; exact ok_yes (by omega) (by omega) (by simp_all) hal
                    have hlt2 : a < ((tsL l).length : Int) := by simp; omega
                    refine C.region ?_
                    refine O.val (v := I (((t : Nat) : Int))) rfl (Ru.move rfl) rfl ?_
                    refine O.val (v := .slice (A) ((l).length) (c)) rfl (Ru.move rfl) rfl ?_
                    refine O.val (v := I ((((l).length : Nat) : Int))) rfl (Ru.blenSlice Try.underlying23 rfl) rfl ?_
                    refine O.val (v := .bool (decide (((t : Nat) : Int) = (((l).length : Nat) : Int)))) rfl (Ru.eql rfl rfl) rfl ?_
                    refine O.nil ?_
                    refine C.cond (p := ((t : Nat) : Int) = (((l).length : Nat) : Int)) rfl (fun c75 => ?_) (fun c75 => ?_)
                    · refine C.seq ?_
                      refine C.region ?_
                      refine O.val (v := .pointer (ofs (bl b11_4) (2))) rfl (Ru.fieldA fl28_2 rfl rfl) rfl ?_
                      refine O.val rfl (Ru.load1 el3 rfl ((hM_l15.rd 0 rfl).ld rfl)) rfl ?_
                      refine O.val (v := .bool (decide (((l)[(a).toNat]'hx11_2).t.right = (-1)))) rfl (Ru.eql rfl rfl) rfl ?_
                      refine O.val (v := .bool (decide (((l)[(a).toNat]'hx11_2).t.right = (-1)))) rfl (Ru.move rfl) rfl ?_
                      refine O.partp 79 (((l)[(a).toNat]'hx11_2).t.right = (-1)) rfl (fun g79 => ?_) (fun g79 => ?_)
                      · refine O.val (v := .pointer (ofs (bl b11_4) (1))) rfl (Ru.fieldA fl28_1 rfl rfl) rfl ?_
                        refine O.val rfl (Ru.load1 el3 rfl ((hM_l15.rd 0 rfl).ld rfl)) rfl ?_
                        refine O.val (v := .bool (decide (((l)[(a).toNat]'hx11_2).t.high = 100))) rfl (Ru.eql rfl rfl) rfl ?_
                        refine O.val (v := .bool (decide (((l)[(a).toNat]'hx11_2).t.high = 100))) rfl (Ru.pickT rfl rfl) rfl ?_
                        refine O.val (v := .bool (decide (((l)[(a).toNat]'hx11_2).t.high = 100))) rfl (Ru.assign rfl) rfl ?_
                        refine O.nil ?_
                        refine C.ret ?_
                        refine P1 (v := .bool (decide (((l)[(a).toNat]'hx11_2).t.high = 100))) rfl ?_
                        exact ⟨(by rw [← hi1_l8, show l.length + 1 - t = 1 by omega, vc_last han hlt2 hns hok, hgl]; first | (simp [g78]; done) | (simp [g79]; done) | simp_all), (Mem.none hM_l15)⟩
                      · refine O.pass rfl rfl rfl rfl rfl ?_
                        refine O.pass rfl rfl rfl rfl rfl ?_
                        refine O.pass rfl rfl rfl rfl rfl ?_
                        refine O.val (v := .bool (false)) rfl (Ru.pickF rfl rfl) rfl ?_
                        refine O.val (v := .bool (false)) rfl (Ru.assign rfl) rfl ?_
                        refine O.nil ?_
                        refine C.ret ?_
                        refine P1 (v := .bool (false)) rfl ?_
                        exact ⟨(by rw [← hi1_l8, show l.length + 1 - t = 1 by omega, vc_last han hlt2 hns hok, hgl]; first | (simp [g78]; done) | (simp [g79]; done) | simp_all), (Mem.none hM_l15)⟩
                    · refine C.skip ?_
                      refine C.seq ?_
                      refine C.region ?_
                      refine O.val (v := .pointer (ofs (bl b11_4) (1))) rfl (Ru.fieldA fl28_1 rfl rfl) rfl ?_
                      refine O.val rfl (Ru.load1 el3 rfl ((hM_l15.rd 0 rfl).ld rfl)) rfl ?_
                      refine O.val (v := I (((l)[(a).toNat]'hx11_2).t.high)) rfl (Ru.assign rfl) rfl ?_
                      refine O.nil ?_
                      refine C.region ?_
                      refine O.val (v := .pointer (ofs (bl b11_4) (2))) rfl (Ru.fieldA fl28_2 rfl rfl) rfl ?_
                      refine O.val rfl (Ru.load1 el3 rfl ((hM_l15.rd 0 rfl).ld rfl)) rfl ?_
                      refine O.val (v := I (((l)[(a).toNat]'hx11_2).t.right)) rfl (Ru.assign rfl) rfl ?_
                      refine O.nil ?_
                      refine C.region ?_
                      refine O.val (v := I (((t : Nat) : Int))) rfl (Ru.move rfl) rfl ?_
                      refine O.val (v := I ((((t + 1) : Nat) : Int))) rfl (Ru.congr (v := I ((((t : Nat) : Int) + 1))) (v' := I ((((t + 1) : Nat) : Int))) (Ru.add rfl rfl (by omega)) (I_congr (by first | omega | simp))) rfl ?_
                      refine O.val (v := I ((((t + 1) : Nat) : Int))) rfl (Ru.assign rfl) rfl ?_
                      refine O.nil ?_
                      simp only [blkQ]
                      exact loopEnd ((t + 1), (((l)[(a).toNat]'hx11_2).t.right), (((l)[(a).toNat]'hx11_2).t.high), (seen ++ [a])) (by (try dsimp only); omega) (Has.cons rfl (Has.cons rfl (Has.cons rfl (Has.cons rfl (Has.cons rfl Has.nil))))) ⟨(by (try dsimp only); omega), (by (try dsimp only); have h9 := vc_next (l := tsL l) (n := l.length - t) (seen := seen) (low := low) (by omega) han hlt2 hns hok; rw [hgl] at h9; rw [← hi1_l8, show l.length + 1 - t = l.length - t + 1 by omega, h9]; congr 1; omega), (hM_l15.pick [1] (by decide) rfl)⟩

theorem FindLink_fn (A : Option Addr) (c : Nat) (l : List LnkL) (at0 : Int) (key : Int) (w : World) (hA : Rd w A ((l).flatMap encL)) (hNA : Nst w l) (hl : l.length ≤ 1048576) :
    Does Try.prog 21 [.slice (A) ((l).length) (c), I (at0), I (key)] w (fun v w1 => v = I (findC (tsL l) at0 key) ∧ Mem w w1 [] []) := by
  have hM : Mem w w [] [] := Mem.refl
  refine Does.enter1 Try.func21 rfl Try.results21 Try.ntmps21 rfl ?_
  refine C.seq ?_
  refine C.region ?_
  refine O.val (v := I (0)) rfl (Ru.assign rfl) rfl ?_
  refine O.nil ?_
  refine C.seq ?_
  refine C.seq ?_
  refine C.region ?_
  refine O.val (v := .slice (A) ((l).length) (c)) rfl (Ru.move rfl) rfl ?_
  refine O.callg [.slice (A) ((l).length) (c)] rfl en18 rfl rfl (ValidChain_fn A c l w (hA.at hM) (hNA.at hM) (by first | omega | assumption | (simp; omega) | simp | (intros; omega))) ?_
  rintro _ w1_1 ⟨rfl, hR1_1⟩
  have hM1_1 : Mem w w1_1 [] [] := Mem.call (Ma := []) hM hR1_1 rfl
  refine O.val (v := .bool (!(validC (tsL l)))) rfl (Ru.not rfl) rfl ?_
  refine O.val (v := .bool (!(validC (tsL l)))) rfl (Ru.move rfl) rfl ?_
  refine O.part 10 (!(validC (tsL l))) rfl (fun g10 => ?_) (fun g10 => ?_)
  · refine O.pass rfl rfl rfl rfl rfl ?_
    refine O.pass rfl rfl rfl rfl rfl ?_
    refine O.val (v := .bool (true)) rfl (Ru.pickT rfl rfl) rfl ?_
    refine O.val (v := .bool (true)) rfl (Ru.move rfl) rfl ?_
    refine O.pass rfl rfl rfl rfl rfl ?_
    refine O.pass rfl rfl rfl rfl rfl ?_
    refine O.pass rfl rfl rfl rfl rfl ?_
    refine O.pass rfl rfl rfl rfl rfl ?_
    refine O.val (v := .bool (true)) rfl (Ru.pickT rfl rfl) rfl ?_
    refine O.val (v := .bool (true)) rfl (Ru.move rfl) rfl ?_
    refine O.pass rfl rfl rfl rfl rfl ?_
    refine O.pass rfl rfl rfl rfl rfl ?_
    refine O.pass rfl rfl rfl rfl rfl ?_
    refine O.val (v := .bool (true)) rfl (Ru.pickT rfl rfl) rfl ?_
    refine O.nil ?_
    refine C.condT rfl ?_
    refine C.seq ?_
    refine C.region ?_
    refine O.val (v := I ((-1))) rfl (Ru.assign rfl) rfl ?_
    refine O.nil ?_
    refine C.ret ?_
    refine P1 (v := I ((-1))) rfl ?_
    exact ⟨(by rw [find_bad (by cases hh : goodF (tsL l) at0 key with | false => rfl | true => (exfalso; obtain ⟨a1, ⟨a2, a3⟩, a4, a5⟩ := goodF_iff.1 hh; simp at a3; first | omega | (simp [a1] at g10; done) | (simp [isKeyB] at c24; omega)))]), (Mem.none hM1_1)⟩
  · refine O.val (v := I (at0)) rfl (Ru.move rfl) rfl ?_
    refine O.val (v := .bool (decide (at0 < 0))) rfl (Ru.lss rfl rfl) rfl ?_
    refine O.val (v := .bool (decide (at0 < 0))) rfl (Ru.pickF rfl rfl) rfl ?_
    refine O.val (v := .bool (decide (at0 < 0))) rfl (Ru.move rfl) rfl ?_
    refine O.partp 14 (at0 < 0) rfl (fun g14 => ?_) (fun g14 => ?_)
    · refine O.pass rfl rfl rfl rfl rfl ?_
      refine O.pass rfl rfl rfl rfl rfl ?_
      refine O.pass rfl rfl rfl rfl rfl ?_
      refine O.pass rfl rfl rfl rfl rfl ?_
      refine O.val (v := .bool (true)) rfl (Ru.pickT rfl rfl) rfl ?_
      refine O.val (v := .bool (true)) rfl (Ru.move rfl) rfl ?_
      refine O.pass rfl rfl rfl rfl rfl ?_
      refine O.pass rfl rfl rfl rfl rfl ?_
      refine O.pass rfl rfl rfl rfl rfl ?_
      refine O.val (v := .bool (true)) rfl (Ru.pickT rfl rfl) rfl ?_
      refine O.nil ?_
      refine C.condT rfl ?_
      refine C.seq ?_
      refine C.region ?_
      refine O.val (v := I ((-1))) rfl (Ru.assign rfl) rfl ?_
      refine O.nil ?_
      refine C.ret ?_
      refine P1 (v := I ((-1))) rfl ?_
      exact ⟨(by rw [find_bad (by cases hh : goodF (tsL l) at0 key with | false => rfl | true => (exfalso; obtain ⟨a1, ⟨a2, a3⟩, a4, a5⟩ := goodF_iff.1 hh; simp at a3; first | omega | (simp [a1] at g10; done) | (simp [isKeyB] at c24; omega)))]), (Mem.none hM1_1)⟩
    · refine O.val (v := I (at0)) rfl (Ru.move rfl) rfl ?_
      refine O.val (v := .slice (A) ((l).length) (c)) rfl (Ru.move rfl) rfl ?_
      refine O.val (v := I ((((l).length : Nat) : Int))) rfl (Ru.blenSlice Try.underlying23 rfl) rfl ?_
      refine O.val (v := .bool (decide (at0 ≥ (((l).length : Nat) : Int)))) rfl (Ru.geq rfl rfl) rfl ?_
      refine O.val (v := .bool (decide (at0 ≥ (((l).length : Nat) : Int)))) rfl (Ru.pickF rfl rfl) rfl ?_
      refine O.val (v := .bool (decide (at0 ≥ (((l).length : Nat) : Int)))) rfl (Ru.move rfl) rfl ?_
      refine O.partp 20 (at0 ≥ (((l).length : Nat) : Int)) rfl (fun g20 => ?_) (fun g20 => ?_)
      · refine O.pass rfl rfl rfl rfl rfl ?_
        refine O.pass rfl rfl rfl rfl rfl ?_
        refine O.pass rfl rfl rfl rfl rfl ?_
        refine O.val (v := .bool (true)) rfl (Ru.pickT rfl rfl) rfl ?_
        refine O.nil ?_
        refine C.condT rfl ?_
        refine C.seq ?_
        refine C.region ?_
        refine O.val (v := I ((-1))) rfl (Ru.assign rfl) rfl ?_
        refine O.nil ?_
        refine C.ret ?_
        refine P1 (v := I ((-1))) rfl ?_
        exact ⟨(by rw [find_bad (by cases hh : goodF (tsL l) at0 key with | false => rfl | true => (exfalso; obtain ⟨a1, ⟨a2, a3⟩, a4, a5⟩ := goodF_iff.1 hh; simp at a3; first | omega | (simp [a1] at g10; done) | (simp [isKeyB] at c24; omega)))]), (Mem.none hM1_1)⟩
      · refine O.val (v := I (key)) rfl (Ru.move rfl) rfl ?_
        refine O.callg [I (key)] rfl en47 rfl rfl (isKey_fn key w1_1 ) ?_
        rintro _ w1_15 ⟨rfl, hR1_15⟩
        have hM1_15 : Mem w w1_15 [] [] := Mem.call (Ma := []) hM1_1 hR1_15 rfl
        refine O.val (v := .bool (!(isKeyB key))) rfl (Ru.not rfl) rfl ?_
        refine O.val (v := .bool (!(isKeyB key))) rfl (Ru.pickF rfl rfl) rfl ?_
        refine O.nil ?_
        refine C.condn (b := (isKeyB key)) rfl (fun c24 => ?_) (fun c24 => ?_)
        · refine C.seq ?_
          refine C.region ?_
          refine O.val (v := I ((-1))) rfl (Ru.assign rfl) rfl ?_
          refine O.nil ?_
          refine C.ret ?_
          refine P1 (v := I ((-1))) rfl ?_
          exact ⟨(by rw [find_bad (by cases hh : goodF (tsL l) at0 key with | false => rfl | true => (exfalso; obtain ⟨a1, ⟨a2, a3⟩, a4, a5⟩ := goodF_iff.1 hh; simp at a3; first | omega | (simp [a1] at g10; done) | (simp [isKeyB] at c24; omega)))]), (Mem.none hM1_15)⟩
        · have hg : goodF (tsL l) at0 key = true := by rw [goodF_iff]; simp_all [isKey_iff] <;> omega
          have hfrom := from_hd (goodF_iff.1 hg).1 (goodF_iff.1 hg).2.1.1 (by simpa using (goodF_iff.1 hg).2.1.2)
          refine C.skip ?_
          refine C.seq ?_
          refine C.block ?_
          refine C.loop (ι := List Nat) (fun q => ([(0, .slice (A) ((l).length) (c)), (1, I (hdq q)), (2, I (key))] : List (Nat × Value))) (fun q w_ => (sfx (tsL l) q) ∧ (fp (tsL l) key q = findC (tsL l) at0 key) ∧ (Mem w w_ [] [])) (fun q => q.length) ((fromC (tsL l) at0.toNat)) (Has.cons rfl (Has.cons (I_congr hfrom.1.symm) (Has.cons rfl Has.nil))) ⟨hfrom.2, (find_good hg).symm, (hM1_15.pick [] (by decide) rfl)⟩ (fun q σ w_l3 hI => ?_)
          try dsimp only at hI
          obtain ⟨hi0_l3, hi1_l3, hM_l3⟩ := hI
          refine C.seq ?_
          refine C.seq ?_
          refine C.region ?_
          refine O.val (v := I (hdq q)) rfl (Ru.move rfl) rfl ?_
          refine O.val (v := .bool (decide (hdq q ≥ 0))) rfl (Ru.geq rfl rfl) rfl ?_
          refine O.val (v := .bool (decide (hdq q ≥ 0))) rfl (Ru.move rfl) rfl ?_
          refine O.partp 27 (hdq q ≥ 0) rfl (fun g27 => ?_) (fun g27 => ?_)
          · have hh0 : 0 ≤ hdq q := by omega
            have hlt : (hdq q).toNat < l.length := by have := sfx_lt hi0_l3 hh0; simpa using this
            have hgl := gL_ts hlt
            refine O.val (v := I (key)) rfl (Ru.move rfl) rfl ?_
            refine O.val (v := .slice (A) ((l).length) (c)) rfl (Ru.move rfl) rfl ?_
            refine O.val (v := I (hdq q)) rfl (Ru.move rfl) rfl ?_
            have hx3_6 : (hdq q).toNat < (l).length := hlt
            refine O.val (v := .pointer (ofs (A) (((hdq q).toNat) * 3))) rfl (Ru.indexA (j := (hdq q).toNat) Try.underlying23 el28 rfl rfl (smf encL_len (hA.at hM_l3) hx3_6 rfl) (by omega) (by omega)) rfl ?_
            refine O.val (v := .pointer (ofs (A) (((hdq q).toNat) * 3 + 1))) rfl (Ru.fieldA fl28_1 rfl (smf encL_len (hA.at hM_l3) hx3_6 rfl)) rfl ?_
            refine O.val rfl (Ru.load1 el3 rfl (ldf encL_len (hA.at hM_l3) hx3_6 rfl)) rfl ?_
            refine O.val (v := .bool (decide (key ≥ ((l)[(hdq q).toNat]'hx3_6).t.high))) rfl (Ru.geq rfl rfl) rfl ?_
            refine O.val (v := .bool (decide (key ≥ ((l)[(hdq q).toNat]'hx3_6).t.high))) rfl (Ru.pickT rfl rfl) rfl ?_
            refine O.nil ?_
            refine C.cond (p := key ≥ ((l)[(hdq q).toNat]'hx3_6).t.high) rfl (fun c35 => ?_) (fun c35 => ?_)
            · refine C.skip ?_
              refine C.block ?_
              refine C.region ?_
              refine O.val (v := .slice (A) ((l).length) (c)) rfl (Ru.move rfl) rfl ?_
              refine O.val (v := I (hdq q)) rfl (Ru.move rfl) rfl ?_
              have hx4_2 : (hdq q).toNat < (l).length := hlt
              refine O.val (v := .pointer (ofs (A) (((hdq q).toNat) * 3))) rfl (Ru.indexA (j := (hdq q).toNat) Try.underlying23 el28 rfl rfl (smf encL_len (hA.at hM_l3) hx4_2 rfl) (by omega) (by omega)) rfl ?_
              refine O.val (v := .pointer (ofs (A) (((hdq q).toNat) * 3 + 2))) rfl (Ru.fieldA fl28_2 rfl (smf encL_len (hA.at hM_l3) hx4_2 rfl)) rfl ?_
              refine O.val rfl (Ru.load1 el3 rfl (ldf encL_len (hA.at hM_l3) hx4_2 rfl)) rfl ?_
              refine O.val (v := I (((l)[(hdq q).toNat]'hx4_2).t.right)) rfl (Ru.assign rfl) rfl ?_
              refine O.nil ?_
              exact loopEnd (q.tail) (by (try dsimp only); have := hdq_len hh0; omega) (Has.cons rfl (Has.cons (I_congr (by rw [← hgl]; exact (sfx_next hi0_l3 hh0).1)) (Has.cons rfl Has.nil))) ⟨(sfx_next hi0_l3 hh0).2, (by (try dsimp only); rw [fp_next hh0 (by rw [hgl]; omega)]; exact hi1_l3), (hM_l3.pick [] (by decide) rfl)⟩
            · refine C.exit ?_
              refine C.seq ?_
              refine C.region ?_
              refine O.val (v := I (hdq q)) rfl (Ru.move rfl) rfl ?_
              refine O.val (v := I (hdq q)) rfl (Ru.assign rfl) rfl ?_
              refine O.nil ?_
              refine C.ret ?_
              refine P1 (v := I (hdq q)) rfl ?_
              exact ⟨(I_congr (by rw [← hi1_l3]; first | exact fp_end (by omega) | exact fp_stop hh0 (by rw [hgl]; omega))), (Mem.none hM_l3)⟩
          · refine O.pass rfl rfl rfl rfl rfl ?_
            refine O.pass rfl rfl rfl rfl rfl ?_
            refine O.pass rfl rfl rfl rfl rfl ?_
            refine O.pass rfl rfl rfl rfl rfl ?_
            refine O.pass rfl rfl rfl rfl rfl ?_
            refine O.pass rfl rfl rfl rfl rfl ?_
            refine O.pass rfl rfl rfl rfl rfl ?_
            refine O.val (v := .bool (false)) rfl (Ru.pickF rfl rfl) rfl ?_
            refine O.nil ?_
            refine C.condF rfl ?_
            refine C.exit ?_
            refine C.seq ?_
            refine C.region ?_
            refine O.val (v := I (hdq q)) rfl (Ru.move rfl) rfl ?_
            refine O.val (v := I (hdq q)) rfl (Ru.assign rfl) rfl ?_
            refine O.nil ?_
            refine C.ret ?_
            refine P1 (v := I (hdq q)) rfl ?_
            exact ⟨(I_congr (by rw [← hi1_l3]; first | exact fp_end (by omega) | exact fp_stop hh0 (by rw [hgl]; omega))), (Mem.none hM_l3)⟩
end Go.Proofs.Yteljpjapacajoaa
