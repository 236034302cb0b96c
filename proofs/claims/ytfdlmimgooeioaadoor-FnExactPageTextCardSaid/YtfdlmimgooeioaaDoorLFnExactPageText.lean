/- The statement Rows.FnExactPageTextCardSaid: the Go function laws.FnExactPageText returns true for every input, and each argument reads afterwards as it read before; the tied card. Condition: the listed package-level variables read as the card ties them to the program's text. -/
import Derived.Test.YtfdlmimgooeioaaDoorRows
import Derived.Test.YtfdlmimgooeioaaDoorCards
import Derived.Test.YtfdlmimgooeioaaDoorTie
import Derived.Test.YtfdlmimgooeioaaDoorPxO
import Derived.Test.YtfdlmimgooeioaaDoorFE
import Derived.Test.YtfdlmimgooeioaaDoorV4
import Derived.WalkKit
import Derived.ProofKit
import Derived.OpenShut
import Derived.ShutString
import Derived.ChangeOld
import Derived.SliceStrings
import Derived.Deep.Slices
import Derived.Deep.Fields
import Derived.ChangeSame
import Derived.Below
import Derived.LaidMore
import Derived.Stop.Joined
import Derived.SevenTiedAt
import Derived.MakeChecks
set_option linter.unusedVariables false
set_option linter.unusedSimpArgs false
namespace Go.Proofs.YtfdlmimgooeioaaDoor
open Go.Px
set_option linter.unusedVariables false
set_option maxHeartbeats 4000000 in
theorem FnExactPageText_fn (aT : TreeL) (aAt : Int) (w : World) (hNaT : TrN w aT) (hl : (aT).l.length ≤ 9223372036854775807) (hk : ∀ x ∈ (aT).l, (x).k.l.length ≤ 9223372036854775807 ∧ (x).c.l.length ≤ 9223372036854775807 ∧ (x).v.l.length ≤ 9223372036854775807) (htab : TAB w) :
    Does Tryd.prog 5 [.agg #[I ((aT).root), .slice ((aT).A) ((aT).l.length) ((aT).cp)], I (aAt)] w (fun v w1 => v = .bool (true) ∧ Mem w w1 [] []) := by
  have hM : Mem w w [] [] := Mem.refl
  refine Does.enter1 Tryd.func5 rfl Tryd.results5 Tryd.ntmps5 rfl ?_
  refine C.seq ?_
  refine C.region ?_
  refine O.mbox (k := 2) (vs := [I ((aT).root), .slice ((aT).A) ((aT).l.length) ((aT).cp)]) hM rfl rfl rfl rfl rfl (fun w0_0 b0_0 hb0_0 (hM0_0 : Mem w w0_0 [] [[⟨.slice (bl b0_0) 1 1, 34, 2, 1, [I ((aT).root), .slice ((aT).A) ((aT).l.length) ((aT).cp)]⟩]]) => ?_)
  refine O.val (v := .bool (false)) rfl (Ru.assign rfl) rfl ?_
  refine O.nil ?_
  refine C.seq ?_
  refine C.region ?_
  refine O.val (v := I (1048576)) rfl (Ru.assign rfl) rfl ?_
  refine O.nil ?_
  refine C.seq ?_
  refine C.region ?_
  refine O.val rfl (Ru.loadN (vs := [I ((aT).root), .slice ((aT).A) ((aT).l.length) ((aT).cp)]) el34 rfl rfl rfl ((mem_blk (i := 0) (j := 0) hM0_0 rfl rfl).lds (k := 0) rfl)) rfl ?_
  refine O.val (v := I (1048576)) rfl (Ru.move rfl) rfl ?_
  refine O.callg [.agg #[I ((aT).root), .slice ((aT).A) ((aT).l.length) ((aT).cp)], I (1048576)] rfl en19 rfl rfl (szTree_fn aT 1048576 w0_0 (hNaT.at hM0_0) (by first | omega | assumption | (simp; omega) | simp | (intros; omega)) (by first | omega | assumption | (simp; omega) | simp | (intros; omega)) (by first | omega | assumption | (simp; omega) | simp | (intros; omega))) ?_
  rintro _ w2_2 ⟨rfl, hR2_2⟩
  have hM2_2 : Mem w w2_2 [] [[⟨.slice (bl b0_0) 1 1, 34, 2, 1, [I ((aT).root), .slice ((aT).A) ((aT).l.length) ((aT).cp)]⟩]] := Mem.call (Ma := []) hM0_0 hR2_2 rfl
  refine O.val (v := I (szR 1048576 ((aT).l.length + sumG (aT).l))) rfl (Ru.assign rfl) rfl ?_
  refine O.nil ?_
  refine C.seq ?_
  refine C.seq ?_
  refine C.region ?_
  refine O.val (v := I (szR 1048576 ((aT).l.length + sumG (aT).l))) rfl (Ru.move rfl) rfl ?_
  refine O.val (v := .bool (decide (szR 1048576 ((aT).l.length + sumG (aT).l) < 0))) rfl (Ru.lss rfl rfl) rfl ?_
  refine O.nil ?_
  refine C.cond (p := szR 1048576 ((aT).l.length + sumG (aT).l) < 0) rfl (fun c13 => ?_) (fun c13 => ?_)
  · refine C.seq ?_
    refine C.region ?_
    refine O.val (v := .bool (true)) rfl (Ru.assign rfl) rfl ?_
    refine O.nil ?_
    refine C.ret ?_
    refine P1 (v := .bool (true)) rfl ?_
    exact ⟨rfl, (Mem.none hM2_2)⟩
  · have hz : (aT).l.length + sumG (aT).l ≤ 1048576 := by apply Classical.byContradiction; intro hn; apply c13; rw [szR_no (by omega)]; decide
    have hs := sz_tree hz
    refine C.skip ?_
    refine C.seq ?_
    refine C.region ?_
    refine O.val rfl (Ru.loadN (vs := [I ((aT).root), .slice ((aT).A) ((aT).l.length) ((aT).cp)]) el34 rfl rfl rfl ((mem_blk (i := 0) (j := 0) hM2_2 rfl rfl).lds (k := 0) rfl)) rfl ?_
    refine O.callg [.agg #[I ((aT).root), .slice ((aT).A) ((aT).l.length) ((aT).cp)]] rfl en21 rfl rfl (toTree_fn aT w2_2 (hNaT.at hM2_2) (by exact hs)) ?_
    rintro _ w5_1 ⟨L15_1, A15_1, c15_1, rfl, hts5_1, hR5_1⟩
    have hM5_1 : Mem w w5_1 [] [[⟨.slice (A15_1) ((L15_1).length) (c15_1), 58, 3, ((L15_1).length), (L15_1).flatMap encPg⟩], (L15_1).flatMap (pgF 3), [⟨.slice (bl b0_0) 1 1, 34, 2, 1, [I ((aT).root), .slice ((aT).A) ((aT).l.length) ((aT).cp)]⟩]] := Mem.call (Ma := []) hM2_2 hR5_1 rfl
    have hcr5_1_0 := (hM5_1.cap 0 rfl).1
    have hs5_1 : SzT ⟨(aT).root, A15_1, c15_1, L15_1⟩ := sz_copy hs hts5_1
    have ht5_1 : (⟨(aT).root, A15_1, c15_1, L15_1⟩ : TreeL).t = (aT).t := t_copy hts5_1
    refine O.val (v := I (aAt)) rfl (Ru.move rfl) rfl ?_
    refine O.callg [.agg #[I ((aT).root), .slice (A15_1) ((L15_1).length) (c15_1)], I (aAt)] rfl en20 rfl rfl (sPageText_fn (⟨(aT).root, A15_1, c15_1, L15_1⟩ : TreeL) aAt w5_1 ⟨(hM5_1.rd 0 rfl), (NsP.mem hM5_1 1 rfl)⟩ (by exact hs5_1)) ?_
    rintro _ w5_3 ⟨rfl, hR5_3⟩
    have hM5_3 : Mem w w5_3 [] [[⟨.slice (A15_1) ((L15_1).length) (c15_1), 58, 3, ((L15_1).length), (L15_1).flatMap encPg⟩], (L15_1).flatMap (pgF 3), [⟨.slice (bl b0_0) 1 1, 34, 2, 1, [I ((aT).root), .slice ((aT).A) ((aT).l.length) ((aT).cp)]⟩]] := Mem.call (Ma := []) hM5_1 hR5_3 rfl
    refine O.val (v := S (pgX ((⟨(aT).root, A15_1, c15_1, L15_1⟩ : TreeL)).t aAt)) rfl (Ru.assign rfl) rfl ?_
    refine O.nil ?_
    refine C.seq ?_
    refine C.region ?_
    refine O.val rfl (Ru.loadN (vs := [I ((aT).root), .slice ((aT).A) ((aT).l.length) ((aT).cp)]) el34 rfl rfl rfl ((mem_blk (i := 2) (j := 0) hM5_3 rfl rfl).lds (k := 0) rfl)) rfl ?_
    refine O.callg [.agg #[I ((aT).root), .slice ((aT).A) ((aT).l.length) ((aT).cp)]] rfl en21 rfl rfl (toTree_fn aT w5_3 (hNaT.at hM5_3) (by exact hs)) ?_
    rintro _ w6_1 ⟨L16_1, A16_1, c16_1, rfl, hts6_1, hR6_1⟩
    have hM6_1 : Mem w w6_1 [] [[⟨.slice (A16_1) ((L16_1).length) (c16_1), 58, 3, ((L16_1).length), (L16_1).flatMap encPg⟩], (L16_1).flatMap (pgF 3), [⟨.slice (A15_1) ((L15_1).length) (c15_1), 58, 3, ((L15_1).length), (L15_1).flatMap encPg⟩], (L15_1).flatMap (pgF 3), [⟨.slice (bl b0_0) 1 1, 34, 2, 1, [I ((aT).root), .slice ((aT).A) ((aT).l.length) ((aT).cp)]⟩]] := Mem.call (Ma := []) hM5_3 hR6_1 rfl
    have hcr6_1_0 := (hM6_1.cap 0 rfl).1
    have hs6_1 : SzT ⟨(aT).root, A16_1, c16_1, L16_1⟩ := sz_copy hs hts6_1
    have ht6_1 : (⟨(aT).root, A16_1, c16_1, L16_1⟩ : TreeL).t = (aT).t := t_copy hts6_1
    refine O.malloc (k := 2) hM6_1 rfl rfl el39 rfl (fun w6_2 b6_2 hb6_2 (hM6_2 : Mem w w6_2 [] [[⟨.slice (bl b6_2) 1 1, 39, 2, 1, [I (0), .slice (none) (0) (0)]⟩], [⟨.slice (A16_1) ((L16_1).length) (c16_1), 58, 3, ((L16_1).length), (L16_1).flatMap encPg⟩], (L16_1).flatMap (pgF 3), [⟨.slice (A15_1) ((L15_1).length) (c15_1), 58, 3, ((L15_1).length), (L15_1).flatMap encPg⟩], (L15_1).flatMap (pgF 3), [⟨.slice (bl b0_0) 1 1, 34, 2, 1, [I ((aT).root), .slice ((aT).A) ((aT).l.length) ((aT).cp)]⟩]]) => ?_)
    refine O.mstore (vs := [I ((aT).root), .slice (A16_1) ((L16_1).length) (c16_1)]) (xs' := [I ((aT).root), .slice (A16_1) ((L16_1).length) (c16_1)]) 0 0 hM6_2 rfl rfl rfl el39 rfl rfl rfl rfl rfl (by simp) (by simp) rfl rfl (fun w6_3 (hM6_3 : Mem w w6_3 [] [[⟨.slice (bl b6_2) 1 1, 39, 2, 1, [I ((aT).root), .slice (A16_1) ((L16_1).length) (c16_1)]⟩], [⟨.slice (A16_1) ((L16_1).length) (c16_1), 58, 3, ((L16_1).length), (L16_1).flatMap encPg⟩], (L16_1).flatMap (pgF 3), [⟨.slice (A15_1) ((L15_1).length) (c15_1), 58, 3, ((L15_1).length), (L15_1).flatMap encPg⟩], (L15_1).flatMap (pgF 3), [⟨.slice (bl b0_0) 1 1, 34, 2, 1, [I ((aT).root), .slice ((aT).A) ((aT).l.length) ((aT).cp)]⟩]]) => ?_)
    refine O.nil ?_
    refine C.seq ?_
    refine C.region ?_
    refine O.val rfl (Ru.loadN (vs := [I ((aT).root), .slice (A16_1) ((L16_1).length) (c16_1)]) el39 rfl rfl rfl ((mem_blk (i := 0) (j := 0) hM6_3 rfl rfl).lds (k := 0) rfl)) rfl ?_
    refine O.val (v := I (aAt)) rfl (Ru.move rfl) rfl ?_
    refine O.callg [.agg #[I ((aT).root), .slice (A16_1) ((L16_1).length) (c16_1)], I (aAt)] rfl en22 rfl rfl (PageText_fn (⟨(aT).root, A16_1, c16_1, L16_1⟩ : TreeL) aAt w6_3 ⟨(hM6_3.rd 1 rfl), (NsP.mem hM6_3 2 rfl)⟩ (by exact hs6_1) (tab_at htab hM6_3)) ?_
    rintro _ w7_2 ⟨rfl, hR7_2⟩
    have hM7_2 : Mem w w7_2 [] [[⟨.slice (bl b6_2) 1 1, 39, 2, 1, [I ((aT).root), .slice (A16_1) ((L16_1).length) (c16_1)]⟩], [⟨.slice (A16_1) ((L16_1).length) (c16_1), 58, 3, ((L16_1).length), (L16_1).flatMap encPg⟩], (L16_1).flatMap (pgF 3), [⟨.slice (A15_1) ((L15_1).length) (c15_1), 58, 3, ((L15_1).length), (L15_1).flatMap encPg⟩], (L15_1).flatMap (pgF 3), [⟨.slice (bl b0_0) 1 1, 34, 2, 1, [I ((aT).root), .slice ((aT).A) ((aT).l.length) ((aT).cp)]⟩]] := Mem.call (Ma := []) hM6_3 hR7_2 rfl
    refine O.val (v := S (pgX ((⟨(aT).root, A16_1, c16_1, L16_1⟩ : TreeL)).t aAt)) rfl (Ru.assign rfl) rfl ?_
    refine O.nil ?_
    refine C.seq ?_
    refine C.seq ?_
    refine C.region ?_
    refine O.val (v := S (pgX ((⟨(aT).root, A16_1, c16_1, L16_1⟩ : TreeL)).t aAt)) rfl (Ru.move rfl) rfl ?_
    refine O.val (v := S (pgX ((⟨(aT).root, A15_1, c15_1, L15_1⟩ : TreeL)).t aAt)) rfl (Ru.move rfl) rfl ?_
    refine O.val (v := .bool (false)) rfl (Ru.congr (v := .bool (decide (pgX ((⟨(aT).root, A16_1, c16_1, L16_1⟩ : TreeL)).t aAt ≠ pgX ((⟨(aT).root, A15_1, c15_1, L15_1⟩ : TreeL)).t aAt))) (v' := .bool (false)) (Ru.sneq rfl rfl) ((congrArg Value.bool (decide_eq_false (by rw [ht6_1, ht5_1]; simp))))) rfl ?_
    refine O.nil ?_
    refine C.condF rfl ?_
    refine C.skip ?_
    refine C.seq ?_
    refine C.seq ?_
    refine C.any (f := 5) (ls := [false, false, false, false, false]) (fun w2 => Mem w w2 [] [[⟨.slice (bl b6_2) 1 1, 39, 2, 1, [I ((aT).root), .slice (A16_1) ((L16_1).length) (c16_1)]⟩], [⟨.slice (A16_1) ((L16_1).length) (c16_1), 58, 3, ((L16_1).length), (L16_1).flatMap encPg⟩], (L16_1).flatMap (pgF 3), [⟨.slice (A15_1) ((L15_1).length) (c15_1), 58, 3, ((L15_1).length), (L15_1).flatMap encPg⟩], (L15_1).flatMap (pgF 3), [⟨.slice (bl b0_0) 1 1, 34, 2, 1, [I ((aT).root), .slice ((aT).A) ((aT).l.length) ((aT).cp)]⟩]]) mixed rfl rfl (fun w2 hw2 => Mem0.ext (hM7_2.pick [0, 1, 2, 3, 4, 5] (by decide) rfl) hw2) (fun w10a hE10a => ?_)
    have hM10a : Mem w w10a [] [[⟨.slice (bl b6_2) 1 1, 39, 2, 1, [I ((aT).root), .slice (A16_1) ((L16_1).length) (c16_1)]⟩], [⟨.slice (A16_1) ((L16_1).length) (c16_1), 58, 3, ((L16_1).length), (L16_1).flatMap encPg⟩], (L16_1).flatMap (pgF 3), [⟨.slice (A15_1) ((L15_1).length) (c15_1), 58, 3, ((L15_1).length), (L15_1).flatMap encPg⟩], (L15_1).flatMap (pgF 3), [⟨.slice (bl b0_0) 1 1, 34, 2, 1, [I ((aT).root), .slice ((aT).A) ((aT).l.length) ((aT).cp)]⟩]] := Mem0.ext hM7_2 hE10a
    refine AO.val (v := .agg #[I ((aT).root), .slice (A16_1) ((L16_1).length) (c16_1)]) 0 (ls' := [true, false, false, false, false]) rfl (by kernel_rfl) rfl rfl (fun w2 hw2 => Ru.loadN (vs := [I ((aT).root), .slice (A16_1) ((L16_1).length) (c16_1)]) el39 rfl rfl rfl ((mem_blk (i := 0) (j := 0) hw2 rfl rfl).lds (k := 0) rfl)) rfl ?_
    refine AO.val (v := .agg #[I ((aT).root), .slice ((aT).A) ((aT).l.length) ((aT).cp)]) 1 (ls' := [true, true, false, false, false]) rfl (by kernel_rfl) rfl rfl (fun w2 hw2 => Ru.loadN (vs := [I ((aT).root), .slice ((aT).A) ((aT).l.length) ((aT).cp)]) el34 rfl rfl rfl ((mem_blk (i := 5) (j := 0) hw2 rfl rfl).lds (k := 0) rfl)) rfl ?_
    refine AO.one 2 (by kernel_rfl) ?_
    refine step1 (ls' := [true, true, true, false, false]) rfl rfl ?_
    refine O.callg [.agg #[I ((aT).root), .slice ((aT).A) ((aT).l.length) ((aT).cp)]] rfl en21 rfl rfl (toTree_fn aT w10a (hNaT.at hM10a) (by exact hs)) ?_
    rintro _ w10_2 ⟨L110_2, A110_2, c110_2, rfl, hts10_2, hR10_2⟩
    have hM10_2 : Mem w w10_2 [] [[⟨.slice (A110_2) ((L110_2).length) (c110_2), 58, 3, ((L110_2).length), (L110_2).flatMap encPg⟩], (L110_2).flatMap (pgF 3), [⟨.slice (bl b6_2) 1 1, 39, 2, 1, [I ((aT).root), .slice (A16_1) ((L16_1).length) (c16_1)]⟩], [⟨.slice (A16_1) ((L16_1).length) (c16_1), 58, 3, ((L16_1).length), (L16_1).flatMap encPg⟩], (L16_1).flatMap (pgF 3), [⟨.slice (A15_1) ((L15_1).length) (c15_1), 58, 3, ((L15_1).length), (L15_1).flatMap encPg⟩], (L15_1).flatMap (pgF 3), [⟨.slice (bl b0_0) 1 1, 34, 2, 1, [I ((aT).root), .slice ((aT).A) ((aT).l.length) ((aT).cp)]⟩]] := Mem.call (Ma := []) hM10a hR10_2 rfl
    have hcr10_2_0 := (hM10_2.cap 0 rfl).1
    have hs10_2 : SzT ⟨(aT).root, A110_2, c110_2, L110_2⟩ := sz_copy hs hts10_2
    have ht10_2 : (⟨(aT).root, A110_2, c110_2, L110_2⟩ : TreeL).t = (aT).t := t_copy hts10_2
    refine O.stop (hM10_2.pick [2, 3, 4, 5, 6, 7] (by decide) rfl) ?_
    refine AO.one 3 (by kernel_rfl) ?_
    refine step1 (ls' := [true, true, true, true, false]) rfl rfl ?_
    refine O.callg [.agg #[I ((aT).root), .slice (A16_1) ((L16_1).length) (c16_1)], .agg #[I ((aT).root), .slice (A110_2) ((L110_2).length) (c110_2)]] rfl en23 rfl rfl (eqTree_fn (⟨(aT).root, A16_1, c16_1, L16_1⟩ : TreeL) (⟨(aT).root, A110_2, c110_2, L110_2⟩ : TreeL) w10_2 ⟨(hM10_2.rd 3 rfl), (NsP.mem hM10_2 4 rfl)⟩ ⟨(hM10_2.rd 0 rfl), (NsP.mem hM10_2 1 rfl)⟩ (by exact hs6_1)) ?_
    rintro _ w10_3 ⟨hv10_3, hR10_3⟩
    obtain rfl : _ = .bool (true) := hv10_3.trans (congrArg Value.bool (decide_eq_true (by rw [ht6_1, ht10_2])))
    have hM10_3 : Mem w w10_3 [] [[⟨.slice (A110_2) ((L110_2).length) (c110_2), 58, 3, ((L110_2).length), (L110_2).flatMap encPg⟩], (L110_2).flatMap (pgF 3), [⟨.slice (bl b6_2) 1 1, 39, 2, 1, [I ((aT).root), .slice (A16_1) ((L16_1).length) (c16_1)]⟩], [⟨.slice (A16_1) ((L16_1).length) (c16_1), 58, 3, ((L16_1).length), (L16_1).flatMap encPg⟩], (L16_1).flatMap (pgF 3), [⟨.slice (A15_1) ((L15_1).length) (c15_1), 58, 3, ((L15_1).length), (L15_1).flatMap encPg⟩], (L15_1).flatMap (pgF 3), [⟨.slice (bl b0_0) 1 1, 34, 2, 1, [I ((aT).root), .slice ((aT).A) ((aT).l.length) ((aT).cp)]⟩]] := Mem.call (Ma := []) hM10_2 hR10_3 rfl
    refine O.stop (hM10_3.pick [2, 3, 4, 5, 6, 7] (by decide) rfl) ?_
    refine AO.val (v := .bool (false)) 4 (ls' := [true, true, true, true, true]) rfl (by kernel_rfl) rfl rfl (fun w2 hw2 => Ru.not (b := true) rfl) rfl ?_
    refine AO.nil (by kernel_rfl) ?_
    refine C.condF rfl ?_
    refine C.skip ?_
    refine C.seq ?_
    refine C.region ?_
    refine O.val (v := .bool (true)) rfl (Ru.assign rfl) rfl ?_
    refine O.nil ?_
    refine C.ret ?_
    refine P1 (v := .bool (true)) rfl ?_
    exact ⟨rfl, (Mem.none hM10_3)⟩
end Go.Proofs.YtfdlmimgooeioaaDoor
namespace Go.Proofs.YtfdlmimgooeioaaDoor.fnExactPageText
open Go.ChangeShapes Go.WideShapes Go.ChangeAt Go.RowKit Go.Px
open Go.ChangeMaps (open_string shut_string)
set_option linter.unusedVariables false

theorem own : ownKnob Tryd.prog.godebug = none := by kernel_rfl
theorem laidOut : laidOutB Tryd.prog = true := by kernel_rfl
theorem Lay.tab_laid {W : World} (h : laidMetH Tryd.prog Rows.fnExactPageTextRow.laid W) : TAB W := by
  rw [MakeChecks.laidMetH_plain _ _ _ (by kernel_rfl)] at h
  obtain ⟨ps, ⟨g0, t0, cs0, f0, p0, q0, _, _, _, _, ⟨g1, t1, cs1, f1, p1, q1, _, _, _, _, ⟨g, t, cs, fuel, p, q, hg, ht, hvar, hd, _, _⟩, _⟩, _⟩, _⟩ := h
  have hg' : Tryd.prog.globalNamed tabN = some 0 := by kernel_rfl
  obtain rfl := Option.some.inj (hg'.symm.trans (show Tryd.prog.globalNamed tabN = some g from hg))
  have hty : (Tryd.prog.globals[0]?).map (·.type) = some 159 := by kernel_rfl
  obtain rfl := Option.some.inj (hty.symm.trans ht)
  unfold TAB Lib.TabIs
  rw [show W.var? Tryd.prog tabN = some cs from hvar, ← Lib.cells_of_tab (zs := Lib.pow10Tab) Tryd.underlying159 Tryd.underlying139 (by kernel_rfl) (by kernel_rfl) hd]

theorem door_met (os : Os) (args : Array Value) : laidMetH Tryd.prog Rows.fnExactPageTextRow.laid ((World.doorLaid Tryd.prog 400 os).forCall (fun _ _ => 0) ⟨#[], args, []⟩).memory :=
  laidMetH_of_parts3 (fuel := 8) (laidMet_of_run' 8 (by kernel_rfl) (by kernel_rfl)) (by kernel_rfl) (by kernel_rfl)
set_option maxRecDepth 100000 in
theorem lifted (os : Os) (started : os.Started) (H : Type) (enc : TypeId × Value → H) :
    ReturnsInHanded {} Tryd.checked os 5 .any (fun w args => (Rows.fnExactPageTextSpec.pre enc Tryd.prog Tryd.f5 [] false w args ∧ laidMetH Tryd.prog Rows.fnExactPageTextRow.laid w) ∧ sizedMet enc Tryd.prog Tryd.f5 (OpenSpec.ofChange Rows.fnExactPageTextSpec) false w args) (Rows.fnExactPageTextSpec.post enc Tryd.prog Tryd.f5 false true false false) := by
  refine returnsInHanded_of_change_and (C := Tryd.checked) (X := fun w _ => laidMetH Tryd.prog Rows.fnExactPageTextRow.laid w) (fun _ _ _ hh h => h.of_heap hh) own started (by kernel_rfl) Tryd.func5
    (ChangeSpec.witness_shaped (enc := enc) (C := Tryd.checked) (os := os) (X := fun w _ => laidMetH Tryd.prog Rows.fnExactPageTextRow.laid w) false (World.doorLaid Tryd.prog 400 os) #[.agg #[.int .i64 0, .slice none 0 0], .int .i64 0] 8 rfl (World.shaped_of_RefB (by kernel_rfl) (by kernel_rfl)) (by kernel_rfl) (by kernel_rfl) (by kernel_rfl) (door_met os _)) ?_
  intro W base args ds gs before hval0 hW _ _ hL _
  have hval : ∀ (j : Nat) t v, Tryd.f5.params[j]? = some t → args[j]? = some v → Value.okWide Tryd.prog W .any base t v := hval0
  have hW' := hW
  obtain ⟨p, q, hA0, hV, rfl, hfz, hnd⟩ := hW'
  have hW' := hW
  have hA : DataW.TrodAll enc Tryd.prog W 0 (fun _ => true) true Tryd.f5.params.toList args.toList ds p := hA0
  rw [Tryd.params5] at hA hval
  obtain ⟨v0, vs0, d0, ds0, p0, q0, hargs, rfl, rfl, h0, r0⟩ := trodAll_cons hA
  obtain ⟨v1, vs1, d1, ds1, p1, q1, rfl, rfl, rfl, h1, r1⟩ := trodAll_cons r0
  obtain ⟨rfl, rfl, rfl⟩ := trodAll_nil r1
  obtain rfl : args = #[v0, v1] := by cases args; simp_all
  obtain ⟨rfl, rfl⟩ := trodVars_none hV
  have k0 := h0
  have lt0 : ∀ x ∈ p0, x.block < W.heap.size := by obtain ⟨m, hm⟩ := k0; exact DataW.trod_lt m _ _ _ hm
  obtain ⟨cs0, rfl, hsz0⟩ := okWide_struct Tryd.underlying34 (hval 0 34 v0 rfl rfl)
  have kk0 := k0
  obtain ⟨fuel0, hf0⟩ := kk0
  obtain ⟨T0, hcs0, hr0, hN0, hz0, hw0⟩ := tree_el (by kernel_rfl) (by kernel_rfl) Tryd.underlying32 (by kernel_rfl) (by kernel_rfl) Tryd.underlying51 Tryd.underlying3 (by kernel_rfl) _ _ _ hf0
  obtain rfl : cs0 = #[I T0.root, .slice T0.A T0.l.length T0.cp] := Array.toList_inj.1 hcs0
  have k1 := h1
  have lt1 : ∀ x ∈ p1, x.block < W.heap.size := by obtain ⟨m, hm⟩ := k1; exact DataW.trod_lt m _ _ _ hm
  obtain ⟨a1, rfl, rfl, rfl, w1⟩ := open_int Tryd.underlying3 (hval 1 3 v1 rfl rfl) h1
  have hTab := Lay.tab_laid hL
  clear hA0 hval0
  refine (FnExactPageText_fn T0 a1 W hN0 hz0 hw0 hTab).out.mono fun e W' ⟨v, he, hv, hg⟩ => ?_
  subst he hv
  have bel : Below W.heap.size W W' := ⟨hg.os, hg.tape, hg.output, hg.size, fun k hk => hg.block k hk (by simp)⟩
  exact ⟨_, rfl, _, _, _, [], _, [], hW', trodAll_mk1 (shut_bool Tryd.underlying4 _), (trodAll_cons_mk (Below.trod laidOut (by kernel_rfl) (of_decide_eq_true (by kernel_rfl)) k0 bel lt0) (trodAll_cons_mk (Below.trod laidOut (by kernel_rfl) (of_decide_eq_true (by kernel_rfl)) k1 bel lt1) trodAll_mk0)), rfl, bel.frame _, fun h => by cases h⟩

theorem named_ : Tryd.prog.funcNamed Rows.fnExactPageTextRow.func = some 5 := by kernel_rfl
theorem closed : joinedFacts Tryd.prog 5 Tryd.f5 Rows.fnExactPageTextSpec Rows.fnExactPageTextRow = true := by kernel_rfl
theorem inst_ : Tryd.f5.isInstance Tryd.prog Rows.fnExactPageTextRow.origin Rows.fnExactPageTextRow.targs := of_decide_eq_true (by kernel_rfl)
theorem wrap_ : Tryd.f5.isWrapper Tryd.prog Rows.fnExactPageTextRow.wrapper Rows.fnExactPageTextRow.mainSum := by
  unfold Func.isWrapper
  rw [if_neg (by decide +kernel)]
  exact ⟨rfl, rfl⟩
theorem over : Rows.fnExactPageTextRow.holds Tryd.pinned (OpenSpec.ofChange Rows.fnExactPageTextSpec) :=
  OpenClaim.holds_of_wide 5 Tryd.f5 rfl rfl rfl rfl rfl rfl rfl ⟨rfl, rfl, rfl, rfl, rfl⟩ rfl rfl rfl rfl rfl named_ Tryd.func5 closed inst_ wrap_
    (fun os started H enc _ => lifted os started H enc)
theorem proved : Rows.FnExactPageTextCardSaid :=
  Claim7.holds_tied_plain_at .later [] [.data, .data, .data] true (true, "124a393d7e7933ca6a4c65599ee55d0bdb73d00978c952e65eea3ed228b91ce8") true over (fun _ h => by cases h) (by kernel_rfl) (fun _ h => by cases h) fnExactPageText_row_tie rfl ⟨rfl, rfl⟩ (by kernel_rfl) rfl
    (fun f fn hf hfn => by
      obtain rfl : f = 5 := Option.some.inj (named_.symm.trans hf) |>.symm
      obtain rfl : fn = Tryd.f5 := (Option.some.inj (Tryd.func5.symm.trans hfn)).symm
      exact ⟨by kernel_rfl, fun j t ht => by
        rw [Tryd.params5] at ht
        have hm : t ∈ [34, 3] := by simpa using Array.mem_of_getElem? ht
        have hall : ([34, 3].all fun u => !Tryd.prog.wantsStandIn u) = true := by kernel_rfl
        exact (show Tryd.prog.wantsStandIn t = false by simpa using List.all_eq_true.1 hall t hm)⟩)
    (by kernel_rfl)
end Go.Proofs.YtfdlmimgooeioaaDoor.fnExactPageText
