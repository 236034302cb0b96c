/- Own layer, part 3: plain theorems on the walk of this program's functions and on what they compute; no conditions. -/
import Derived.Test.YtemejgglbhjodaaGreatDoorP1
set_option linter.unusedVariables false
set_option linter.unusedSimpArgs false
section
namespace Go.Px
open Go.RowKit
theorem aMf {T : TrT} (h : aN T = true) {i : Int} (hi : inT T i = true) : i ∈ aS T (bH T) T.root := by
 obtain ⟨h1, h2, h3, h4⟩ := eF h
 have hc := (aEa h3 (λ x hx => aX.1 (vR h2 x hx))).2 h4
 have hi2 := aX.1 hi
 have := hc i.toNat t1
 rwa [show ((i.toNat : Nat) : Int) = i by omega] at this
structure DM (T0 : TrT) (P : List Int) (a : Nat) (s : TrT × List Int) : Prop where
 ok : okM (mC s.1.root (P.getD (a - 1) 0)) s.1 (bH T0) s.1.root 0 100
 nd : (aS s.1 (bH T0) s.1.root ++ s.2).Nodup
 ln : (aS s.1 (bH T0) s.1.root ++ s.2).length = s.1.pages.length
section
variable {T T0 R : TrT} {P : List Int} {a : Nat} {s : TrT × List Int} {key : Int}
theorem aKz {r : List PairT} (h : asc (bG r) = true) (hk : cT r key = true) : (eY r key).Sublist r /\ (eY r key).length + 1 = r.length := by
 obtain ⟨hb, _⟩ := (mE h).1 hk
 unfold eY nW
 rw [if_pos hk, if_pos hk]
 refine ⟨?_, by simp only [aA, aB, aI]; omega⟩
 conv => rhs; rw [<- bT (plc r key) r]
 refine List.Sublist.append (List.Sublist.refl _) ?_
 rw [<- List.drop_drop]
 exact nQ _ _
theorem DM.start (hv : aN T0 = true) (hP : iQ T0 P) (hk : cT (aV (gP T0 (gM P))) key = true) : DM T0 P P.length (fP T0 P key, []) := by
 obtain ⟨h1, h2, h3, h4⟩ := eF hv
 have hpos := hP.pos
 have hin := hP.inn (P.length - 1) t1
 have hlf := hP.leaf
 have hu := aMf hv hin
 have h5 := okB_M h2
 obtain ⟨d, lo, hi, rest, q1, q2, q3, q4, q5⟩ := wS h5 h3 hu
 obtain ⟨d1, hL⟩ := aCo q1 hlf
 obtain rfl : d = 0 := by omega
 have hR : fP T0 P key = cF T0 (gM P) (eA (eY (aV (gP T0 (gM P))) key)) := rfl
 rw [show gM P = P.getD (P.length - 1) 0 from rfl] at hk hR
 have hvk := hL.vk
 have hkk : bG (aV (gP T0 (P.getD (P.length - 1) 0))) = (gP T0 (P.getD (P.length - 1) 0)).keys := iZ
 obtain ⟨s1, s2⟩ := aKz (by rw [hkk]; exact (bQ.1 hvk).2) hk
 rw [eL] at s2
 have hks : (bG (eY (aV (gP T0 (P.getD (P.length - 1) 0))) key)).Sublist (gP T0 (P.getD (P.length - 1) 0)).keys := by rw [<- hkk]; exact s1.map _
 have hva : ∀ p ∈ eY (aV (gP T0 (P.getD (P.length - 1) 0))) key, fA p.val = true := λ p hp => hL.val p (s1.subset hp)
 generalize eY (aV (gP T0 (P.getD (P.length - 1) 0))) key = r at s2 hks hva hR
 have h4k := hL.k4
 have hnr : (aS T0 1 (P.getD (P.length - 1) 0) ++ rest).Nodup := q3.nodup_iff.1 h3
 have hn3 := bP.1 hnr
 have hgu : gP (fP T0 P key) (P.getD (P.length - 1) 0) = eA r := by rw [hR]; exact fH hin
 have hmu : mC T0.root (P.getD (P.length - 1) 0) (P.getD (P.length - 1) 0) <= r.length := by
  have := h4k.2
  unfold mT at this
  unfold mC
  split
  ·omega
  rename_i h9; rw [if_neg h9] at this; rw [if_pos rfl]; omega
 obtain ⟨z1, z2⟩ := q5 (mC T0.root (P.getD (P.length - 1) 0)) (fP T0 P key) (λ x hx => by rw [hR, gT]; exact hx) (λ x hx => by
   have hne : x ≠ P.getD (P.length - 1) 0 := λ e => hn3.2.2 _ (gU q1) x hx e.symm
   have hxi := nF h5 x (q3.mem_iff.2 (eQ _ hx))
   refine ⟨by rw [hR]; exact eB (aX.1 hin).1 (aX.1 hxi.1).1 (λ e => hne e.symm), ?_⟩
   have := hxi.2
   unfold mT at this
   unfold mC
   by_cases h9 : x = T0.root
   ·rw [if_pos h9]; omega
   rw [if_neg h9] at this; rw [if_neg h9, if_neg hne]; exact this)
  (rE (by rw [hR, gT]; exact hin) hgu t1 hmu (nN hvk hks) (λ k hk => hL.rg k (hks.subset hk)) hva)
 rw [mZ (by rw [hgu]; rfl)] at z2
 rw [mZ hlf] at q3
 have hpm := z2.trans q3.symm
 refine ⟨z1, ?_, ?_⟩
 ·rw [cS]; exact hpm.nodup_iff.2 h3
 show (aS (fP T0 P key) (bH T0) T0.root ++ []).length = (fP T0 P key).pages.length
 rw [cS, hpm.length_eq, h4, hR]; simp [cF]
theorem path_lv (hv : aN T0 = true) (hP : iQ T0 P) : ∀ {i j : Nat}, i < j -> j < P.length -> lvT T0 (P.getD j 0) < lvT T0 (P.getD i 0) := by
 have hL := nO hv
 have h1 : ∀ j, j + 1 < P.length -> lvT T0 (P.getD (j + 1) 0) + 1 = lvT T0 (P.getD j 0) := λ j hj => by
  have hk := hP.kid j hj
  exact ((nZ (hL.sh _ (hP.inn j t1)) (λ e => by rw [e] at hk; simp at hk)).2.2.2 _ hk).2
 intro i j hij
 induction j with
 | zero => omega
 | succ j ih =>
  intro hj
  have := h1 j hj
  by_cases h2 : i = j
  ·subst h2; omega
  have := ih t1 t1; omega
theorem DV.onpath (h : DV T0 P a s) (hv : aN T0 = true) (hP : iQ T0 P) {m : Int -> Nat} {lo hi : Int} (hok : okM m s.1 (bH T0) s.1.root lo hi) : ∀ j, j < a -> P.getD j 0 ∈ aS s.1 (bH T0) s.1.root := by
 have ha := h.a1
 intro j
 induction j with
 | zero => intro _; rw [hP.root, <- h.root]; exact gU hok
 | succ j ih =>
  intro hj
  refine aDc hok (ih t1) ?_
  rw [h.up _ (hP.inn j t1) (path_lv hv hP t1 t1)]
  exact hP.kid j t1
theorem aLd {g : List Int} {b : Int} : dR g b = g ++ dR [] b := by unfold dR; split <;> simp
theorem DM.next (h : DM T0 P a s) (hD : DV T0 P a s) (hv : aN T0 = true) (hP : iQ T0 P) (h2 : 2 <= a) {f : Nat} (hfe : f = (dE (gP s.1 (P.getD (a - 2) 0)).kids (P.getD (a - 1) 0) - 1).toNat) (hm : MK T0 P a s.1 f) :
  DM T0 P (a - 1) ((eE s.1 (P.getD (a - 2) 0) f).1, dR s.2 (eE s.1 (P.getD (a - 2) 0) f).2) := by
 have ha := hD.a1
 have hmd := hD.md hm
 have hu := hD.onpath hv hP h.ok (a - 2) t1
 have hnd := bP.1 h.nd
 obtain ⟨d, lo, hi, rest, q1, q2, q3, q4, q5⟩ := wS h.ok hnd.1 hu
 have hnr : (aS s.1 (d + 1) (P.getD (a - 2) 0) ++ rest).Nodup := q3.nodup_iff.1 hnd.1
 have hn3 := bP.1 hnr
 have hck : P.getD (a - 1) 0 ∈ (gP s.1 (P.getD (a - 2) 0)).kids := by
  rw [hm.ku]
  have := hP.kid (a - 2) t1
  rwa [show a - 2 + 1 = a - 1 by omega] at this
 have hcu := aDc q1 (gU q1) hck
 have hkl := hm.kl
 have hc : P.getD (a - 1) 0 = (gP s.1 (P.getD (a - 2) 0)).kids.getD f 0 \/ P.getD (a - 1) 0 = (gP s.1 (P.getD (a - 2) 0)).kids.getD (f + 1) 0 := by
  unfold dE at hfe
  rw [if_pos hck] at hfe
  have hi1 := jT.2 hck
  have hi2 := List.getElem_idxOf hi1
  generalize (gP s.1 (P.getD (a - 2) 0)).kids.idxOf (P.getD (a - 1) 0) = n at hfe hi1 hi2
  by_cases h0 : n = 0
  ·subst h0
   left
   rw [show f = 0 by omega, bF hi1]; exact hi2.symm
  right
  rw [show f + 1 = n by omega, bF hi1]; exact hi2.symm
 have hcne : P.getD (a - 1) 0 ≠ P.getD (a - 2) 0 := by
  rcases hc with hc | hc
  ·rw [hc]; exact λ e => hmd.nua e.symm
  rw [hc]; exact λ e => hmd.nub e.symm
 have hroot : ∀ x ∈ aS s.1 (d + 1) (P.getD (a - 2) 0), x ≠ P.getD (a - 2) 0 -> x ≠ s.1.root := λ x hx h1 e => by
  rcases q4 with q4 | q4
  ·exact h1 (e.trans q4)
  exact hn3.2.2 x hx _ q4 e
 have hokm := nF h.ok
 have hmen := mendM (m' := mC s.1.root (P.getD (a - 2) 0)) q1 hn3.1 hmd (c := P.getD (a - 1) 0) (λ x hx h1 => by
   unfold mC
   rw [if_neg (hroot x hx h1)]
   by_cases h9 : x = P.getD (a - 1) 0
   ·right; exact ⟨h9, if_pos h9⟩
   ·left; exact if_neg h9) hc (λ x hx h1 => by unfold mC; rw [if_neg (hroot x hx h1), if_neg h1]) (by
   unfold mC
   by_cases h9 : P.getD (a - 2) 0 = s.1.root
   ·rw [if_pos h9]; omega
   rw [if_neg h9, if_pos rfl]
   have := (nF q1 _ (gU q1)).2
   unfold mC at this
   rw [if_neg h9, if_neg (λ e => hcne e.symm)] at this
   omega)
 obtain ⟨z1, z2⟩ := q5 (mC s.1.root (P.getD (a - 2) 0)) (eE s.1 (P.getD (a - 2) 0) f).1 (λ x hx => by rw [aX] at hx ⊢; rw [hmen.len]; exact hx) (λ x hx => by
   have hxu : x ∉ aS s.1 (d + 1) (P.getD (a - 2) 0) := λ h9 => hn3.2.2 x h9 x hx rfl
   have hxi := hokm x (q3.mem_iff.2 (eQ _ hx))
   refine ⟨hmen.rest x hxi.1 hxu, ?_⟩
   have := hxi.2
   unfold mC at this ⊢
   have ne1 : x ≠ P.getD (a - 1) 0 := λ e => hxu (by rw [e]; exact hcu)
   have ne2 : x ≠ P.getD (a - 2) 0 := λ e => hxu (by rw [e]; exact gU q1)
   by_cases h9 : x = s.1.root
   ·rw [if_pos h9]; omega
   rw [if_neg h9, if_neg ne1] at this
   rw [if_neg h9, if_neg ne2]; exact this) hmen.ok
 have hpm : (aS (eE s.1 (P.getD (a - 2) 0) f).1 (bH T0) (eE s.1 (P.getD (a - 2) 0) f).1.root ++ dR s.2 (eE s.1 (P.getD (a - 2) 0) f).2).Perm (aS s.1 (bH T0) s.1.root ++ s.2) := by
  rw [hmen.root, aLd]
  refine dJ.2 λ z => ?_
  have e1 := dJ.1 z2 z
  have e2 := dJ.1 q3 z
  have e3 := dJ.1 hmen.sub z
  simp only [jN] at *
  omega
 refine ⟨?_, hpm.nodup_iff.2 h.nd, ?_⟩
 ·show okM (mC (eE s.1 (P.getD (a - 2) 0) f).1.root (P.getD (a - 1 - 1) 0)) (eE s.1 (P.getD (a - 2) 0) f).1 (bH T0) (eE s.1 (P.getD (a - 2) 0) f).1.root 0 100
  rw [hmen.root, show a - 1 - 1 = a - 2 by omega]; exact z1
 rw [hpm.length_eq, h.ln]; exact hmen.len.symm
theorem aFe (hv : aN T0 = true) (hP : iQ T0 P) : ∀ (a : Nat) (s : TrT × List Int), DV T0 P a s -> DM T0 P a s -> ∃ b, DV T0 P b (mK P a s) /\ DM T0 P b (mK P a s) /\ (b = 1 \/ 2 <= (gP (mK P a s).1 (P.getD (b - 1) 0)).keys.length)
 | 0, s, h, _ => absurd h.a1.1 t1
 | a + 1, s, hD, h => by
  by_cases hs : a + 1 = 1 \/ 2 <= (gP s.1 (P.getD (a + 1 - 1) 0)).keys.length
  ·rw [mB t1 hs]; exact ⟨a + 1, hD, h, hs⟩
  have h2 : 2 <= a + 1 := by omega
  have hmk := hD.place hv hP h2
  rw [tW h2 t1]
  exact aFe hv hP a _ (hD.next hv h2 hmk) (h.next hD hv hP h2 rfl hmk)
structure FM (h : Nat) (R : TrT) (g : List Int) : Prop where
 ok : okM (mT R.root) R h R.root 0 100
 k1 : (gP R R.root).kids ≠ [] -> 1 <= (gP R R.root).keys.length
 nd : (aS R h R.root ++ g).Nodup
 ln : (aS R h R.root ++ g).length = R.pages.length
 gi : ∀ x ∈ g, inT R x = true
theorem DM.fin (h : DM T0 P a s) (hD : DV T0 P a s) (hP : iQ T0 P) (hs : a = 1 \/ 2 <= (gP s.1 (P.getD (a - 1) 0)).keys.length) : ∃ n, n <= bH T0 /\ FM n (kZ s).1 (kZ s).2 := by
 have hokm := nF h.ok
 have hmt : ∀ x ∈ aS s.1 (bH T0) s.1.root, gP s.1 x = gP s.1 x /\ mT s.1.root x <= (gP s.1 x).keys.length := λ x hx => by
  refine ⟨rfl, ?_⟩
  have := (hokm x hx).2
  unfold mC at this
  unfold mT
  split
  ·omega
  rename_i h9
  rw [if_neg h9] at this
  by_cases h8 : x = P.getD (a - 1) 0
  ·rcases hs with hs | hs
   ·subst hs
    rw [show (1 : Nat) - 1 = 0 from rfl, hP.root, <- hD.root] at h8
    exact absurd h8 h9
   rw [h8]; exact hs
  rw [if_neg h8] at this; exact this
 obtain ⟨h5, _⟩ := sJ (m' := mT s.1.root) h.ok (λ x hx => hx) hmt
 have hgi : ∀ x ∈ s.2, inT s.1 x = true := λ x hx => aX.2 (by rw [hD.len]; exact aX.1 (hD.gin x hx).1)
 by_cases hk : (gP s.1 s.1.root).kids.length = 1
 ·rw [zA hk]
  obtain ⟨e, he⟩ := pK h5
  have hnd := h.nd
  have hln := h.ln
  rw [he] at h5 hnd hln
  have hM := rD h5 (λ e9 => by rw [e9] at hk; simp at hk)
  have hnd1 := (bP.1 hnd).1
  obtain ⟨n1, n2, n3⟩ := hM.mem_nd hnd1
  have h0 : 0 < (gP s.1 s.1.root).kids.length := by omega
  have hkl := hM.kl
  have hk0 := hM.kd 0 h0
  rw [gH rfl, gZ t1] at hk0
  have hkids : (gP s.1 s.1.root).kids = [(gP s.1 s.1.root).kids[0]] := by
   apply iU
   ·simpa using hk
   intro i h1 h2; simp at h2; subst h2; rfl
  rw [bF h0]
  have hfl : (gP s.1 s.1.root).kids.flatMap (aS s.1 e) = aS s.1 e (gP s.1 s.1.root).kids[0] := by
   conv => lhs; rw [hkids]
   simp
  generalize (gP s.1 s.1.root).kids[0] = r0 at hk0 hfl
  rw [hfl] at n1 n2
  have hr0 : r0 ≠ s.1.root := λ e9 => n1 (e9 ▸ gU hk0)
  have hsub : aS s.1 (e + 1) s.1.root = s.1.root :: aS s.1 e r0 := by simp only [aS]; rw [hfl]
  rw [hsub] at hnd hln
  have hmt2 : ∀ x ∈ aS s.1 e r0, 2 <= (gP s.1 x).keys.length := λ x hx => by
   have := (nF hk0 x hx).2
   unfold mT at this
   have ne1 : x ≠ s.1.root := λ e9 => n1 (by rw [<- e9]; exact hx)
   rwa [if_neg ne1] at this
  obtain ⟨w1, w2⟩ := sJ (m' := mT r0) (R' := ⟨r0, s.1.pages⟩) hk0 (λ x hx => hx) (λ x hx => ⟨rfl, by have := hmt2 x hx; unfold mT; split <;> omega⟩)
  have hpm : (aS (⟨r0, s.1.pages⟩ : TrT) e r0 ++ (s.2 ++ [s.1.root])).Perm (s.1.root :: aS s.1 e r0 ++ s.2) := by
   rw [w2]
   refine dJ.2 λ z => ?_
   simp only [jN, mQ, List.count_nil]
   omega
  refine ⟨e, t1, w1, λ _ => ?_, hpm.nodup_iff.2 hnd, ?_, λ x hx => ?_⟩
  ·have := hmt2 r0 (gU hk0)
   show 1 <= (gP s.1 r0).keys.length
   omega
  ·rw [hpm.length_eq]; exact hln
  rcases bE.1 hx with hx | hx
  ·exact hgi x hx
  rw [aU] at hx; rw [hx]; exact hM.inn
 rw [wU hk]
 refine ⟨_, dD _, h5, λ h9 => ?_, h.nd, h.ln, hgi⟩
 obtain ⟨e, he⟩ := pK h5
 rw [he] at h5
 have hM := rD h5 h9
 have := hM.kl
 omega
theorem FM.cut {h : Nat} {g0 : Int} {l : List Int} (hF : FM h R (g0 :: l)) : FM h (lV R g0) (l.map (shI g0)) := by
 have hg := hF.gi g0 t11
 have hn := bP.1 hF.nd
 have hn2 := cK.1 hn.2.1
 have hne : ∀ x ∈ aS R h R.root ++ l, x ≠ g0 := λ x hx e => by
  rcases bE.1 hx with hx | hx
  ·exact hn.2.2 x hx g0 t11 e
  exact hn2.1 (e ▸ hx)
 have hin : ∀ x, x ≠ g0 -> inT R x = true -> inT (lV R g0) (shI g0 x) = true := λ x hx hi => by
  refine (uY hg).2 ⟨?_, by rw [vZ hx]; exact hi⟩
  have h1 := aX.1 hi
  have h2 := aX.1 hg
  unfold shI
  split <;> omega
 have hrt : R.root ≠ g0 := hne _ (dZ _ (gU hF.ok))
 have hgp : ∀ x, x ≠ g0 -> inT R x = true -> gP (lV R g0) (shI g0 x) = rT (shI g0) (gP R x) := λ x hx hi => by
  rw [aBt hg (hin x hx hi), vZ hx]; rfl
 obtain ⟨w1, w2⟩ := aCp (f := shI g0) (U := lV R g0) (m' := mT (shI g0 R.root)) hF.ok (λ x hx => by
  obtain ⟨h1, h2⟩ := nF hF.ok x hx
  have h3 := hne x (dZ _ hx)
  refine ⟨hin x h3 h1, hgp x h3 h1, ?_⟩
  unfold mT at h2 ⊢
  split
  ·omega
  rename_i h9
  rwa [if_neg (λ e => h9 (by rw [e]))] at h2)
 have hcr : (lV R g0).root = shI g0 R.root := rfl
 have hri := (nF hF.ok _ (gU hF.ok)).1
 refine ⟨w1, ?_, ?_, ?_, λ x hx => ?_⟩
 ·rw [hcr, hgp _ hrt hri]
  intro h9
  exact hF.k1 (λ e => h9 (by simp [rT, e]))
 ·rw [hcr, w2, <- dW]
  have hnd2 : (aS R h R.root ++ l).Nodup := bP.2 ⟨hn.1, hn2.2, λ x hx y hy => hn.2.2 x hx y (bJ _ hy)⟩
  refine List.pairwise_map.2 (hnd2.imp_of_mem λ ha hb hab e => hab (aDa (hne _ ha) (hne _ hb) e))
 ·rw [hcr, w2]
  have := hF.ln
  have h3 := pD hg
  simp only [aA, bC, aG] at this ⊢
  omega
 obtain ⟨y, hy, rfl⟩ := bU.1 hx
 exact hin y (hne y (eQ _ hy)) (hF.gi y (bJ _ hy))
theorem FM.all : ∀ {n h : Nat} {R : TrT} {g : List Int}, FM h R g -> g.length <= n -> FM h (pX n R g) [] /\ (pX n R g).pages.length <= R.pages.length
 | 0, h, R, [], hF, _ => by rw [pY]; exact ⟨hF, dD _⟩
 | 0, h, R, g0 :: l, _, hn => by simp at hn
 | n + 1, h, R, [], hF, _ => by rw [pY]; exact ⟨hF, dD _⟩
 | n + 1, h, R, g0 :: l, hF, hn => by
  rw [pX]
  have h1 := pD (hF.gi g0 t11)
  obtain ⟨h2, h3⟩ := FM.all (n := n) hF.cut (by simpa using hn)
  exact ⟨h2, t1⟩
theorem FM.valid {h : Nat} (hF : FM h R []) (h3 : h <= 3) (hl : R.pages.length <= 16) : aN R = true := by
 have hn := hF.nd
 have hln := hF.ln
 rw [cS] at hn hln
 obtain ⟨e, rfl⟩ := pK hF.ok
 have ho : 0 < (aS R (e + 1) R.root).length := by simp [aS]
 exact lJ.2 ⟨⟨t1, hl⟩, e + 1, ⟨t1, h3⟩, okM_B hF.ok hn (.inl rfl) (λ _ => hF.k1), hn, hln⟩
theorem pF (hv : aN T = true) (hk : cT (aV (gP T (gM (aY T key)))) key = true) : aN (lH T key) = true := by
 have hP := kK (key := key) hv
 have h1 := (eF hv).1
 have hl := (fN hv).2
 obtain ⟨b, hD, hM, hs⟩ := aFe hv hP (aY T key).length (fP T (aY T key) key, []) (DV.start hv hP) (DM.start hv hP hk)
 obtain ⟨n, hn, hF⟩ := hM.fin hD hP hs
 obtain ⟨_, _, f3, f4⟩ := hD.fin hv hP
 have hle := hP.le
 obtain ⟨c1, c2⟩ := FM.all (n := 4) hF t1
 exact c1.valid t1 (by show (pX 4 _ _).pages.length <= 16; omega)
theorem yF : ∀ {d : Nat} {i lo hi : Int}, okB T d i lo hi = true -> lo <= hi -> ∀ x ∈ aS T d i, (gP T x).kids = [] -> ∀ k ∈ (gP T x).keys, lo <= k /\ k < hi
 | 0, _, _, _, h, _, _, _, _, _, _ => by simp [okB] at h
 | d + 1, i, lo, hi, h, hlh, x, hx, hx0, k, hk => by
  obtain ⟨h1, h2, h3, h4⟩ := dL.1 h
  have h5 := lF.1 h3
  simp only [aS] at hx
  rcases bV.1 hx with rfl | hx
  ·exact h5 k hk
  obtain ⟨y, hy, hx⟩ := aZ.1 hx
  obtain ⟨j, hj, rfl⟩ := aJ hy
  have hok := iC h hj
  have hne : (gP T i).kids ≠ [] := λ e => by rw [e] at hj; simp at hj
  have hkl := (lQ h2 hne).2
  have hasc := (bQ.1 (kI h2)).2
  have hb : lo <= dQ (gP T i) lo j /\ cH (gP T i) hi j <= hi /\ dQ (gP T i) lo j <= cH (gP T i) hi j := by
   have hlow : (j = 0 /\ dQ (gP T i) lo j = lo) \/ ∃ h9 : j - 1 < (gP T i).keys.length, j ≠ 0 /\ dQ (gP T i) lo j = (gP T i).keys[j - 1] := by
    by_cases h9 : j = 0
    ·exact .inl ⟨h9, gH h9⟩
    exact .inr ⟨t1, h9, gB h9 t1⟩
   have hhigh : (cH (gP T i) hi j = hi /\ ¬ j < (gP T i).keys.length) \/ ∃ h9 : j < (gP T i).keys.length, cH (gP T i) hi j = (gP T i).keys[j] := by
    by_cases h9 : j < (gP T i).keys.length
    ·exact .inr ⟨h9, fU h9⟩
    exact .inl ⟨gZ h9, h9⟩
   rcases hlow with ⟨a1, a2⟩ | ⟨a0, a1, a2⟩ <;> rcases hhigh with ⟨b1, b2⟩ | ⟨b0, b1⟩
   ·omega
   ·have := h5 _ (aC b0); omega
   ·have := h5 _ (aC a0); omega
   have q1 := h5 _ (aC b0)
   have q2 := h5 _ (aC a0)
   have := iG hasc (j - 1) j t1 b0
   omega
  have := yF hok hb.2.2 x hx hx0 k hk
  omega
theorem upTo_is {l : List Int} {key : Int} {j : Nat} (h : asc l = true) (hj : j <= l.length) (h1 : ∀ h0 : j ≠ 0, l[j - 1]'t1 <= key) (h2 : ∀ h0 : j < l.length, key < l[j]) : gW l key = j := by
 have hu := rK l key
 rcases Nat.lt_trichotomy (gW l key) j with h3 | h3 | h3
 ·have a1 := vS (l := l) (k := key) t1
  have a2 := h1 t1
  by_cases h4 : gW l key = j - 1
  ·rw [List.getElem_of_eq rfl] at a1
   have : l[gW l key]'t1 = l[j - 1]'t1 := by congr 1
   omega
  have := iG h (gW l key) (j - 1) t1 t1; omega
 ·exact h3
 have a1 := aDi (l := l) (k := key) h3
 have a2 := h2 t1
 omega
theorem aEx (key : Int) : ∀ {d : Nat} {i lo hi : Int}, okB T d i lo hi = true -> lo <= hi -> (key ∈ bG (cU T (dA T d i)) ↔ key ∈ (gP T (gM (iY T key d i))).keys) /\ 1 <= (iY T key d i).length
 | 0, _, _, _, h, _ => by simp [okB] at h
 | d + 1, i, lo, hi, h, hlh => by
  obtain ⟨h1, h2, h3, h4⟩ := dL.1 h
  by_cases hk : (gP T i).kids = []
  ·rw [nI hk, pJ hk]
   refine ⟨?_, t11⟩
   have : cU T [i] = aV (gP T i) := by simp [cU]
   rw [this, iZ]; rfl
  have h5 := lF.1 h3
  have hkl := (lQ h2 hk).2
  have hasc := (bQ.1 (kI h2)).2
  have hlt := nL (key := key) h hk
  rw [qM h hk, sI hk]
  have hrange : ∀ j, (hj : j < (gP T i).kids.length) -> dQ (gP T i) lo j <= cH (gP T i) hi j := λ j hj => by
   by_cases h9 : j = 0 <;> by_cases h8 : j < (gP T i).keys.length
   ·rw [gH h9, fU h8]; exact (h5 _ (aC h8)).1
   ·rw [gH h9, gZ h8]; exact hlh
   ·rw [gB h9 t1, fU h8]; have := iG hasc (j - 1) j t1 h8; omega
   rw [gB h9 t1, gZ h8]; have := h5 _ (aC (show j - 1 < (gP T i).keys.length by omega)); omega
  obtain ⟨ih1, ih2⟩ := aEx key (iC h hlt) (hrange _ hlt)
  have hlast : gM (i :: iY T key d ((gP T i).kids[gW (gP T i).keys key])) = gM (iY T key d ((gP T i).kids[gW (gP T i).keys key])) := by
   unfold gM
   rw [aG, eU]
   cases hl : (iY T key d ((gP T i).kids[gW (gP T i).keys key])).length with
   | zero => omega
   | succ n => rw [mH, eU]
  rw [hlast, <- ih1]
  refine ⟨?_, t11⟩
  have hone : ∀ j, (hj : j < (gP T i).kids.length) -> key ∈ bG (cU T (dA T d (gP T i).kids[j])) -> gW (gP T i).keys key = j := λ j hj hm => by
   obtain ⟨p, hp, rfl⟩ := bU.1 hm
   obtain ⟨x, hx, hp⟩ := aZ.1 hp
   obtain ⟨hxs, hxl⟩ := eX.1 hx
   have hx0 : (gP T x).kids = [] := of_decide_eq_true hxl
   have hpk : p.key ∈ (gP T x).keys := by rw [<- iZ]; exact bU.2 ⟨p, hp, rfl⟩
   have hb := yF (iC h hj) (hrange j hj) x hxs hx0 _ hpk
   refine upTo_is hasc t1 (λ h0 => ?_) (λ h0 => ?_)
   ·rw [gB h0 t1] at hb; exact hb.1
   rw [fU h0] at hb; exact hb.2
  constructor
  ·intro hm
   obtain ⟨p, hp, hpk⟩ := bU.1 hm
   obtain ⟨x, hx, hp⟩ := aZ.1 hp
   obtain ⟨y, hy, hx⟩ := aZ.1 hx
   obtain ⟨j, hj, rfl⟩ := aJ hy
   have hm2 : key ∈ bG (cU T (dA T d (gP T i).kids[j])) := bU.2 ⟨p, aZ.2 ⟨x, hx, hp⟩, hpk⟩
   have hu := hone j hj hm2
   have e : (gP T i).kids[gW (gP T i).keys key] = (gP T i).kids[j] := by congr 1
   rw [e]; exact hm2
  intro hm
  obtain ⟨p, hp, hpk⟩ := bU.1 hm
  obtain ⟨x, hx, hp⟩ := aZ.1 hp
  exact bU.2 ⟨p, aZ.2 ⟨x, aZ.2 ⟨_, aC hlt, hx⟩, hp⟩, hpk⟩
theorem qF (hv : aN T = true) : cT (bZ T) key = cT (aV (gP T (gM (aY T key)))) key := by
 obtain ⟨h1, h2, _, _⟩ := eF hv
 have h3 := (aEx key h2 t1).1
 unfold cT
 rw [iZ]
 refine decide_eq_decide.2 ?_
 unfold bZ
 rw [<- tU hv]
 exact h3
end
end Go.Px
end
section
namespace Go.Px
open Go.RowKit
section
variable {w0 w : World} {R : List (Option Nat)} {M : List (List FE)} {L : List PgL} {e e2 : TypeId} {A : Option Addr} {r : Int} {c n m : Nat}
theorem Mem.gownT (h : Mem w0 w R M) (i : Nat) {G : List FE} (hi : M[i]? = some G) : ∀ f ∈ G, f.own w := λ f hf => h.own f (dM.2 ⟨G, cE hi, hf⟩)
theorem Mem.ngP (h : Mem w0 w R M) (i j : Nat) (hij : i ≠ j) (hi : M[i]? = some (L.flatMap (pgF e))) {gr n' c' m' sz' : Nat} {e3 : TypeId} {xs' : List Value} {g' : List FE} (hj : M[j]? = some (⟨.slice (bl gr) n' c', e3, sz', m', xs'⟩ :: g')) {k : Nat} (hk : k < L.length) (s : SlL) (hs : slF e s ∈ pgF e L[k]) : Ng s.A gr := by
 intro a ha hb
 have hg := grp_get (jB.1 h.apart).2 hi hj hij _ (aZ.2 ⟨_, aC hk, hs⟩) _ (dG)
 exact hg a.block (by show (Value.slice s.A _ _).ownBlock = _; rw [ha]; rfl) (by rw [hb]; rfl)
theorem TrN.ofown (h : ∀ f ∈ ([⟨.slice A n c, e2, 3, m, L.flatMap encPg⟩] ++ L.flatMap (pgF e) : List FE), f.own w) : TrN w ⟨r, A, c, L⟩ := by
 refine ⟨pM (show (⟨.slice A n c, e2, 3, m, L.flatMap encPg⟩ : FE).own w from h _ t11), λ x hx => ?_⟩
 have hm : ∀ y ∈ pgF e x, y.own w := λ y hy => h _ (eQ _ (aZ.2 ⟨x, hx, hy⟩))
 exact ⟨pM (hm (slF e x.k) (by simp [pgF])), pM (hm (slF e x.c) (by simp [pgF])), pM (hm (slF e x.v) (by simp [pgF]))⟩
end
end Go.Px
end
section
namespace Go.Px
open Go.RowKit
def eG (T : TrT) : List Int := if aN T then dN T else []
def gC (T : TrT) : List PairT := cU T (eG T)
theorem jY {T : TrT} (h : aN T = true) : gC T = bZ T := by unfold gC eG; rw [h]; rfl
theorem aFa {T : TrT} (h : aN T = true) : eG T = dN T := by unfold eG; rw [h]; rfl
end Go.Px
end
section
namespace Go.Px
open Go.RowKit
inductive At where
 | i (a : Int)
 | n (k : IntKind) (a : Int)
 | b (x : Bool)
 | d (p : Prop) (h : Decidable p)
 | s (l : Str)
 | sl (A : Option Addr) (n c : Nat)
 | p (A : Option Addr) (k : Nat)
 | r (v : Value)
def At.val : At -> Value
 | .i a => I a
 | .n k a => .int k a
 | .b x => .bool x
 | .d q h => .bool (@decide q h)
 | .s l => S l
 | .sl A m c => .slice A m c
 | .p A k => .pointer (ofs A k)
 | .r v => v
inductive EV where
 | x (a : At)
 | g (l : List At)
def EV.val : EV -> Value
 | .x a => a.val
 | .g l => .agg (l.map At.val).toArray
inductive SV where
 | e (v : EV)
 | t (l : List EV)
def SV.val : SV -> Value
 | .e v => v.val
 | .t l => .tuple (l.map EV.val).toArray
abbrev sx (a : At) : SV := .e (.x a)
def liftP : Option Addr -> At
 | some ⟨b, o, none⟩ => .p (bl b) o
 | A => .r (.pointer A)
def yJ : Value -> At
 | .int .i64 a => .i a
 | .int k a => .n k a
 | .bool x => .b x
 | .string ⟨⟨l⟩⟩ => .s l
 | .slice A n c => .sl A n c
 | .pointer A => liftP A
 | v => .r v
def aFc : Value -> EV
 | .agg cs => .g (cs.toList.map yJ)
 | v => .x (yJ v)
def qJ : Value -> SV
 | .tuple cs => .t (cs.toList.map aFc)
 | v => .e (aFc v)
theorem aLp (A : Option Addr) : (liftP A).val = .pointer A := by
 unfold liftP
 split
 ·simp [At.val, ofs, jF]
 rfl
theorem qY (v : Value) : (yJ v).val = v := by
 unfold yJ
 split <;> first | rfl | exact aLp _
theorem aAs (v : Value) : (aFc v).val = v := by
 unfold aFc
 split
 ·rename_i cs
  have : (At.val ∘ yJ) = id := by funext v; exact qY v
  simp [EV.val, this]
 exact qY _
theorem oY (v : Value) : (qJ v).val = v := by
 unfold qJ
 split
 ·rename_i cs
  have : (EV.val ∘ aFc) = id := by funext v; exact aAs v
  simp [SV.val, this]
 exact aAs _
abbrev Fm := Nat -> SV
def Sg (τ : Fm) : Sig := λ t => (τ t).val
def up (τ : Fm) (d : Nat) (s : SV) : Fm := λ t => bif Nat.beq t d then s else τ t
def lf (σ : Sig) : Fm := λ t => qJ (σ t)
def upl : Fm -> List (Nat × SV) -> Fm
 | τ, [] => τ
 | τ, p :: l => up (upl τ l) p.1 p.2
theorem lG (σ : Sig) : Sg (lf σ) = σ := by funext t; exact oY _
theorem mR (τ : Fm) (d : Nat) (s : SV) : Sg (up τ d s) = upd (Sg τ) d s.val := by
 funext t
 unfold Sg up upd
 cases Nat.beq t d <;> rfl
theorem aDj (τ : Fm) (d : Nat) (v : Value) : upd (Sg τ) d v = Sg (up τ d (qJ v)) := by rw [mR, oY]
theorem upd_SgP (τ : Fm) (d : Nat) (A : Option Addr) (k : Nat) : upd (Sg τ) d (.pointer (ofs A k)) = Sg (up τ d (sx (.p A k))) := by rw [mR]; rfl
def vals (l : List (Nat × SV)) : List (Nat × Value) := l.map λ p => (p.1, p.2.val)
theorem gQ (τ : Fm) : ∀ l : List (Nat × SV), Sg (upl τ l) = ups (Sg τ) (vals l)
 | [] => rfl
 | p :: l => by
  show Sg (up (upl τ l) p.1 p.2) = upd (ups (Sg τ) (vals l)) p.1 p.2.val
  rw [mR, gQ τ l]
def sev (τ : Fm) : Operand -> SV
 | .tmp t => τ t
 | .const v => qJ v
 | .global g => sx (.r (.pointer (some ⟨g, 0, none⟩)))
 | .func f => sx (.r (.func (.func f) #[] #[]))
theorem gV {τ : Fm} (x : Operand) : ev (Sg τ) x = (sev τ x).val := by
 cases x with
 | tmp t => rfl
 | const v => exact (oY v).symm
 | global g => rfl
 | func f => rfl
structure TyI where
 fl : List (Nat × Nat)
 el : Option (Nat × Bool)
 sl : Bool
 st : Bool
 zs : Option (List At)
def asc1 : List (Nat × Nat) -> Nat -> Option Nat
 | [], _ => none
 | p :: l, k => bif Nat.beq p.1 k then some p.2 else asc1 l k
structure pV (P : Program) (T : Nat -> TyI) : Prop where
 fl : ∀ t f off, asc1 (T t).fl f = some off -> FlT P t f off
 el : ∀ t n a, (T t).el = some (n, a) -> ∃ zs bytes, ElT P t zs bytes a /\ zs.length = n
 sl : ∀ t, (T t).sl = true -> ∃ e, P.underlying t = some (.slice e)
 st : ∀ t, (T t).st = true -> P.underlying t = some .string
 zs : ∀ t l, (T t).zs = some l -> oD P t (l.map At.val)
def cmpI : BinOp -> Int -> Int -> Option At
 | .lss, a, b => some (.d (a < b) inferInstance)
 | .leq, a, b => some (.d (a <= b) inferInstance)
 | .gtr, a, b => some (.d (a > b) inferInstance)
 | .geq, a, b => some (.d (a >= b) inferInstance)
 | .eql, a, b => some (.d (a = b) inferInstance)
 | .neq, a, b => some (.d (a ≠ b) inferInstance)
 | _, _, _ => none
def cmpS : BinOp -> Str -> Str -> Option At
 | .eql, a, b => some (.d (a = b) inferInstance)
 | .neq, a, b => some (.d (a ≠ b) inferInstance)
 | _, _, _ => none
def eBin (o : BinOp) : SV -> SV -> Option At
 | .e (.x (.i a)), .e (.x (.i b)) => cmpI o a b
 | .e (.x (.n k a)), .e (.x (.n k' b)) => if k = k' then cmpI o a b else none
 | .e (.x (.s a)), .e (.x (.s b)) => cmpS o a b
 | _, _ => none
def eNot : SV -> Option At
 | .e (.x (.b x)) => some (.b (!x))
 | .e (.x (.d p h)) => some (.d (¬ p) inferInstance)
 | _ => none
def eFld (T : Nat -> TyI) (t f : Nat) : SV -> Option At
 | .e (.x (.p (some a) k)) => match asc1 (T t).fl f with
  | some off => some (.p (some a) (k + off))
  | none => none
 | _ => none
def eNil : SV -> Option At
 | .e (.x (.p (some a) k)) => some (.p (some a) k)
 | _ => none
def eLen (T : Nat -> TyI) (t : Nat) : SV -> Option At
 | .e (.x (.sl _ n _)) => bif (T t).sl then some (.i n) else none
 | .e (.x (.s l)) => bif (T t).st then some (.i l.length) else none
 | _ => none
def eExt : SV -> Nat -> Option SV
 | .t l, k => match l[k]? with
  | some v => some (.e v)
  | none => none
 | _, _ => none
def ldN : List Value -> Nat -> Option (List At)
 | _, 0 => some []
 | [], _ + 1 => none
 | v :: l, z + 1 => match ldN l z with
  | some r => some (yJ v :: r)
  | none => none
def eLd (T : Nat -> TyI) (M : List (List FE)) (t : Nat) : SV -> Nat -> Option (SV × Option Addr × Option Addr)
 | .e (.x (.p A k)), i => match M[i]? with
  | some (⟨.slice A' n c, _, _, m, xs⟩ :: _) => match (T t).el with
   | some (_, false) => match xs[k]? with
    | some v => some (sx (yJ v), A, A')
    | none => none
   | some (z, true) => match A' with
    | some ⟨b, 0, none⟩ => bif Nat.beq n m && Nat.beq c m then match ldN (xs.drop k) z with
      | some l => some (.e (.g l), A, some ⟨b, 0, none⟩)
      | none => none
     else none
    | _ => none
   | none => none
  | _ => none
 | _, _ => none
def one1 : At -> Bool
 | .r v => one v
 | _ => true
def eBld (τ : Fm) : List At -> List (Nat × Operand) -> Option (List At)
 | zs, [] => some zs
 | zs, p :: l => match sev τ p.2 with
  | .e (.x a) => bif Nat.blt p.1 zs.length && one1 a then eBld τ (zs.set p.1 a) l else none
  | _ => none
abbrev Obs := List (Option Addr × Option Addr)
def opv (T : Nat -> TyI) (M : List (List FE)) (τ : Fm) (is : List Nat) : Op -> Option (SV × List Nat × Obs)
 | .move x => some (sev τ x, is, [])
 | .assign x => some (sev τ x, is, [])
 | .pick c a b => match sev τ c with
  | .e (.x (.b true)) => some (sev τ a, is, [])
  | .e (.x (.b false)) => some (sev τ b, is, [])
  | _ => none
 | .binOp o _ x y _ => match eBin o (sev τ x) (sev τ y) with
  | some a => some (sx a, is, [])
  | none => none
 | .unOp o _ x => match o with
  | .not => match eNot (sev τ x) with
   | some a => some (sx a, is, [])
   | none => none
  | _ => none
 | .fieldAddr t x f => match eFld T t f (sev τ x) with
  | some a => some (sx a, is, [])
  | none => none
 | .nilCheck x => match eNil (sev τ x) with
  | some a => some (sx a, is, [])
  | none => none
 | .load t x => match is with
  | i :: is' => match eLd T M t (sev τ x) i with
   | some (s, A, A') => some (s, is', [(A, A')])
   | none => none
  | [] => none
 | .extract x k => match eExt (sev τ x) k with
  | some s => some (s, is, [])
  | none => none
 | .build t parts => match (T t).zs with
  | some zs => match eBld τ zs parts.toList with
   | some l => some (.e (.g l), is, [])
   | none => none
  | none => none
 | .call c => match c with
  | ⟨.builtin .len, args, ts⟩ => match args.toList, ts.toList with
   | [x], [t] => match eLen T t (sev τ x) with
    | some a => some (sx a, is, [])
    | none => none
   | _, _ => none
  | _ => none
 | _ => none
def EqA : Obs -> Prop
 | [] => True
 | p :: l => p.1 = p.2 /\ EqA l
theorem EqA.append {l l' : Obs} : EqA (l ++ l') ↔ EqA l /\ EqA l' := by
 induction l with
 | nil => simp [EqA]
 | cons p l ih => simp [EqA, ih, and_assoc]
section
variable {P : Program} {T : Nat -> TyI} {τ : Fm} {w0 w : World} {R : List (Option Nat)} {M : List (List FE)}
variable {dst : Option Tmp} {T' : TypeId} {pos : String} {after : Array Edge} {g : Option (Nat × Bool)}
theorem aIx {o : BinOp} {k : IntKind} {a b : Int} {v : At} {x y : Operand} {t u : TypeId} (hx : ev (Sg τ) x = .int k a) (hy : ev (Sg τ) y = .int k b) (h : cmpI o a b = some v) : Ru P (Sg τ) ⟨dst, .binOp o t x y u, T', pos, after, g⟩ w v.val := by
 cases o <;> simp only [cmpI, Option.some.injEq] at h <;> first
  | (cases h; done)
  | (subst h; first | exact Ru.lss hx hy | exact Ru.leq hx hy | exact Ru.gtr hx hy | exact Ru.geq hx hy | exact Ru.eql hx hy | exact Ru.neq hx hy)
theorem eBin_ok {o : BinOp} {v : At} {x y : Operand} {t u : TypeId} (h : eBin o (sev τ x) (sev τ y) = some v) : Ru P (Sg τ) ⟨dst, .binOp o t x y u, T', pos, after, g⟩ w v.val := by
 have hx := gV (τ := τ) x
 have hy := gV (τ := τ) y
 unfold eBin at h
 split at h
 ·rename_i h1 h2
  rw [h1] at hx; rw [h2] at hy
  exact aIx hx hy h
 ·rename_i h1 h2
  rw [h1] at hx; rw [h2] at hy
  split at h
  ·rename_i he; subst he; exact aIx hx hy h
  cases h
 ·rename_i h1 h2
  rw [h1] at hx; rw [h2] at hy
  cases o <;> simp only [cmpS, Option.some.injEq] at h <;> first
   | (cases h; done)
   | (subst h; first | exact Ru.seql hx hy | exact Ru.sneq hx hy)
 cases h
theorem aHp : ∀ {xs : List Value} {z : Nat} {l : List At}, ldN xs z = some l -> l.map At.val = xs.take z /\ l.length = z
 | xs, 0, l, h => by simp [ldN] at h; subst h; simp
 | [], z + 1, l, h => by simp [ldN] at h
 | v :: xs, z + 1, l, h => by
  unfold ldN at h
  split at h
  ·rename_i r hr
   cases h
   obtain ⟨h1, h2⟩ := aHp hr
   simp [h1, h2, qY]
  cases h
theorem eLd_ok {t : Nat} {x : Operand} {i : Nat} {s : SV} {A A' : Option Addr} (hT : pV P T) (hM : Mem w0 w R M) (h : eLd T M t (sev τ x) i = some (s, A, A')) (he : A = A') : Ru P (Sg τ) ⟨dst, .load t x, T', pos, after, g⟩ w s.val := by
 have hx := gV (τ := τ) x
 unfold eLd at h
 split at h
 ·rename_i A0 k h1
  rw [h1] at hx
  have hx : ev (Sg τ) x = .pointer (ofs A0 k) := hx
  split at h
  ·rename_i A1 n c e sz m xs gs hi
   split at h
   ·rename_i z hel
    obtain ⟨zs, bytes, hE, _⟩ := hT.el _ _ _ hel
    split at h
    ·rename_i v hv
     simp only [Option.some.injEq, Prod.mk.injEq] at h
     obtain ⟨rfl, rfl, rfl⟩ := h
     subst he
     have := Ru.load1 (dst := dst) (T' := T') (pos := pos) (after := after) (g := g) hE hx ((hM.rd _ hi).ld hv)
     simpa [SV.val, EV.val, qY] using this
    cases h
   ·rename_i z hel
    obtain ⟨zs, bytes, hE, hz⟩ := hT.el _ _ _ hel
    split at h
    ·rename_i b
     cases hc : (Nat.beq n m && Nat.beq c m) with
     | false => simp [hc] at h
     | true =>
      rw [hc] at h
      simp only [cond_true] at h
      simp only [aW] at hc
      have hn := jE hc.1
      have hcc := jE hc.2
      subst hn hcc
      split at h
      ·rename_i l hl
       simp only [Option.some.injEq, Prod.mk.injEq] at h
       obtain ⟨rfl, rfl, rfl⟩ := h
       subst he
       obtain ⟨h2, h3⟩ := aHp hl
       have hb := cA (i := _) (j := 0) hM hi rfl
       refine Ru.loadN (vs := l.map At.val) hE hx (by rw [bC, h3, hz]) rfl (hb.lds (k := k) ?_)
       rw [h2, aB]
       have h4 : l.length = (List.take z (List.drop k xs)).length := by rw [<- h2, bC]
       rw [aB, h3] at h4
       rw [<- h4]
      cases h
    cases h
   cases h
  cases h
 cases h
theorem one1_ok {a : At} (h : one1 a = true) : one a.val = true := by
 cases a <;> first | rfl | exact h
theorem aJa {t : Nat} : ∀ {l : List (Nat × Operand)} {zs r : List At}, eBld τ zs l = some r ->
  aGg (zs.map At.val) (evp (Sg τ) l) = r.map At.val /\ ((evp (Sg τ) l).all λ p => Nat.blt p.1 zs.length && one p.2) = true
 | [], zs, r, h => by simp [eBld] at h; subst h; simp [evp, aGg]
 | p :: l, zs, r, h => by
  have hx := gV (τ := τ) p.2
  unfold eBld at h
  split at h
  ·rename_i a ha
   cases hc : (Nat.blt p.1 zs.length && one1 a) with
   | false => simp [hc] at h
   | true =>
    rw [hc] at h
    simp only [cond_true] at h
    obtain ⟨h1, h2⟩ := aJa (t := t) h
    rw [ha] at hx
    have hx : ev (Sg τ) p.2 = a.val := hx
    simp only [aW] at hc
    refine ⟨?_, ?_⟩
    ·rw [<- h1]
     simp [evp, aGg, hx, List.map_set]
    simp only [evp, List.all_cons, aW]
    refine ⟨⟨hc.1, by rw [hx]; exact one1_ok hc.2⟩, ?_⟩
    simpa using h2
  cases h
theorem opv_ok {is is' : List Nat} {op : Op} {s : SV} {ob : Obs} (hT : pV P T) (hM : Mem w0 w R M) (h : opv T M τ is op = some (s, is', ob)) (he : EqA ob) : Ru P (Sg τ) ⟨dst, op, T', pos, after, g⟩ w s.val := by
 unfold opv at h
 split at h
 ·rename_i x
  cases h; exact Ru.move (gV x)
 ·rename_i x
  cases h; exact Ru.assign (gV x)
 ·rename_i c a b
  have hc := gV (τ := τ) c
  split at h
  ·rename_i h1; rw [h1] at hc
   cases h; exact Ru.pickT hc (gV a)
  ·rename_i h1; rw [h1] at hc
   cases h; exact Ru.pickF hc (gV b)
  cases h
 ·split at h
  ·rename_i h1; cases h; exact eBin_ok h1
  cases h
 ·rename_i o t x
  have hx := gV (τ := τ) x
  split at h
  ·unfold eNot at h
   split at h
   ·rename_i a h1
    cases h
    split at h1
    ·rename_i b h2; rw [h2] at hx
     cases h1; exact Ru.not hx
    ·rename_i p hp h2; rw [h2] at hx
     cases h1; exact Ru.notp hx
    cases h1
   cases h
  cases h
 ·rename_i t x f
  have hx := gV (τ := τ) x
  unfold eFld at h
  split at h
  ·rename_i a h1
   cases h
   split at h1
   ·rename_i a0 k h2; rw [h2] at hx
    split at h1
    ·rename_i off ho
     cases h1
     exact Ru.fieldA (hT.fl _ _ _ ho) hx rfl
    cases h1
   cases h1
  cases h
 ·rename_i x
  have hx := gV (τ := τ) x
  unfold eNil at h
  split at h
  ·rename_i a h1
   cases h
   split at h1
   ·rename_i a0 k h2; rw [h2] at hx
    cases h1
    exact Ru.nilc (A := ofs (some a0) k) hx rfl
   cases h1
  cases h
 ·split at h
  ·split at h
   ·rename_i h1
    cases h
    exact eLd_ok hT hM h1 he.1
   cases h
  cases h
 ·rename_i x k
  have hx := gV (τ := τ) x
  unfold eExt at h
  split at h
  ·rename_i s1 h1
   cases h
   split at h1
   ·rename_i l h2; rw [h2] at hx
    split at h1
    ·rename_i v hv
     cases h1
     refine Ru.extract (vs := (l.map EV.val).toArray) hx ?_
     simp [hv, SV.val]
    cases h1
   cases h1
  cases h
 ·rename_i t parts
  split at h
  ·rename_i zs hz
   split at h
   ·rename_i l hl
    cases h
    obtain ⟨h1, h2⟩ := aJa (t := 0) hl
    have := Ru.build (P := P) (σ := Sg τ) (w := w) (dst := dst) (T' := T') (pos := pos) (after := after) (g := g) (hT.zs _ _ hz) rfl (by simpa using h2) h1
    simpa [SV.val, EV.val] using this
   cases h
  cases h
 ·split at h
  ·rename_i args ts
   split at h
   ·rename_i x t ha ht
    have hx := gV (τ := τ) x
    obtain rfl : args = #[x] := by cases args; simp at ha; subst ha; rfl
    obtain rfl : ts = #[t] := by cases ts; simp at ht; subst ht; rfl
    unfold eLen at h
    split at h
    ·rename_i a h1
     cases h
     split at h1
     ·rename_i A n c h2; rw [h2] at hx
      cases hs : (T t).sl with
      | false => simp [hs] at h1
      | true =>
       simp [hs] at h1; subst h1
       obtain ⟨e, hu⟩ := hT.sl _ hs
       exact Ru.blenSlice hu hx
     ·rename_i l h2; rw [h2] at hx
      cases hs : (T t).st with
      | false => simp [hs] at h1
      | true =>
       simp [hs] at h1; subst h1
       exact Ru.slen (hT.st _ hs) hx
     cases h1
    cases h
   cases h
  cases h
 cases h
end
structure Nf {α : Type} (l l' : List α) : Prop where h : l = l'
theorem Nf.nil {α : Type} {l : List α} (h : l = []) : Nf l [] := ⟨h⟩
theorem Nf.cons {α : Type} {l l1 l2 : List α} {a : α} (h : l = a :: l1) (t : Nf l1 l2) : Nf l (a :: l2) := ⟨by rw [h, t.h]⟩
def frcA : At -> Option At
 | .i a => some (.i a)
 | .n k a => some (.n k a)
 | .b x => some (.b x)
 | .d q h => some (.d q h)
 | .s l => some (.s l)
 | .sl A m c => some (.sl A m c)
 | .p A k => some (.p A k)
 | .r v => some (.r v)
def frc : SV -> Option SV
 | .e v => match v with
  | .x a => match frcA a with
   | some a => some (sx a)
   | none => none
  | .g l => some (.e (.g l))
 | .t l => some (.t l)
theorem aNx {s s' : SV} (h : frc s = some s') : s' = s := by
 unfold frc at h
 split at h
 ·rename_i v
  split at h
  ·rename_i a
   cases a <;> simp [frcA] at h <;> exact h.symm
  simp at h; exact h.symm
 simp at h; exact h.symm
def gst (ops : List Oper) (τ : Fm) : Option (Nat × Bool) -> Option Bool
 | none => some true
 | some (j, want) => match nth ops j with
  | some o => match o.dst with
   | some d => match τ d with
    | .e (.x (.b u)) => some (bif want then u else !u)
    | .t [] => some false
    | _ => none
   | none => none
  | none => none
def ost (T : Nat -> TyI) (M : List (List FE)) (n : Nat) (ops : List Oper) (τ : Fm) (is : List Nat) : Oper -> Option (Fm × List Nat × Obs)
 | ⟨dst, op, _, _, _, g⟩ => match dst with
  | some d => match Nat.blt d n with
   | true => match gst ops τ g with
    | some true => match opv T M τ is op with
     | some (s, is', ob) => match frc s with
      | some s' => some (up τ d s', is', ob)
      | none => none
     | none => none
    | some false => some (up τ d (.t []), is, [])
    | none => none
   | false => none
  | none => none
theorem aOb {ops : List Oper} {τ : Fm} {g : Option (Nat × Bool)} (h : gst ops τ g = some true) : gok ops (Sg τ) g = true := by
 cases g with
 | none => rfl
 | some g =>
  obtain ⟨j, want⟩ := g
  unfold gst at h
  split at h
  ·cases ‹some (j, want) = none›
  rename_i heq
  cases heq
  split at h
  ·rename_i o h1
   split at h
   ·rename_i d h2
    split at h
    ·rename_i u h3
     have h3' : Sg τ d = .bool u := by show (τ d).val = _; rw [h3]; rfl
     simp only [gok, h1, h2, h3']
     cases want <;> cases u <;> simp_all
    ·cases h
    cases h
   cases h
  cases h
theorem aLf {ops : List Oper} {τ : Fm} {g : Option (Nat × Bool)} (h : gst ops τ g = some false) :
  ∃ j want o d, g = some (j, want) /\ nth ops j = some o /\ o.dst = some d /\ ((∃ u, Sg τ d = .bool u /\ (u == want) = false) \/ Sg τ d = undef) := by
 cases g with
 | none => simp [gst] at h
 | some g =>
  obtain ⟨j, want⟩ := g
  unfold gst at h
  split at h
  ·cases ‹some (j, want) = none›
  rename_i heq
  cases heq
  split at h
  ·rename_i o h1
   split at h
   ·rename_i d h2
    split at h
    ·rename_i u h3
     have h3' : Sg τ d = .bool u := by show (τ d).val = _; rw [h3]; rfl
     refine ⟨j, want, o, d, rfl, h1, h2, .inl ⟨u, h3', ?_⟩⟩
     cases want <;> cases u <;> simp_all
    ·rename_i h3
     have h3' : Sg τ d = undef := by show (τ d).val = _; rw [h3]; rfl
     exact ⟨j, want, o, d, rfl, h1, h2, .inr h3'⟩
    cases h
   cases h
  cases h
section
variable {P : Program} {n : Nat} {Q : Post} {T : Nat -> TyI} {τ τ' : Fm} {w0 w : World} {R : List (Option Nat)} {M : List (List FE)} {ops rest : List Oper} {is is' : List Nat} {ob : Obs}
theorem vJ {o : Oper} (hT : pV P T) (h : ost T M n ops τ is o = some (τ', is', ob)) :
  ∃ d op T' pos after g, o = ⟨some d, op, T', pos, after, g⟩ /\ Nat.blt d n = true /\
   ((gok ops (Sg τ) g = true /\ ∃ v, Sg τ' = upd (Sg τ) d v /\ (EqA ob -> ∀ w0 w R, Mem w0 w R M -> Ru P (Sg τ) ⟨some d, op, T', pos, after, g⟩ w v)) \/
    (Sg τ' = upd (Sg τ) d undef /\ ∃ j want o' dj, g = some (j, want) /\ nth ops j = some o' /\ o'.dst = some dj /\ ((∃ u, Sg τ dj = .bool u /\ (u == want) = false) \/ Sg τ dj = undef))) := by
 obtain ⟨dst, op, T', pos, after, g⟩ := o
 unfold ost at h
 simp only at h
 split at h
 ·rename_i d
  refine ⟨d, op, T', pos, after, g, rfl, ?_⟩
  split at h
  ·rename_i hd
   refine ⟨hd, ?_⟩
   split at h
   ·rename_i hg
    left
    refine ⟨aOb hg, ?_⟩
    split at h
    ·rename_i s is1 ob1 hv
     split at h
     ·rename_i s' hf
      cases h
      obtain rfl := aNx hf
      exact ⟨s'.val, mR _ _ _, λ he w0 w R hM => opv_ok hT hM hv he⟩
     cases h
    cases h
   ·rename_i hg
    cases h
    exact .inr ⟨mR _ _ _, aLf hg⟩
   cases h
  cases h
 cases h
theorem ost_o {o : Oper} (hT : pV P T) (hM : Mem w0 w R M) (h : ost T M n ops τ is o = some (τ', is', ob)) (he : EqA ob) (hr : O P n ops rest Q (Sg τ') w) : O P n ops (o :: rest) Q (Sg τ) w := by
 obtain ⟨d, op, T', pos, after, g, rfl, hd, h | h⟩ := vJ hT h
 ·obtain ⟨hg, v, hs, hv⟩ := h
  rw [hs] at hr
  exact O.val hg (hv he _ _ _ hM) hd hr
 obtain ⟨hs, j, want, o', dj, rfl, h1, h2, h3 | h3⟩ := h
 ·obtain ⟨u, h3, h4⟩ := h3
  rw [hs] at hr
  exact O.pass h1 h2 h3 h4 hd hr
 rw [hs] at hr
 exact O.passU h1 h2 h3 hd hr
theorem ost_y {o : Oper} {S : World -> Prop} {K : Sig -> Prop} (hT : pV P T) (hS : ∀ w, S w -> Mem w0 w R M) (h : ost T M n ops τ is o = some (τ', is', ob)) (he : EqA ob) (hr : QO P n ops S K rest (Sg τ')) : QO P n ops S K (o :: rest) (Sg τ) := by
 obtain ⟨d, op, T', pos, after, g, rfl, hd, h | h⟩ := vJ hT h
 ·obtain ⟨hg, v, hs, hv⟩ := h
  rw [hs] at hr
  exact QO.val hg (λ w hw => hv he _ _ _ (hS w hw)) hd hr
 obtain ⟨hs, j, want, o', dj, rfl, h1, h2, h3 | h3⟩ := h
 ·obtain ⟨u, h3, h4⟩ := h3
  rw [hs] at hr
  exact QO.pass h1 h2 h3 h4 hd hr
 rw [hs] at hr
 exact QO.passU h1 h2 h3 hd hr
theorem ost_a {o : Oper} {S : World -> Prop} {K : Sig -> World -> Prop} {f i : Nat} {ls : List Bool} (hT : pV P T) (hS : ∀ w, S w -> Mem w0 w R M) (hi : nth ops i = some o) (hb : wB ops ls i = true) (h : ost T M n ops τ is o = some (τ', is', ob)) (he : EqA ob) (hr : AO P n ops S K f (ls.set i true) (Sg τ') w) : AO P n ops S K (f + 1) ls (Sg τ) w := by
 obtain ⟨d, op, T', pos, after, g, rfl, hd, h | h⟩ := vJ hT h
 ·obtain ⟨hg, v, hs, hv⟩ := h
  rw [hs] at hr
  exact AO.val i hi hb rfl hg (λ w hw => hv he _ _ _ (hS w hw)) hd hr
 obtain ⟨hs, j, want, o', dj, rfl, h1, h2, h3 | h3⟩ := h
 ·obtain ⟨u, h3, h4⟩ := h3
  rw [hs] at hr
  exact AO.pass i hi hb rfl h1 h2 h3 h4 hd hr
 rw [hs] at hr
 exact AO.passU i hi hb rfl h1 h2 h3 hd hr
end
inductive Fk where
 | sq (y : Code)
 | bk (id : Nat)
 | nm (k : Sig -> World -> Prop)
def itp (P : Program) (n : Nat) : List Fk -> Post -> Post
 | [], Q => Q
 | .sq y :: K, Q => aGp (C P n y (itp P n K Q)) (itp P n K Q)
 | .bk id :: K, Q => blkQ id (itp P n K Q)
 | .nm k :: K, Q => aGp k (itp P n K Q)
inductive Ct where
 | c (x : Code)
 | o (ops l : List Oper)
 | q (e : Exit)
 | y (S : World -> Prop) (ops l : List Oper)
 | a (S : World -> Prop) (ops : List Oper) (f : Nat) (ls : List Bool)
structure St where
 ct : Ct
 K : List Fk
 τ : Fm
def den (P : Program) (n : Nat) (Q : Post) (w : World) : St -> Prop
 | ⟨ct, K, τ⟩ => match ct with
  | .c x => C P n x (itp P n K Q) (Sg τ) w
  | .o ops l => O P n ops l (itp P n K Q) (Sg τ) w
  | .q e => itp P n K Q e (Sg τ) w
  | .y S ops l => QO P n ops S (λ σ => ∀ w', S w' -> itp P n K Q .normal σ w') l (Sg τ)
  | .a S ops f ls => AO P n ops S (λ σ w => itp P n K Q .normal σ w) f ls (Sg τ) w
def pop : Exit -> List Fk -> Ct × List Fk
 | e, [] => (.q e, [])
 | .normal, .sq y :: K => (.c y, K)
 | .normal, .bk _ :: K => pop .normal K
 | .normal, .nm k :: K => (.q .normal, .nm k :: K)
 | .exit i, .bk id :: K => bif Nat.beq i id then pop .normal K else pop (.exit i) K
 | e, _ :: K => pop e K
def stc (K : List Fk) (τ : Fm) : Code -> Option St
 | .seq a b => some ⟨.c a, .sq b :: K, τ⟩
 | .region _ l dr => match dr with
  | false => some ⟨.o l.toList l.toList, K, τ⟩
  | true => none
 | .skip => match pop .normal K with
  | (ct, K') => some ⟨ct, K', τ⟩
 | .exit id => match pop (.exit id) K with
  | (ct, K') => some ⟨ct, K', τ⟩
 | .ret => match pop .ret K with
  | (ct, K') => some ⟨ct, K', τ⟩
 | .block id b => some ⟨.c b, .bk id :: K, τ⟩
 | .cond x a b => match sev τ x with
  | .e (.x (.b true)) => some ⟨.c a, K, τ⟩
  | .e (.x (.b false)) => some ⟨.c b, K, τ⟩
  | _ => none
 | _ => none
def stp (T : Nat -> TyI) (M : List (List FE)) (n : Nat) (K : List Fk) (τ : Fm) (is : List Nat) : Ct -> Option (St × List Nat × Obs)
 | .c x => match stc K τ x with
  | some s => some (s, is, [])
  | none => none
 | .o ops l => match l with
  | [] => match pop .normal K with
   | (ct, K') => some (⟨ct, K', τ⟩, is, [])
  | o :: rest => match ost T M n ops τ is o with
   | some (τ', is', ob) => some (⟨.o ops rest, K, τ'⟩, is', ob)
   | none => none
 | .y S ops l => match l with
  | [] => none
  | o :: rest => match ost T M n ops τ is o with
   | some (τ', is', ob) => some (⟨.y S ops rest, K, τ'⟩, is', ob)
   | none => none
 | _ => none
def aCm (T : Nat -> TyI) (M : List (List FE)) (n : Nat) : Nat -> St -> List Nat -> Obs -> Option (St × Obs)
 | 0, s, _, ob => some (s, ob)
 | k + 1, ⟨ct, K, τ⟩, is, ob => match stp T M n K τ is ct with
  | some (s', is', ob') => aCm T M n k s' is' (ob' ++ ob)
  | none => none
section
variable {P : Program} {n : Nat} {Q : Post} {T : Nat -> TyI} {τ τ' : Fm} {w0 w : World} {R : List (Option Nat)} {M : List (List FE)} {ops rest : List Oper} {is is' : List Nat} {ob ob' : Obs}
theorem vM {K : List Fk} : ∀ {e : Exit} {ct : Ct} {K' : List Fk}, pop e K = (ct, K') -> den P n Q w ⟨ct, K', τ⟩ -> itp P n K Q e (Sg τ) w := by
 induction K with
 | nil => intro e ct K' h hd; simp [pop] at h; obtain ⟨rfl, rfl⟩ := h; exact hd
 | cons f K ih =>
  intro e ct K' h hd
  cases f with
  | sq y =>
   cases e <;> simp only [pop] at h
   case normal => cases h; exact hd
   all_goals exact ih h hd
  | nm y =>
   cases e <;> simp only [pop] at h
   case normal => cases h; exact hd
   all_goals exact ih h hd
  | bk id =>
   cases e <;> simp only [pop] at h
   case exit i =>
    show bif Nat.beq i id then _ else _
    cases hb : Nat.beq i id <;> rw [hb] at h <;> exact ih h hd
   all_goals exact ih h hd
theorem aFp {K : List Fk} : ∀ {e : Exit} {ct : Ct} {K' : List Fk}, pop e K = (ct, K') -> ∀ S ops l, ct ≠ .y S ops l := by
 induction K with
 | nil => intro e ct K' h; simp [pop] at h; obtain ⟨rfl, rfl⟩ := h; simp
 | cons f K ih =>
  intro e ct K' h
  cases f with
  | sq y =>
   cases e <;> simp only [pop] at h
   case normal => cases h; simp
   all_goals exact ih h
  | nm y =>
   cases e <;> simp only [pop] at h
   case normal => cases h; simp
   all_goals exact ih h
  | bk id =>
   cases e <;> simp only [pop] at h
   case exit i => cases hb : Nat.beq i id <;> rw [hb] at h <;> exact ih h
   all_goals exact ih h
theorem aCa {ob : Obs} (h : ob.map (·.1) = ob.map (·.2)) : EqA ob := by
 induction ob with
 | nil => trivial
 | cons p l ih => simp at h; exact ⟨h.1, ih (by simpa using h.2)⟩
theorem stc_ok {K : List Fk} {c : Code} {s : St} (h : stc K τ c = some s) (hd : den P n Q w s) : C P n c (itp P n K Q) (Sg τ) w := by
 unfold stc at h
 split at h
 ·cases h; exact C.seq hd
 ·rename_i id l dr
  split at h
  ·cases h
   have := C.region (id := id) (l := l.toList) hd
   simpa using this
  cases h
 ·split at h
  rename_i hp
  cases h; exact C.skip (vM hp hd)
 ·split at h
  rename_i hp
  cases h; exact C.exit (vM hp hd)
 ·split at h
  rename_i hp
  cases h; exact C.ret (vM hp hd)
 ·cases h; exact C.block hd
 ·rename_i x a b
  have hx := gV (τ := τ) x
  split at h
  ·rename_i h1; rw [h1] at hx
   cases h; exact C.condT hx hd
  ·rename_i h1; rw [h1] at hx
   cases h; exact C.condF hx hd
  cases h
 cases h
theorem stc_n {K : List Fk} {c : Code} {s : St} (h : stc K τ c = some s) : ∀ S ops l, s.ct ≠ .y S ops l := by
 unfold stc at h
 split at h
 ·cases h; simp
 ·split at h
  ·cases h; simp
  cases h
 ·split at h
  rename_i hp
  cases h; exact aFp hp
 ·split at h
  rename_i hp
  cases h; exact aFp hp
 ·split at h
  rename_i hp
  cases h; exact aFp hp
 ·cases h; simp
 ·split at h
  ·cases h; simp
  ·cases h; simp
  cases h
 cases h
def qOK (w0 : World) (R : List (Option Nat)) (M : List (List FE)) (ct : Ct) : Prop := ∀ S ops l, ct = .y S ops l -> ∀ w, S w -> Mem w0 w R M
theorem stp_ok {ct : Ct} {K : List Fk} {s' : St} (hT : pV P T) (hM : Mem w0 w R M) (hq : qOK w0 R M ct) (h : stp T M n K τ is ct = some (s', is', ob)) (he : EqA ob) (hd : den P n Q w s') : den P n Q w ⟨ct, K, τ⟩ /\ qOK w0 R M s'.ct := by
 unfold stp at h
 split at h
 ·split at h
  ·rename_i h1
   cases h; exact ⟨stc_ok h1 hd, λ _ _ _ e => absurd e (stc_n h1 _ _ _)⟩
  cases h
 ·split at h
  ·split at h
   rename_i hp
   cases h; exact ⟨O.nil (vM hp hd), λ _ _ _ e => absurd e (aFp hp _ _ _)⟩
  split at h
  ·rename_i h1
   cases h
   exact ⟨ost_o hT hM h1 he hd, λ _ _ _ e => by cases e⟩
  cases h
 ·split at h
  ·cases h
  split at h
  ·rename_i h1
   cases h
   exact ⟨ost_y hT (hq _ _ _ rfl) h1 he hd, λ _ _ _ e => by cases e; exact hq _ _ _ rfl⟩
  cases h
 cases h
theorem norm_ob : ∀ {k : Nat} {s s' : St} {is : List Nat} {ob ob' : Obs}, aCm T M n k s is ob = some (s', ob') -> EqA ob' -> EqA ob := by
 intro k
 induction k with
 | zero => intro s s' is ob ob' h he; simp [aCm] at h; obtain ⟨_, rfl⟩ := h; exact he
 | succ k ih =>
  intro s s' is ob ob' h he
  obtain ⟨ct, K, τ⟩ := s
  unfold aCm at h
  split at h
  ·exact (EqA.append.1 (ih h he)).2
  cases h
theorem aJl : ∀ {k : Nat} {s s' : St} {is : List Nat} {ob ob' : Obs}, pV P T -> Mem w0 w R M -> qOK w0 R M s.ct -> aCm T M n k s is ob = some (s', ob') -> EqA ob' -> den P n Q w s' -> den P n Q w s := by
 intro k
 induction k with
 | zero => intro s s' is ob ob' hT hM hq h he hd; simp [aCm] at h; obtain ⟨rfl, _⟩ := h; exact hd
 | succ k ih =>
  intro s s' is ob ob' hT hM hq h he hd
  obtain ⟨ct, K, τ⟩ := s
  unfold aCm at h
  split at h
  ·rename_i s1 is1 ob1 h1
   have he1 := (EqA.append.1 (norm_ob h he)).1
   have hq1 : qOK w0 R M s1.ct := by
    unfold stp at h1
    split at h1
    ·split at h1
     ·rename_i h2
      cases h1; exact λ _ _ _ e => absurd e (stc_n h2 _ _ _)
     cases h1
    ·split at h1
     ·split at h1
      rename_i hp
      cases h1; exact λ _ _ _ e => absurd e (aFp hp _ _ _)
     split at h1
     ·cases h1; exact λ _ _ _ e => by cases e
     cases h1
    ·split at h1
     ·cases h1
     split at h1
     ·cases h1
      exact λ _ _ _ e => by cases e; exact hq _ _ _ rfl
     cases h1
    cases h1
   exact (stp_ok hT hM hq h1 he1 (ih hT hM hq1 h he hd)).1
  cases h
def nrmA (T : Nat -> TyI) (M : List (List FE)) (n : Nat) (ops : List Oper) : List Nat -> Fm -> List Bool -> List Nat -> Obs -> Option (Fm × List Bool × Obs)
 | [], τ, ls, _, ob => some (τ, ls, ob)
 | i :: ix, τ, ls, is, ob => match nth ops i with
  | some o => match ost T M n ops τ is o with
   | some (τ', is', ob') => nrmA T M n ops ix τ' (ls.set i true) is' (ob' ++ ob)
   | none => none
  | none => none
def aDe (ops : List Oper) : List Bool -> List Nat -> Bool
 | _, [] => true
 | ls, i :: ix => wB ops ls i && aDe ops (ls.set i true) ix
theorem nrmA_ok {S : World -> Prop} {K : Sig -> World -> Prop} : ∀ {ix : List Nat} {τ τ' : Fm} {ls ls' : List Bool} {is : List Nat} {ob ob' : Obs} {f : Nat}, pV P T -> (∀ w, S w -> Mem w0 w R M) -> nrmA T M n ops ix τ ls is ob = some (τ', ls', ob') -> EqA ob' -> aDe ops ls ix = true -> AO P n ops S K f ls' (Sg τ') w -> EqA ob /\ AO P n ops S K (f + ix.length) ls (Sg τ) w := by
 intro ix
 induction ix with
 | nil => intro τ τ' ls ls' is ob ob' f hT hS h he hk hd; simp [nrmA] at h; obtain ⟨rfl, rfl, rfl⟩ := h; exact ⟨he, hd⟩
 | cons i ix ih =>
  intro τ τ' ls ls' is ob ob' f hT hS h he hk hd
  unfold nrmA at h
  simp only [aDe, aW] at hk
  split at h
  ·rename_i o ho
   split at h
   ·rename_i τ1 is1 ob1 h1
    obtain ⟨he1, hr⟩ := ih hT hS h he hk.2 hd
    obtain ⟨he2, he3⟩ := EqA.append.1 he1
    exact ⟨he3, ost_a hT hS ho hk.1 h1 he2 hr⟩
   cases h
  cases h
end
class TabC (P : Program) (T : outParam (Nat -> TyI)) : Prop where
 h : pV P T
def Run (k : Nat) (is : List Nat) (q p : Prop) : Prop := q -> p
def nA (ix is : List Nat) (q p : Prop) : Prop := q -> p
section
variable {P : Program} {n : Nat} {Q : Post} {T : Nat -> TyI} {τ τ' : Fm} {w0 w : World} {R : List (Option Nat)} {M : List (List FE)} {ops rest l : List Oper} {is ix : List Nat} {ob : Obs} {K : List Fk} {k f f' : Nat} {q p : Prop}
theorem gR {s s' : St} (hM : Mem w0 w R M := by assumption) (hT : TabC P T := by exact inferInstance) (h : aCm T M n k s is [] = some (s', ob) := by exact rfl) (he : ob.map (·.1) = ob.map (·.2) := by exact rfl) (hq : qOK w0 R M s.ct := by exact λ _ _ _ e => by cases e) : Run k is (den P n Q w s') (den P n Q w s) :=
 aJl hT.h hM hq h (aCa he)
theorem gY {s' : St} (hM : Mem w0 w R M := by assumption) (hT : TabC P T := by exact inferInstance) (h : aCm T M n k ⟨.y (λ w2 => Mem w0 w2 R M) ops l, K, τ⟩ is [] = some (s', ob) := by exact rfl) (he : ob.map (·.1) = ob.map (·.2) := by exact rfl) : Run k is (den P n Q w s') (den P n Q w ⟨.y (λ w2 => Mem w0 w2 R M) ops l, K, τ⟩) :=
 aJl hT.h hM (λ S ops l e w hw => by cases e; exact hw) h (aCa he)
theorem gA {S : World -> Prop} {ls ls' : List Bool} (hT : TabC P T := by exact inferInstance) (hS : ∀ w, S w -> Mem w0 w R M := by exact λ _ h => h) (h : nrmA T M n ops ix τ ls is [] = some (τ', ls', ob) := by exact rfl) (he : ob.map (·.1) = ob.map (·.2) := by exact rfl) (hf : f' = f + ix.length := by exact rfl) (hk : aDe ops ls ix = true := by kernel_rfl) :
  nA ix is (den P n Q w ⟨.a S ops f ls', K, τ'⟩) (den P n Q w ⟨.a S ops f' ls, K, τ⟩) := λ hd => by
 subst hf
 exact (nrmA_ok hT.h hS h (aCa he) hk hd).2
theorem toO {v : Value} {d : Nat} (h : Run k is q (den P n Q w ⟨.o ops l, K, up τ d (qJ v)⟩)) : Run k is q (O P n ops l (itp P n K Q) (upd (Sg τ) d v) w) := λ hq => by
 rw [aDj]; exact h hq
theorem toOp {A : Option Addr} {j d : Nat} (h : Run k is q (den P n Q w ⟨.o ops l, K, up τ d (sx (.p A j))⟩)) : Run k is q (O P n ops l (itp P n K Q) (upd (Sg τ) d (.pointer (ofs A j))) w) := λ hq => by
 rw [upd_SgP]; exact h hq
theorem toOs (h : Run k is q (den P n Q w ⟨.o ops l, K, τ⟩)) : Run k is q (O P n ops l (itp P n K Q) (Sg τ) w) := h
end
end Go.Px
namespace Go.Px
open Go.RowKit
theorem q0 {p : Prop} (h : p := by first | omega | assumption | (simp; omega) | simp | (intros; omega)) : p := h
theorem q2 {p : Prop} (h : p := by first | omega | (simp; omega)) : p := h
theorem qo {p : Prop} (h : p := by omega) : p := h
class ElC (P : Program) (T : TypeId) (zs : outParam (List Value)) (bytes : outParam Nat) (agg : outParam Bool) : Prop where h : ElT P T zs bytes agg
class UnC (P : Program) (T : TypeId) (d : outParam TypeDesc) : Prop where h : P.underlying T = some d
class FlC (P : Program) (T : TypeId) (f : Nat) (off : outParam Nat) : Prop where h : FlT P T f off
class EnC (P : Program) (f : FuncId) : Prop where h : bB P f
class EnL {α : Type} (enc : α -> List Value) (n : outParam Nat) : Prop where h : ∀ a, (enc a).length = n
class MxC (P : Program) : Prop where h : P.follows .mixedOrders = true
inductive Pk (M : List (List FE)) : List Nat -> List (List FE) -> Prop
 | nil : Pk M [] []
 | cons {i : Nat} {is : List Nat} {r : List FE} {N : List (List FE)} (h : M[i]? = some r) (t : Pk M is N) : Pk M (i :: is) (r :: N)
theorem Pk.eq {M N : List (List FE)} {is : List Nat} (h : Pk M is N) : Px.pick M is = N := by
 induction h with
 | nil => rfl
 | cons h _ ih => simp [Px.pick, h, ih]
theorem Pk.mem {M N : List (List FE)} {is : List Nat} {w0 w : World} {R : List (Option Nat)} (h : Pk M is N) (hn : is.Nodup) (hM : Mem w0 w R M) : Mem w0 w R N := Mem.pick hM is hn h.eq
theorem n9 {α : Type} {l l' : List α} (h : Nf l l' := by (repeat (first | exact Go.Px.Nf.nil rfl | (apply Go.Px.Nf.cons; exact rfl)))) : Nf l l' := h
theorem h9 {p : Prop} (h : p := by (repeat (first | exact True.intro | refine And.intro (by first | exact rfl | exact Go.Px.I_congr (by first | omega | (simp; omega) | simp) | exact Go.Px.sl_congr (by first | omega | (simp; done) | (simp; omega) | exact congrArg List.length t25)) ?_))) : p := h
theorem z9 {p : Prop} (h : p := by (repeat (first | exact Go.Px.Pk.nil | (apply Go.Px.Pk.cons; exact rfl)))) : p := h
section
variable {w0 w w1 : World} {R : List (Option Nat)} {M : List (List FE)}
theorem Mem.pk (h : Mem w0 w R M) (is : List Nat) {N : List (List FE)} (hp : Pk M is N := by exact Go.Px.z9) (hn : is.Nodup := by decide) : Mem w0 w R N := hp.mem hn h
theorem Mem.fp (h : Mem w0 w R M) (is : List Nat) {Ma : List (List FE)} {R' : List (Option Nat)} (ha : Px.pick M is = Ma) (hR : rS Ma = R') (hn : is.Nodup := by decide) : Mem w w R' Ma := Mem.focus (rest := []) (R := R) (w0 := w0) (by rw [cS]; exact Mem.pick h is hn ha) hR
theorem Mem.cl (h : Mem w0 w R M) (k : Nat) {M1 : List (List FE)} {R' : List (Option Nat)} (h1 : Mem w w1 R' M1) {Ma rest N : List (List FE)} (ha : Nf (M.take k) Ma := by exact Go.Px.n9) (hb : Nf (M.drop k) rest := by exact Go.Px.n9) (hR : rS Ma = R' := by exact rfl) (hN : Nf (M1 ++ rest) N := by exact Go.Px.n9) : Mem w0 w1 R N := by
 have e : M = Ma ++ rest := by rw [<- ha.h, <- hb.h, bT]
 rw [e] at h
 rw [<- hN.h]
 exact Mem.call h h1 hR
theorem Mem.reM (h : Mem w0 w R M) (i : Nat) {α : Type} {l l' : List α} (e : l = l') {f : α -> Value} {A : Option Addr} {n c : Nat} {t : TypeId} {N : List (List FE)} (hi : M[i]? = some [⟨.slice A n c, t, 1, n, l.map f⟩] := by exact rfl) (hn : n = l.length \/ n = l'.length := by first | exact .inl rfl | exact .inr rfl | (left; first | (simp; done) | omega | (simp; omega)) | (right; first | (simp; done) | omega | (simp; omega))) (hN : Nf (M.set i [⟨.slice A l'.length c, t, 1, l'.length, l'.map f⟩]) N := by exact Go.Px.n9) : Mem w0 w R N := Mem.relen h i hi (hn.elim (λ h => h.trans (congrArg List.length e)) id) (by rw [e]) hN.h
theorem Mem.reF (h : Mem w0 w R M) (i : Nat) {α : Type} {l l' : List α} (e : l = l') {f : α -> List Value} {A : Option Addr} {n c sz : Nat} {t : TypeId} {N : List (List FE)} (hi : M[i]? = some [⟨.slice A n c, t, sz, n, l.flatMap f⟩] := by exact rfl) (hn : n = l.length \/ n = l'.length := by first | exact .inl rfl | exact .inr rfl | (left; first | (simp; done) | omega | (simp; omega)) | (right; first | (simp; done) | omega | (simp; omega))) (hN : Nf (M.set i [⟨.slice A l'.length c, t, sz, l'.length, l'.flatMap f⟩]) N := by exact Go.Px.n9) : Mem w0 w R N := Mem.relen h i hi (hn.elim (λ h => h.trans (congrArg List.length e)) id) (by rw [e]) hN.h
end
theorem smq {α : Type} {enc : α -> List Value} {n k : Nat} {l : List α} {A : Option Addr} {w : World} (hn : ∀ a, (enc a).length = n) (h : Rd w A (l.flatMap enc)) (hk : k < l.length) (h0 : 0 < n) : A.isSome = true := by
 have h1 : 0 < (enc l[k]).length := by rw [hn]; exact h0
 exact smf (v := (enc l[k])[0]) hn h hk (by simp [h1])
theorem aNt {α : Type} {enc : α -> List Value} {n k m : Nat} {l : List α} (hn : ∀ a, (enc a).length = n) (hk : k < l.length) {o : Nat} (ho : o + m <= n) : k * n + o + m <= (l.flatMap enc).length := by
 rw [kX hn]
 have : (k + 1) * n <= l.length * n := bK _ hk
 rw [bM] at this
 omega
theorem wW {α : Type} {M M1 M2 : List α} {i : Nat} {r x : α} (hi : M[i]? = some r) (h1 : M.take i = M1) (h2 : M.drop (i + 1) = M2) : M.set i x = M1 ++ (x :: M2) := by
 obtain ⟨hlt, _⟩ := cC.1 hi
 rw [<- h1, <- h2, bY, if_pos hlt]
theorem Has.app {σ : Sig} : ∀ {l1 l2 : List (Nat × Value)}, Has σ l1 -> Has σ l2 -> Has σ (l1 ++ l2)
 | [], _, _, h => h
 | _ :: _, _, h1, h2 => ⟨h1.1, Has.app h1.2 h2⟩
theorem Pk.app {M N N' : List (List FE)} {is is' : List Nat} (h : Pk M is N) (h' : Pk M is' N') : Pk M (is ++ is') (N ++ N') := by
 induction h with
 | nil => exact h'
 | cons h _ ih => exact .cons h ih
section
variable {w0 w : World} {R : List (Option Nat)} {M : List (List FE)}
theorem Mem.reR (h : Mem w0 w R M) (i : Nat) {r r' : List FE} (e : r = r') {N : List (List FE)} (hi : M[i]? = some r) (hN : Nf (M.set i r') N) : Mem w0 w R N := by
 subst e
 obtain ⟨hlt, he⟩ := cC.1 hi
 rw [<- hN.h, <- he, jD]
 exact h
theorem Mem.reK (h : Mem w0 w R M) (i : Nat) {α : Type} {l l' : List α} (e : l = l') {f : α -> List FE} {N : List (List FE)} (hi : M[i]? = some (l.flatMap f) := by exact rfl) (hN : Nf (M.set i (l'.flatMap f)) N := by exact Go.Px.n9) : Mem w0 w R N := h.reR i (by rw [e]) hi hN
theorem Mem.reA (h : Mem w0 w R M) (i : Nat) {α : Type} {l l' : List α} (e : l = l') {f : α -> Value} {v : Value} {t : TypeId} {sz m : Nat} {N : List (List FE)} (hi : M[i]? = some [⟨v, t, sz, m, l.map f⟩] := by exact rfl) (hN : Nf (M.set i [⟨v, t, sz, m, l'.map f⟩]) N := by exact Go.Px.n9) : Mem w0 w R N := h.reR i (by rw [e]) hi hN
theorem Mem.reC (h : Mem w0 w R M) (i : Nat) {xs xs' : List Value} (e : xs = xs') {v : Value} {t : TypeId} {sz m : Nat} {N : List (List FE)} (hi : M[i]? = some [⟨v, t, sz, m, xs⟩] := by exact rfl) (hN : Nf (M.set i [⟨v, t, sz, m, xs'⟩]) N := by exact Go.Px.n9) : Mem w0 w R N := h.reR i (by rw [e]) hi hN
theorem Mem.reB (h : Mem w0 w R M) (i c : Nat) {a a' : Nat} (e : a = a') {v : Value} {t : TypeId} {sz m k : Nat} {A : Option Addr} {xs xs' : List Value} {N : List (List FE)} (hi : M[i]? = some [⟨v, t, sz, m, xs⟩] := by exact rfl) (hc : xs[c]? = some (.slice A a k) := by exact rfl) (hx : Nf (xs.set c (.slice A a' k)) xs' := by exact Go.Px.n9) (hN : Nf (M.set i [⟨v, t, sz, m, xs'⟩]) N := by exact Go.Px.n9) : Mem w0 w R N := h.reC i (by
 subst e
 obtain ⟨hlt, he⟩ := cC.1 hc
 rw [<- hx.h, <- he, jD]) hi hN
end
def ty0 : TyI := ⟨[], none, false, false, none⟩
def FlA (P : Program) (t : Nat) : List (Nat × Nat) -> Prop
 | [] => True
 | p :: l => FlT P t p.1 p.2 /\ FlA P t l
def ElA (P : Program) (t : Nat) : Option (Nat × Bool) -> Prop
 | none => True
 | some (n, a) => ∃ zs bytes, ElT P t zs bytes a /\ zs.length = n
def ZsA (P : Program) (t : Nat) : Option (List At) -> Prop
 | none => True
 | some l => oD P t (l.map At.val)
structure TyOK (P : Program) (t : Nat) (x : TyI) : Prop where
 fl : FlA P t x.fl
 el : ElA P t x.el
 sl : x.sl = true -> ∃ e, P.underlying t = some (.slice e)
 st : x.st = true -> P.underlying t = some .string
 zs : ZsA P t x.zs
theorem TyOK.nil {P : Program} {t : Nat} : TyOK P t ty0 := ⟨trivial, trivial, nofun, nofun, trivial⟩
def AllT (P : Program) : Nat -> List TyI -> Prop
 | _, [] => True
 | k, x :: l => TyOK P k x /\ AllT P (k + 1) l
def aIq (P : Program) (W : Nat) : Nat -> List (List TyI) -> Prop
 | _, [] => True
 | k, c :: l => AllT P k c /\ aIq P W (k + W) l
def tyAt : List TyI -> Nat -> TyI
 | [], _ => ty0
 | x :: _, 0 => x
 | _ :: l, k + 1 => tyAt l k
def aKi : List (List TyI) -> Nat -> List TyI
 | [], _ => []
 | c :: _, 0 => c
 | _ :: l, k + 1 => aKi l k
def tyGet (W : Nat) (L : List (List TyI)) (t : Nat) : TyI := tyAt (aKi L (t / W)) (t % W)
theorem aIs {P : Program} : ∀ {l : List TyI} {k i : Nat}, AllT P k l -> TyOK P (k + i) (tyAt l i)
 | [], _, _, _ => .nil
 | x :: l, k, 0, h => h.1
 | x :: l, k, i + 1, h => by
  have := aIs (i := i) h.2
  rwa [Nat.add_assoc, Nat.add_comm 1 i] at this
theorem aDx {P : Program} {W : Nat} : ∀ {L : List (List TyI)} {k i : Nat}, aIq P W k L -> AllT P (k + i * W) (aKi L i)
 | [], _, _, _ => trivial
 | c :: L, k, 0, h => by simpa [aKi] using h.1
 | c :: L, k, i + 1, h => by
  have := aDx (i := i) h.2
  rwa [Nat.add_assoc, Nat.add_comm W, <- Nat.succ_mul] at this
theorem aIt {P : Program} {t f off : Nat} : ∀ {l : List (Nat × Nat)}, FlA P t l -> asc1 l f = some off -> FlT P t f off
 | [], _, h => by simp [asc1] at h
 | p :: l, hl, h => by
  unfold asc1 at h
  cases hb : Nat.beq p.1 f with
  | true => rw [hb] at h; simp at h; have := jE hb; subst this; subst h; exact hl.1
  | false => rw [hb] at h; exact aIt hl.2 h
theorem tab_ok {P : Program} {W : Nat} {L : List (List TyI)} (_hW : 0 < W) (h : aIq P W 0 L) (_h2 : true = true) : pV P (tyGet W L) := by
 have key : ∀ t, TyOK P t (tyGet W L t) := by
  intro t
  have h1 := aIs (i := t % W) (aDx (i := t / W) h)
  rwa [jP, Nat.mul_comm, Nat.div_add_mod] at h1
 refine ⟨λ t f off hf => aIt (key t).fl hf, λ t n a he => ?_, λ t => (key t).sl, λ t => (key t).st, λ t l hz => ?_⟩
 ·have := (key t).el; rw [he] at this; exact this
 have := (key t).zs; rw [hz] at this; exact this
abbrev Vi (a : Int) : SV := sx (.i a)
abbrev Vn (k : IntKind) (a : Int) : SV := sx (.n k a)
abbrev Vb (x : Bool) : SV := sx (.b x)
abbrev Vd (p : Prop) [h : Decidable p] : SV := sx (.d p h)
abbrev Vs (l : Str) : SV := sx (.s l)
abbrev Vl (A : Option Addr) (n c : Nat) : SV := sx (.sl A n c)
abbrev Vp (A : Option Addr) (k : Nat) : SV := sx (.p A k)
abbrev Vr (v : Value) : SV := sx (.r v)
abbrev Va (l : List At) : SV := .e (.g l)
abbrev Vt (l : List EV) : SV := .t l
structure Rk (P : Program) (τ : Fm) (o : Oper) (w : World) (s : SV) : Prop where h : Ru P (Sg τ) o w s.val
def lZ (τ : Fm) : List Nat -> Option (List (Nat × SV))
 | [] => some []
 | k :: ks => match frc (τ k) with
  | some s => match lZ τ ks with
   | some l => some ((k, s) :: l)
   | none => none
  | none => none
theorem lR {τ : Fm} : ∀ {ks : List Nat} {KS : List (Nat × SV)}, lZ τ ks = some KS -> Has (Sg τ) (vals KS)
 | [], KS, h => by simp [lZ] at h; subst h; trivial
 | k :: ks, KS, h => by
  unfold lZ at h
  split at h
  ·rename_i s hs
   split at h
   ·rename_i l hl
    cases h
    exact ⟨by rw [aNx hs]; rfl, lR hl⟩
   cases h
  cases h
theorem eK {τ : Fm} : ∀ {KS : List (Nat × SV)}, KS.map (λ p => τ p.1) = KS.map (·.2) -> Has (Sg τ) (vals KS)
 | [], _ => trivial
 | p :: l, h => by
  simp only [mN, List.cons.injEq] at h
  exact ⟨by show (τ p.1).val = p.2.val; rw [h.1], eK h.2⟩
theorem aPm (l l' : List (Nat × SV)) : vals (l ++ l') = vals l ++ vals l' := by simp [vals]
theorem eC {σ : Sig} {l l' : List (Nat × SV)} (h : Has σ (vals l)) (h' : Has σ (vals l')) : Has σ (vals (l ++ l')) := by rw [aPm]; exact Has.app h h'
def aIu : At -> Option Value
 | .i a => some (I a)
 | .n k a => some (.int k a)
 | .b x => some (.bool x)
 | .d q h => some (.bool (@decide q h))
 | .s l => some (S l)
 | .sl A m c => some (.slice A m c)
 | .p A k => some (.pointer (ofs A k))
 | .r v => bif one v then some v else none
def xN : List At -> Option (List Value)
 | [] => some []
 | a :: l => match aIu a with
  | some v => match xN l with
   | some r => some (v :: r)
   | none => none
  | none => none
def cls : SV -> Option (List Value)
 | .e (.x a) => match aIu a with
  | some v => some [v]
  | none => none
 | .e (.g l) => xN l
 | .t _ => none
theorem aDy {a : At} {v : Value} (h : aIu a = some v) : a.val = v /\ one v = true := by
 cases a <;> simp only [aIu, Option.some.injEq] at h <;> first
  | (subst h; exact ⟨rfl, rfl⟩)
  | skip
 rename_i u
 cases hu : one u <;> rw [hu] at h <;> simp at h
 subst h; exact ⟨rfl, hu⟩
theorem aAg : ∀ {l : List At} {r : List Value}, xN l = some r -> l.map At.val = r /\ r.all one = true
 | [], r, h => by simp [xN] at h; subst h; simp
 | a :: l, r, h => by
  unfold xN at h
  split at h
  ·rename_i v hv
   split at h
   ·rename_i r' hr
    cases h
    obtain ⟨h1, h2⟩ := aDy hv
    obtain ⟨h3, h4⟩ := aAg hr
    simp [h1, h2, h3, h4]
   cases h
  cases h
theorem aLx {v : Value} (h : one v = true) : v.cells = #[v] := by
 cases v <;> first | rfl | exact absurd h (by simp [one, Value.oneCell'])
theorem xO {s : SV} {vs : List Value} (h : cls s = some vs) : s.val.cells = vs.toArray /\ vs.all one = true := by
 unfold cls at h
 split at h
 ·split at h
  ·rename_i v hv
   cases h
   obtain ⟨h1, h2⟩ := aDy hv
   refine ⟨?_, by simp [h2]⟩
   show (At.val _).cells = _
   rw [h1, aLx h2]
  cases h
 ·obtain ⟨h1, h2⟩ := aAg h
  exact ⟨by rw [<- h1]; rfl, h2⟩
 cases h
theorem p9 {k : Nat} {is : List Nat} {q p : Prop} (h : Run k is q p := by first | exact Go.Px.gY | exact Go.Px.gR | (refine Go.Px.toOs ?_; exact Go.Px.gR) | (refine Go.Px.toOp ?_; exact Go.Px.gR) | (refine Go.Px.toO ?_; exact Go.Px.gR) | (refine Go.Px.toC ?_; exact Go.Px.gR) | (refine Go.Px.toYp ‹_› ?_; exact Go.Px.gY) | (refine Go.Px.toY ‹_› ?_; exact Go.Px.gY)) : Run k is q p := h
theorem q9 {ix is : List Nat} {q p : Prop} (h : nA ix is q p := by first | exact Go.Px.gA | (refine Go.Px.toAp ?_; exact Go.Px.gA) | (refine Go.Px.toA ?_; exact Go.Px.gA)) : nA ix is q p := h
section
variable {α0 α1 α2 α3 α4 α5 α6 α7 α8 α9 : Type}
variable {P : Program} {n : Nat} {ops rest : List Oper} {Q : Post} {τ : Fm} {K : List Fk} {w w0 : World} {R : List (Option Nat)} {M : List (List FE)} {T U T' e t : TypeId} {pos : String} {after : Array Edge} {g : Option (Nat × Bool)} {x y z : Operand} {zs : List Value} {bytes : Nat} {agg : Bool} {d : Nat} {p : Prop} {dst : Option Tmp}
theorem go {q : Prop} (k9 : Nat) (is : List Nat) (hq : q) (pre : Run k9 is q p := by exact Go.Px.p9) : p := pre hq
theorem iT {v : SV} (h : sev τ x = v) : ev (Sg τ) x = v.val := by rw [gV, h]
theorem ov {op : Op} {s : SV} (k9 : Nat) (is : List Nat)  (pre : Run k9 is (den P n Q w ⟨.o ops (⟨some d, op, T', pos, after, g⟩ :: rest), K, τ⟩) p := by exact Go.Px.p9) (hg : gok ops (Sg τ) g = true := by exact rfl) (hd : Nat.blt d n = true := by exact rfl) (a : Rk P τ ⟨some d, op, T', pos, after, g⟩ w s) (b : den P n Q w ⟨.o ops rest, K, up τ d (s)⟩) : p := pre (O.val hg a.h hd (by rw [<- mR]; exact b))
theorem qv {op : Op} {s : SV} {S : World -> Prop} (k9 : Nat) (is : List Nat)  (pre : Run k9 is (den P n Q w ⟨.y S ops (⟨some d, op, T', pos, after, g⟩ :: rest), K, τ⟩) p := by exact Go.Px.p9) (hg : gok ops (Sg τ) g = true := by exact rfl) (hd : Nat.blt d n = true := by exact rfl) (a : ∀ w, S w -> Rk P τ ⟨some d, op, T', pos, after, g⟩ w s) (b : den P n Q w ⟨.y S ops rest, K, up τ d s⟩) : p := pre (QO.val hg (λ w hw => (a w hw).h) hd (by rw [<- mR]; exact b))
theorem av {op : Op} {s : SV} {S : World -> Prop} {f : Nat} {ls : List Bool} (ix is : List Nat) (i : Nat) (pre : nA ix is (den P n Q w ⟨.a S ops (f + 1) ls, K, τ⟩) p := by exact Go.Px.q9) (hi : nth ops i = some ⟨some d, op, T', pos, after, g⟩ := by exact rfl) (hb : wB ops ls i = true := by kernel_rfl) (hg : gok ops (Sg τ) g = true := by exact rfl) (hd : Nat.blt d n = true := by exact rfl) (a : ∀ w, S w -> Rk P τ ⟨some d, op, T', pos, after, g⟩ w s) (b : den P n Q w ⟨.a S ops f (ls.set i true), K, up τ d s⟩) : p := pre (AO.val i hi hb rfl hg (λ w hw => (a w hw).h) hd (by rw [<- mR]; exact b))
theorem oW {a b : Int}  (hx : sev τ x = Vi a := by exact rfl) (hy : sev τ y = Vi b := by exact rfl) (h : -9223372036854775808 <= a + b /\ a + b <= 9223372036854775807 := by omega) : Rk P τ ⟨dst, .binOp .add T x y U, T', pos, after, g⟩ w (Vi (a + b)) := ⟨Ru.add (iT hx) (iT hy) h⟩
theorem bL {a b : Int} (m : Nat) (hx : sev τ x = Vi a := by exact rfl) (hy : sev τ y = Vi b := by exact rfl) (h : -9223372036854775808 <= a + b /\ a + b <= 9223372036854775807 := by omega) (e : a + b = (m : Int) := by first | omega | simp) : Rk P τ ⟨dst, .binOp .add T x y U, T', pos, after, g⟩ w (Vi ((m : Nat) : Int)) := ⟨Ru.congr (Ru.add (iT hx) (iT hy) h) (I_congr e)⟩
theorem eV {a b : Int}  (hx : sev τ x = Vi a := by exact rfl) (hy : sev τ y = Vi b := by exact rfl) (h : -9223372036854775808 <= a - b /\ a - b <= 9223372036854775807 := by omega) : Rk P τ ⟨dst, .binOp .sub T x y U, T', pos, after, g⟩ w (Vi (a - b)) := ⟨Ru.sub (iT hx) (iT hy) h⟩
theorem aAq {a b : Int} (m : Nat) (hx : sev τ x = Vi a := by exact rfl) (hy : sev τ y = Vi b := by exact rfl) (h : -9223372036854775808 <= a * b /\ a * b <= 9223372036854775807 := by omega) (e : a * b = (m : Int) := by first | omega | simp) : Rk P τ ⟨dst, .binOp .mul T x y U, T', pos, after, g⟩ w (Vi ((m : Nat) : Int)) := ⟨Ru.congr (Ru.mul (iT hx) (iT hy) h) (I_congr e)⟩
theorem aAr {a b : Int} (m : Nat) (hx : sev τ x = Vi a := by exact rfl) (hy : sev τ y = Vi b := by exact rfl) (h : 0 <= a /\ a <= 9223372036854775807 /\ 1 <= b := by omega) (e : a / b = (m : Int) := by first | omega | simp) : Rk P τ ⟨dst, .binOp .quo T x y U, T', pos, after, g⟩ w (Vi ((m : Nat) : Int)) := ⟨Ru.congr (Ru.quo (iT hx) (iT hy) h) (I_congr e)⟩
theorem aEz {a b : Int}  (hx : sev τ x = Vi a := by exact rfl) (hy : sev τ y = Vi b := by exact rfl) (h : 0 <= a /\ 1 <= b := by omega) : Rk P τ ⟨dst, .binOp .rem T x y U, T', pos, after, g⟩ w (Vi (a % b)) := ⟨Ru.rem (iT hx) (iT hy) h⟩
theorem kremN {a b : Int} (m : Nat) (hx : sev τ x = Vi a := by exact rfl) (hy : sev τ y = Vi b := by exact rfl) (h : 0 <= a /\ 1 <= b := by omega) (e : a % b = (m : Int) := by first | omega | simp) : Rk P τ ⟨dst, .binOp .rem T x y U, T', pos, after, g⟩ w (Vi ((m : Nat) : Int)) := ⟨Ru.congr (Ru.rem (iT hx) (iT hy) h) (I_congr e)⟩
theorem kcv {a : Int} {dd : TypeDesc}    (hT : UnC P T dd := by exact inferInstance) (hU : UnC P U (.int .i64) := by exact inferInstance) (hx : sev τ x = Vn .u8 a := by exact rfl) (h : 0 <= a /\ a <= 255 := by first | omega | exact Go.Px.u8_le _) : Rk P τ ⟨dst, .convert T U x, T', pos, after, g⟩ w (Vi a) := ⟨Ru.conv hT.h hU.h (iT hx) (wrap_u8 _ h)⟩
theorem cJ {w9 : World} {α : Type} {enc : α -> List Value} {nn : Nat}  {l : List α} {A : Option Addr} {j m c : Nat} {k : IntKind} {i : Int}   (hj : j < l.length) (hr : Rd w9 A (l.flatMap enc)) (hT : UnC P T (.slice e) := by exact inferInstance) (he : ElC P e zs bytes agg := by exact inferInstance) (hx : sev τ x = Vl A m c := by exact rfl) (hy : ev (Sg τ) y = .int k i := by exact rfl) (hi : i.toNat = j := by omega) (hl : EnL enc nn := by exact inferInstance) (h0 : 0 <= i /\ i < m := by first | omega | (simp; omega)) (hz : zs.length = nn := by exact rfl) (hn : Nat.blt 0 nn = true := by exact rfl) : Rk P τ ⟨dst, .indexAddr T x y, T', pos, after, g⟩ w (Vp A (j * nn)) := ⟨by subst hz; exact Ru.indexA hT.h he.h (iT hx) hy (smq hl.h hr hj (by simpa using hn)) hi h0⟩
theorem cG {w9 : World} {α : Type} {f : α -> Value} {l : List α} {A : Option Addr} {j m c : Nat} {k : IntKind} {i : Int}   (hj : j < l.length) (hr : Rd w9 A (l.map f)) (hT : UnC P T (.slice e) := by exact inferInstance) (he : ElC P e zs bytes agg := by exact inferInstance) (hx : sev τ x = Vl A m c := by exact rfl) (hy : ev (Sg τ) y = .int k i := by exact rfl) (hi : i.toNat = j := by omega) (h0 : 0 <= i /\ i < m := by first | omega | (simp; omega)) (hz : zs.length = 1 := by exact rfl) : Rk P τ ⟨dst, .indexAddr T x y, T', pos, after, g⟩ w (Vp A (j * 1)) := ⟨by have h := Ru.indexA (dst := dst) (T' := T') (pos := pos) (after := after) (g := g) (w := w) hT.h he.h (iT hx) hy (smm hr hj) hi h0; rw [hz] at h; exact h⟩
theorem fZ {w9 : World} {α : Type} {enc : α -> List Value} {nn : Nat}  {l : List α} {A : Option Addr} {j k f off : Nat}  (hj : j < l.length) (hr : Rd w9 A (l.flatMap enc)) (hl : EnL enc nn := by exact inferInstance) (hf : FlC P T f off := by exact inferInstance) (hx : sev τ x = Vp A k := by exact rfl) (hn : Nat.blt 0 nn = true := by exact rfl) : Rk P τ ⟨dst, .fieldAddr T x f, T', pos, after, g⟩ w (Vp A (k + off)) := ⟨Ru.fieldA hf.h (iT hx) (smq hl.h hr hj (by simpa using hn))⟩
theorem eT {α : Type} {f : α -> Value} {l : List α} {A : Option Addr} {j : Nat}  (hj : j < l.length) (hr : Rd w A (l.map f)) (he : ElC P T zs bytes false := by exact inferInstance) (hx : sev τ x = Vp A (j * 1) := by exact rfl) : Rk P τ ⟨dst, .load T x, T', pos, after, g⟩ w (qJ (f l[j])) := ⟨by rw [oY]; exact Ru.load1 he.h (iT hx) (ldm hr hj)⟩
theorem gF {α : Type} {enc : α -> List Value} {nn : Nat}  {l : List α} {A : Option Addr} {j off : Nat} {v : Value}  (hj : j < l.length) (hr : Rd w A (l.flatMap enc)) (hl : EnL enc nn := by exact inferInstance) (he : ElC P T zs bytes false := by exact inferInstance) (hx : sev τ x = Vp A (j * nn + off) := by exact rfl) (hv : (enc l[j])[off]? = some v := by exact rfl) : Rk P τ ⟨dst, .load T x, T', pos, after, g⟩ w (qJ v) := ⟨by rw [oY]; exact Ru.load1 he.h (iT hx) (ldf hl.h hr hj hv)⟩
theorem gL {α : Type} {enc : α -> List Value} {nn : Nat}  {l : List α} {A : Option Addr} {j : Nat} {at9 : List At}  (hj : j < l.length) (hr : Rd w A (l.flatMap enc)) (hl : EnL enc nn := by exact inferInstance) (he : ElC P T zs bytes true := by exact inferInstance) (hx : sev τ x = Vp A (j * nn) := by exact rfl) (hv : ldN (enc l[j]) nn = some at9 := by exact rfl) (hz : zs.length = nn := by exact rfl) (hn : Nat.blt 0 nn = true := by exact rfl) : Rk P τ ⟨dst, .load T x, T', pos, after, g⟩ w (Va at9) := ⟨by
 have hv1 : at9.map At.val = enc l[j] := (aHp hv).1.trans (aE (by rw [hl.h]; exact dD _))
 exact Ru.loadN (vs := at9.map At.val) he.h (iT hx) (by rw [hv1, hl.h, hz]) (smq hl.h hr hj (by simpa using hn)) (by rw [hv1]; exact ldn hl.h hr hj)⟩
theorem ksT {a : Str} {hi : Int}  (h : Nat) (hT : UnC P T .string := by exact inferInstance) (hx : sev τ x = Vs a := by exact rfl) (hhi : sev τ z = Vi hi := by exact rfl) (hh : hi.toNat = h := by omega) (hb : 0 <= hi /\ hi <= a.length := by omega) : Rk P τ ⟨dst, .slice T x none (some z) none, T', pos, after, g⟩ w (Vs (a.take h)) := ⟨Ru.ssliceTo hT.h (iT hx) (iT hhi) hh hb⟩
theorem ksF {a : Str} {lo : Int}  (l : Nat) (hT : UnC P T .string := by exact inferInstance) (hx : sev τ x = Vs a := by exact rfl) (hlo : sev τ y = Vi lo := by exact rfl) (hl : lo.toNat = l := by omega) (hb : 0 <= lo /\ lo <= a.length := by omega) : Rk P τ ⟨dst, .slice T x (some y) none none, T', pos, after, g⟩ w (Vs (a.drop l)) := ⟨Ru.ssliceFrom hT.h (iT hx) (iT hlo) hl hb⟩
theorem ksB {a : Str} {lo hi : Int}  (l h : Nat) (hT : UnC P T .string := by exact inferInstance) (hx : sev τ x = Vs a := by exact rfl) (hlo : sev τ y = Vi lo := by exact rfl) (hhi : sev τ z = Vi hi := by exact rfl) (hl : lo.toNat = l := by omega) (hh : hi.toNat = h := by omega) (hb : 0 <= lo /\ lo <= hi /\ hi <= a.length := by omega) : Rk P τ ⟨dst, .slice T x (some y) (some z) none, T', pos, after, g⟩ w (Vs ((a.drop l).take (h - l))) := ⟨Ru.sslice hT.h (iT hx) (iT hlo) (iT hhi) hl hh hb⟩
theorem iF {a b : Str}  (hx : sev τ x = Vs a := by exact rfl) (hy : sev τ y = Vs b := by exact rfl) (h : a.length + b.length <= 9223372036854775807 := by omega) : Rk P τ ⟨dst, .binOp .add T x y U, T', pos, after, g⟩ w (Vs (a ++ b)) := ⟨Ru.sadd (iT hx) (iT hy) h⟩
theorem cv {v : Value} {s : SV} {o : Oper} (h : Ru P (Sg τ) o w v) (e : v = s.val) : Rk P τ o w s := ⟨e ▸ h⟩
theorem Bx {k : Nat} {vs : List Value} (k9 : Nat) (is : List Nat) (h : ∀ w' b, w0.heap.size <= b -> Mem w0 w' R ([⟨.slice (bl b) 1 1, T, k, 1, vs⟩] :: M) -> den P n Q w' ⟨.o ops rest, K, up τ d (sx (.p (bl b) 0))⟩) (pre : Run k9 is (den P n Q w ⟨.o ops (⟨some d, .box T x, T', pos, after, g⟩ :: rest), K, τ⟩) p := by exact Go.Px.p9) (hg : gok ops (Sg τ) g = true := by exact rfl) (hM : Mem w0 w R M := by assumption) (hx : cls (sev τ x) = some vs := by exact rfl) (hk : vs.length = k := by exact rfl) (hd : Nat.blt d n = true := by exact rfl) : p := pre (O.mbox hM hg (gV x) (xO hx).1 hk hd λ w' b h1 h2 => by rw [show (Value.pointer (ofs (bl b) 0)) = (sx (.p (bl b) 0)).val from rfl, <- mR]; exact h w' b h1 h2)
theorem Al {k : Nat}  (k9 : Nat) (is : List Nat) (h : ∀ w' b, w0.heap.size <= b -> Mem w0 w' R ([⟨.slice (bl b) 1 1, T, k, 1, zs⟩] :: M) -> den P n Q w' ⟨.o ops rest, K, up τ d (sx (.p (bl b) 0))⟩) (pre : Run k9 is (den P n Q w ⟨.o ops (⟨some d, .alloc T, T', pos, after, g⟩ :: rest), K, τ⟩) p := by exact Go.Px.p9) (he : ElC P T zs bytes agg := by exact inferInstance) (hg : gok ops (Sg τ) g = true := by exact rfl) (hM : Mem w0 w R M := by assumption) (hk : zs.length = k := by exact rfl) (hd : Nat.blt d n = true := by exact rfl) : p := pre (O.malloc hM hg hd he.h hk λ w' b h1 h2 => by rw [show (Value.pointer (ofs (bl b) 0)) = (sx (.p (bl b) 0)).val from rfl, <- mR]; exact h w' b h1 h2)
theorem Lt {len sz : Nat} {parts : List (Nat × Operand)} {ps : List (Nat × Value)}   (k9 : Nat) (is : List Nat) (cs : List Value) (h : ∀ w' b, w0.heap.size <= b -> Mem w0 w' R ([⟨.slice (bl b) len len, e, sz, len, cs⟩] :: M) -> den P n Q w' ⟨.o ops rest, K, up τ d (sx (.sl (bl b) len len))⟩) (pre : Run k9 is (den P n Q w ⟨.o ops (⟨some d, .buildSlice T len parts.toArray, T', pos, after, g⟩ :: rest), K, τ⟩) p := by exact Go.Px.p9) (hT : UnC P T (.slice e) := by exact inferInstance) (he : ElC P e zs bytes agg := by exact inferInstance) (hg : gok ops (Sg τ) g = true := by exact rfl) (hM : Mem w0 w R M := by assumption) (hp : evp (Sg τ) parts = ps := by exact rfl) (hd : Nat.blt d n = true := by exact rfl) (hsz : zs.length = sz := by exact rfl) (hsm : Nat.ble (len * zs.length) 16777216 = true := by exact rfl) (hc : aEh zs len ps = some cs.toArray := by kernel_rfl) (hl : cs.length = len * sz := by exact rfl) (hl2 : Nat.ble len 16777216 = true := by exact rfl) : p := pre (O.mlit hM hg hT.h he.h hsz hp hd hsm hc hl hl2 λ w' b h1 h2 => by rw [show (Value.slice (bl b) len len) = (sx (.sl (bl b) len len)).val from rfl, <- mR]; exact h w' b h1 h2)
theorem Sb {A : Option Addr} {m c k sz : Nat} {vs xs xs' : List Value} {M' : List (List FE)}  (k9 : Nat) (is : List Nat) (i : Nat) (h : ∀ w', Mem w0 w' R M' -> den P n Q w' ⟨.o ops rest, K, τ⟩) (pre : Run k9 is (den P n Q w ⟨.o ops (⟨none, .store T x y, T', pos, after, g⟩ :: rest), K, τ⟩) p := by exact Go.Px.p9) (he : ElC P T zs bytes agg := by exact inferInstance) (hg : gok ops (Sg τ) g = true := by exact rfl) (hM : Mem w0 w R M := by assumption) (hx : sev τ x = Vp A k := by exact rfl) (hi : M[i]? = some [⟨.slice A m c, t, sz, m, xs⟩] := by exact rfl) (hy : cls (sev τ y) = some vs := by exact rfl) (hvl : vs.length = zs.length := by exact rfl) (hk : Nat.ble (k + vs.length) xs.length = true := by exact rfl) (h0 : Nat.blt 0 vs.length = true := by exact rfl) (hq : Nf (spl xs k vs) xs' := by exact Go.Px.n9) (hM' : Nf (M.set i [⟨.slice A m c, t, sz, m, xs'⟩]) M' := by exact Go.Px.n9) : p := pre (O.mstore i 0 hM hi rfl hg he.h (iT hx) (gV y) (xO hy).1 hvl (xO hy).2 (Nat.le_of_ble_eq_true hk) (by simpa using h0) hq.h hM'.h h)
theorem sX {A : Option Addr} {m c k sz : Nat} {vs xs : List Value} {M' : List (List FE)}  (k9 : Nat) (is : List Nat) (i : Nat) (xs' : List Value) (pre : Run k9 is (den P n Q w ⟨.o ops (⟨none, .store T x y, T', pos, after, g⟩ :: rest), K, τ⟩) p := by exact Go.Px.p9) (he : ElC P T zs bytes agg := by exact inferInstance) (hg : gok ops (Sg τ) g = true := by exact rfl) (hM : Mem w0 w R M := by assumption) (hx : sev τ x = Vp A k := by exact rfl) (hi : M[i]? = some [⟨.slice A m c, t, sz, m, xs⟩] := by exact rfl) (hy : cls (sev τ y) = some vs := by exact rfl) (hvl : vs.length = zs.length := by exact rfl) (h0 : Nat.blt 0 vs.length = true := by exact rfl) (hk : k + vs.length <= xs.length) (hq : spl xs k vs = xs') (hM' : Nf (M.set i [⟨.slice A m c, t, sz, m, xs'⟩]) M' := by exact Go.Px.n9) (h : ∀ w', Mem w0 w' R M' -> den P n Q w' ⟨.o ops rest, K, τ⟩) : p := pre (O.mstore i 0 hM hi rfl hg he.h (iT hx) (gV y) (xO hy).1 hvl (xO hy).2 hk (by simpa using h0) hq hM'.h h)
theorem sM {α : Type} {f : α -> Value} {l : List α} {a : α} {A : Option Addr} {m c j : Nat} {M' : List (List FE)}  (k9 : Nat) (is : List Nat) (i : Nat) (hj : j < l.length) (h : ∀ w', Mem w0 w' R M' -> den P n Q w' ⟨.o ops rest, K, τ⟩) (pre : Run k9 is (den P n Q w ⟨.o ops (⟨none, .store T x y, T', pos, after, g⟩ :: rest), K, τ⟩) p := by exact Go.Px.p9) (he : ElC P T zs bytes agg := by exact inferInstance) (hg : gok ops (Sg τ) g = true := by exact rfl) (hM : Mem w0 w R M := by assumption) (hi : M[i]? = some [⟨.slice A m c, t, 1, m, l.map f⟩] := by exact rfl) (hx : sev τ x = Vp A (j * 1) := by exact rfl) (hy : ev (Sg τ) y = f a := by exact rfl) (hv : (f a).cells = [f a].toArray := by exact rfl) (hz : zs.length = 1 := by exact rfl) (h1 : ([f a].all one) = true := by exact rfl) (hM' : Nf (M.set i [⟨.slice A m c, t, 1, m, (l.set j a).map f⟩]) M' := by exact Go.Px.n9) : p := pre (O.mstore (vs := [f a]) i 0 hM hi rfl hg he.h (iT hx) hy hv hz.symm h1 t13 t11 (wX hj) hM'.h h)
theorem sF {α : Type} {enc : α -> List Value} {nn : Nat}  {l : List α} {A : Option Addr} {m c j : Nat} {M' : List (List FE)}  (k9 : Nat) (is : List Nat) (i : Nat) (a : α) (hj : j < l.length) (h : ∀ w', Mem w0 w' R M' -> den P n Q w' ⟨.o ops rest, K, τ⟩) (pre : Run k9 is (den P n Q w ⟨.o ops (⟨none, .store T x y, T', pos, after, g⟩ :: rest), K, τ⟩) p := by exact Go.Px.p9) (he : ElC P T zs bytes agg := by exact inferInstance) (hg : gok ops (Sg τ) g = true := by exact rfl) (hM : Mem w0 w R M := by assumption) (hi : M[i]? = some [⟨.slice A m c, t, nn, m, l.flatMap enc⟩] := by exact rfl) (hl : EnL enc nn := by exact inferInstance) (hx : sev τ x = Vp A (j * nn) := by exact rfl) (hy : ev (Sg τ) y = .agg (enc a).toArray := by exact rfl) (hz : zs.length = nn := by exact rfl) (h1 : ((enc a).all one) = true := by exact rfl) (h0 : Nat.blt 0 nn = true := by exact rfl) (hM' : Nf (M.set i [⟨.slice A m c, t, nn, m, (l.set j a).flatMap enc⟩]) M' := by exact Go.Px.n9) : p := pre (O.mstore (vs := enc a) i 0 hM hi rfl hg he.h (iT hx) hy rfl ((hl.h a).trans hz.symm) h1 (by have := aNt (o := 0) (m := nn) hl.h hj t1; rw [hl.h]; omega) (by rw [hl.h]; simpa using h0) (aPd hl.h hj) hM'.h h)
theorem aM {α : Type} {f : α -> Value} {l l2 : List α} {A A2 : Option Addr} {m k c c2 : Nat} {M1 M2 : List (List FE)}   (k9 : Nat) (is : List Nat) (i : Nat) (hr : Rd w A2 (l2.map f)) (h : ∀ w' A' c', (l ++ l2).length <= c' -> Mem w0 w' R (M1 ++ ([⟨.slice A' (l ++ l2).length c', e, 1, (l ++ l2).length, (l ++ l2).map f⟩] :: M2)) -> den P n Q w' ⟨.o ops rest, K, up τ d (sx (Go.Px.At.sl A' (l ++ l2).length c'))⟩) (pre : Run k9 is (den P n Q w ⟨.o ops (⟨some d, .call ⟨.builtin .append, #[x, y], #[t, t]⟩, T', pos, after, g⟩ :: rest), K, τ⟩) p := by exact Go.Px.p9) (hT : UnC P t (.slice e) := by exact inferInstance) (he : ElC P e zs bytes agg := by exact inferInstance) (hg : gok ops (Sg τ) g = true := by exact rfl) (hM : Mem w0 w R M := by assumption) (hi : M[i]? = some [⟨.slice A m c, e, 1, m, l.map f⟩] := by exact rfl) (hx : sev τ x = Vl A m c := by exact rfl) (hy : sev τ y = Vl A2 k c2 := by exact rfl) (hd : Nat.blt d n = true := by exact rfl) (h1 : Nf (M.take i) M1 := by exact Go.Px.n9) (h2 : Nf (M.drop (i + 1)) M2 := by exact Go.Px.n9) (hz : zs.length = 1 := by exact rfl) (h0 : Nat.blt 0 1 = true := by exact rfl) (hf : ∀ a, one (f a) = true := by exact λ _ => rfl) (hl : l2.length = k := by first | rfl | (simp; done) | (simp; omega)) (hn : m + k <= 1152921504606846976 := by first | omega | (simp; omega)) (hb : (m + k) * bytes <= 140737488355328 := by first | omega | (simp; omega)) (hm : m + k = (l ++ l2).length := by first | (simp; done) | (simp; omega)) : p := pre (O.mappend i 0 hM hi rfl hg hT.h he.h ⟨hz, t19⟩ (iT hx) (iT hy) hd hr (by simp [hl]) (jU (λ _ => hf _) _) hn hb hm (show l.map f ++ l2.map f = (l ++ l2).map f by simp) (λ A' c' => wW hi h1.h h2.h) λ w' A' c' q1 q2 => by rw [show (Value.slice A' (l ++ l2).length c') = (sx (.sl A' (l ++ l2).length c')).val from rfl, <- mR]; exact h w' A' c' q1 q2)
theorem aM0 {α : Type} {f : α -> Value} {l2 : List α} {A A2 : Option Addr} {m k c c2 : Nat} {M1 M2 : List (List FE)}   (k9 : Nat) (is : List Nat) (i : Nat) (hr : Rd w A2 (l2.map f)) (h : ∀ w' A' c', (l2).length <= c' -> Mem w0 w' R (M1 ++ ([⟨.slice A' (l2).length c', e, 1, (l2).length, l2.map f⟩] :: M2)) -> den P n Q w' ⟨.o ops rest, K, up τ d (sx (Go.Px.At.sl A' (l2).length c'))⟩) (pre : Run k9 is (den P n Q w ⟨.o ops (⟨some d, .call ⟨.builtin .append, #[x, y], #[t, t]⟩, T', pos, after, g⟩ :: rest), K, τ⟩) p := by exact Go.Px.p9) (hT : UnC P t (.slice e) := by exact inferInstance) (he : ElC P e zs bytes agg := by exact inferInstance) (hg : gok ops (Sg τ) g = true := by exact rfl) (hM : Mem w0 w R M := by assumption) (hi : M[i]? = some [⟨.slice A m c, e, 1, m, []⟩] := by exact rfl) (hx : sev τ x = Vl A m c := by exact rfl) (hy : sev τ y = Vl A2 k c2 := by exact rfl) (hd : Nat.blt d n = true := by exact rfl) (h1 : Nf (M.take i) M1 := by exact Go.Px.n9) (h2 : Nf (M.drop (i + 1)) M2 := by exact Go.Px.n9) (hz : zs.length = 1 := by exact rfl) (h0 : Nat.blt 0 1 = true := by exact rfl) (hf : ∀ a, one (f a) = true := by exact λ _ => rfl) (hl : l2.length = k := by first | rfl | (simp; done) | (simp; omega)) (hn : m + k <= 1152921504606846976 := by first | omega | (simp; omega)) (hb : (m + k) * bytes <= 140737488355328 := by first | omega | (simp; omega)) (hm : m + k = (l2).length := by first | (simp; done) | (simp; omega)) : p := pre (O.mappend i 0 hM hi rfl hg hT.h he.h ⟨hz, t19⟩ (iT hx) (iT hy) hd hr (by simp [hl]) (jU (λ _ => hf _) _) hn hb hm (rfl) (λ A' c' => wW hi h1.h h2.h) λ w' A' c' q1 q2 => by rw [show (Value.slice A' (l2).length c') = (sx (.sl A' (l2).length c')).val from rfl, <- mR]; exact h w' A' c' q1 q2)
theorem aF {α : Type} {enc : α -> List Value} {nn : Nat}  {l l2 : List α} {A A2 : Option Addr} {m k c c2 : Nat} {M1 M2 : List (List FE)}   (k9 : Nat) (is : List Nat) (i : Nat) (hr : Rd w A2 (l2.flatMap enc)) (h : ∀ w' A' c', (l ++ l2).length <= c' -> Mem w0 w' R (M1 ++ ([⟨.slice A' (l ++ l2).length c', e, nn, (l ++ l2).length, (l ++ l2).flatMap enc⟩] :: M2)) -> den P n Q w' ⟨.o ops rest, K, up τ d (sx (Go.Px.At.sl A' (l ++ l2).length c'))⟩) (pre : Run k9 is (den P n Q w ⟨.o ops (⟨some d, .call ⟨.builtin .append, #[x, y], #[t, t]⟩, T', pos, after, g⟩ :: rest), K, τ⟩) p := by exact Go.Px.p9) (hT : UnC P t (.slice e) := by exact inferInstance) (he : ElC P e zs bytes agg := by exact inferInstance) (hg : gok ops (Sg τ) g = true := by exact rfl) (hM : Mem w0 w R M := by assumption) (hi : M[i]? = some [⟨.slice A m c, e, nn, m, l.flatMap enc⟩] := by exact rfl) (hE : EnL enc nn := by exact inferInstance) (hx : sev τ x = Vl A m c := by exact rfl) (hy : sev τ y = Vl A2 k c2 := by exact rfl) (hd : Nat.blt d n = true := by exact rfl) (h1 : Nf (M.take i) M1 := by exact Go.Px.n9) (h2 : Nf (M.drop (i + 1)) M2 := by exact Go.Px.n9) (hz : zs.length = nn := by exact rfl) (h0 : Nat.blt 0 nn = true := by exact rfl) (hf : ∀ a, (enc a).all one = true := by exact λ _ => rfl) (hl : l2.length = k := by first | rfl | (simp; done) | (simp; omega)) (hn : m + k <= 1152921504606846976 := by first | omega | (simp; omega)) (hb : (m + k) * bytes <= 140737488355328 := by first | omega | (simp; omega)) (hm : m + k = (l ++ l2).length := by first | (simp; done) | (simp; omega)) : p := pre (O.mappend i 0 hM hi rfl hg hT.h he.h ⟨hz, by simpa using h0⟩ (iT hx) (iT hy) hd hr (by rw [kX hE.h, hl]) (jG (λ _ => hf _) _) hn hb hm (show l.flatMap enc ++ l2.flatMap enc = (l ++ l2).flatMap enc by simp) (λ A' c' => wW hi h1.h h2.h) λ w' A' c' q1 q2 => by rw [show (Value.slice A' (l ++ l2).length c') = (sx (.sl A' (l ++ l2).length c')).val from rfl, <- mR]; exact h w' A' c' q1 q2)
theorem aF0 {α : Type} {enc : α -> List Value} {nn : Nat}  {l2 : List α} {A A2 : Option Addr} {m k c c2 : Nat} {M1 M2 : List (List FE)}   (k9 : Nat) (is : List Nat) (i : Nat) (hr : Rd w A2 (l2.flatMap enc)) (h : ∀ w' A' c', (l2).length <= c' -> Mem w0 w' R (M1 ++ ([⟨.slice A' (l2).length c', e, nn, (l2).length, l2.flatMap enc⟩] :: M2)) -> den P n Q w' ⟨.o ops rest, K, up τ d (sx (Go.Px.At.sl A' (l2).length c'))⟩) (pre : Run k9 is (den P n Q w ⟨.o ops (⟨some d, .call ⟨.builtin .append, #[x, y], #[t, t]⟩, T', pos, after, g⟩ :: rest), K, τ⟩) p := by exact Go.Px.p9) (hT : UnC P t (.slice e) := by exact inferInstance) (he : ElC P e zs bytes agg := by exact inferInstance) (hg : gok ops (Sg τ) g = true := by exact rfl) (hM : Mem w0 w R M := by assumption) (hi : M[i]? = some [⟨.slice A m c, e, nn, m, []⟩] := by exact rfl) (hE : EnL enc nn := by exact inferInstance) (hx : sev τ x = Vl A m c := by exact rfl) (hy : sev τ y = Vl A2 k c2 := by exact rfl) (hd : Nat.blt d n = true := by exact rfl) (h1 : Nf (M.take i) M1 := by exact Go.Px.n9) (h2 : Nf (M.drop (i + 1)) M2 := by exact Go.Px.n9) (hz : zs.length = nn := by exact rfl) (h0 : Nat.blt 0 nn = true := by exact rfl) (hf : ∀ a, (enc a).all one = true := by exact λ _ => rfl) (hl : l2.length = k := by first | rfl | (simp; done) | (simp; omega)) (hn : m + k <= 1152921504606846976 := by first | omega | (simp; omega)) (hb : (m + k) * bytes <= 140737488355328 := by first | omega | (simp; omega)) (hm : m + k = (l2).length := by first | (simp; done) | (simp; omega)) : p := pre (O.mappend i 0 hM hi rfl hg hT.h he.h ⟨hz, by simpa using h0⟩ (iT hx) (iT hy) hd hr (by rw [kX hE.h, hl]) (jG (λ _ => hf _) _) hn hb hm (rfl) (λ A' c' => wW hi h1.h h2.h) λ w' A' c' q1 q2 => by rw [show (Value.slice A' (l2).length c') = (sx (.sl A' (l2).length c')).val from rfl, <- mR]; exact h w' A' c' q1 q2)
theorem cp {f : FuncId} {args : List Operand} {ts : Array TypeId} {vs : List Value}  {X : Value} (k9 : Nat) (is : List Nat)  (pre : Run k9 is (den P n Q w ⟨.o ops (⟨some d, .call ⟨.value (.func f), args.toArray, ts⟩, T', pos, after, g⟩ :: rest), K, τ⟩) p := by exact Go.Px.p9) (he : EnC P f := by exact inferInstance) (hg : gok ops (Sg τ) g = true := by exact rfl) (hvs : evs (Sg τ) args = vs := by exact rfl) (hd : Nat.blt d n = true := by exact rfl) (hM : Mem w0 w R M := by assumption) (b : aR P f vs w λ v w1 => v = X /\ Mem w w1 [] []) (c : ∀ w1, Mem w0 w1 R M -> den P n Q w1 ⟨.o ops rest, K, up τ d (qJ X)⟩) : p := pre (O.callg vs hg he.h hvs hd b λ v w1 ⟨e, h1⟩ => by subst e; rw [aDj]; exact c w1 (Mem.call0 hM h1))
theorem cq {f : FuncId} {args : List Operand} {ts : Array TypeId} {vs : List Value}  {X : Value -> World -> Prop} (k9 : Nat) (is : List Nat)  (pre : Run k9 is (den P n Q w ⟨.o ops (⟨some d, .call ⟨.value (.func f), args.toArray, ts⟩, T', pos, after, g⟩ :: rest), K, τ⟩) p := by exact Go.Px.p9) (he : EnC P f := by exact inferInstance) (hg : gok ops (Sg τ) g = true := by exact rfl) (hvs : evs (Sg τ) args = vs := by exact rfl) (hd : Nat.blt d n = true := by exact rfl) (b : aR P f vs w X) (c : ∀ v w1, X v w1 -> den P n Q w1 ⟨.o ops rest, K, up τ d (qJ v)⟩) : p := pre (O.callg vs hg he.h hvs hd b λ v w1 h => by rw [aDj]; exact c v w1 h)
theorem qc {f : FuncId} {args : List Operand} {ts : Array TypeId} {vs : List Value}  {S : World -> Prop} {X : Value} (k9 : Nat) (is : List Nat)  (pre : Run k9 is (den P n Q w ⟨.y S ops (⟨some d, .call ⟨.value (.func f), args.toArray, ts⟩, T', pos, after, g⟩ :: rest), K, τ⟩) p := by exact Go.Px.p9) (he : EnC P f := by exact inferInstance) (hg : gok ops (Sg τ) g = true := by exact rfl) (hvs : evs (Sg τ) args = vs := by exact rfl) (hd : Nat.blt d n = true := by exact rfl) (b : ∀ w, S w -> aR P f vs w λ v w1 => v = X /\ S w1) (c : den P n Q w ⟨.y S ops rest, K, up τ d (qJ X)⟩) : p := pre (QO.callg vs hg he.h hvs hd b (by rw [aDj]; exact c))
theorem cd {cx cy : Code} {q : Prop} {inst : Decidable q} (k9 : Nat) (is : List Nat) (ht : q -> den P n Q w ⟨.c cx, K, τ⟩) (hf : ¬ q -> den P n Q w ⟨.c cy, K, τ⟩) (pre : Run k9 is (den P n Q w ⟨.c (.cond x cx cy), K, τ⟩) p := by exact Go.Px.p9) (hc : ev (Sg τ) x = .bool (@decide q inst) := by exact rfl) : p := pre (C.cond hc ht hf)
theorem cn {cx cy : Code} {b : Bool} (k9 : Nat) (is : List Nat) (ht : b = false -> den P n Q w ⟨.c cx, K, τ⟩) (hf : b = true -> den P n Q w ⟨.c cy, K, τ⟩) (pre : Run k9 is (den P n Q w ⟨.c (.cond x cx cy), K, τ⟩) p := by exact Go.Px.p9) (hc : ev (Sg τ) x = .bool (!b) := by exact rfl) : p := pre (C.condn hc ht hf)
theorem cb {cx cy : Code} {b : Bool} (k9 : Nat) (is : List Nat) (ht : b = true -> den P n Q w ⟨.c cx, K, τ⟩) (hf : b = false -> den P n Q w ⟨.c cy, K, τ⟩) (pre : Run k9 is (den P n Q w ⟨.c (.cond x cx cy), K, τ⟩) p := by exact Go.Px.p9) (hc : ev (Sg τ) x = .bool b := by exact rfl) : p := pre (C.condb hc ht hf)
theorem upB (τ : Fm) (d : Nat) (b : Bool) : Sg (up τ d (Vb b)) = upd (Sg τ) d (.bool b) := mR _ _ _
theorem pp {l : List Oper}  {q : Prop} {inst : Decidable q} (k9 : Nat) (is : List Nat) (d : Nat) (ht : q -> den P n Q w ⟨.o ops l, K, up τ d (Vb true)⟩) (hf : ¬ q -> den P n Q w ⟨.o ops l, K, up τ d (Vb false)⟩) (pre : Run k9 is (den P n Q w ⟨.o ops l, K, τ⟩) p := by exact Go.Px.p9) (hb : Sg τ d = .bool (@decide q inst) := by exact rfl) : p := pre (O.partp d q hb (λ h => by rw [<- upB]; exact ht h) (λ h => by rw [<- upB]; exact hf h))
theorem pt {l : List Oper}  {b : Bool} (k9 : Nat) (is : List Nat) (d : Nat) (ht : b = true -> den P n Q w ⟨.o ops l, K, up τ d (Vb true)⟩) (hf : b = false -> den P n Q w ⟨.o ops l, K, up τ d (Vb false)⟩) (pre : Run k9 is (den P n Q w ⟨.o ops l, K, τ⟩) p := by exact Go.Px.p9) (hb : Sg τ d = .bool b := by exact rfl) : p := pre (O.part d b hb (λ h => by rw [<- upB]; exact ht h) (λ h => by rw [<- upB]; exact hf h))
theorem qp {l : List Oper} {S : World -> Prop} {q : Prop} {inst : Decidable q} (k9 : Nat) (is : List Nat) (d : Nat) (ht : q -> den P n Q w ⟨.y S ops l, K, up τ d (Vb true)⟩) (hf : ¬ q -> den P n Q w ⟨.y S ops l, K, up τ d (Vb false)⟩) (pre : Run k9 is (den P n Q w ⟨.y S ops l, K, τ⟩) p := by exact Go.Px.p9) (hb : Sg τ d = .bool (@decide q inst) := by exact rfl) : p := pre (QO.partp d q hb (λ h => by rw [<- upB]; exact ht h) (λ h => by rw [<- upB]; exact hf h))
theorem qt {l : List Oper} {S : World -> Prop} {b : Bool} (k9 : Nat) (is : List Nat) (d : Nat) (ht : b = true -> den P n Q w ⟨.y S ops l, K, up τ d (Vb true)⟩) (hf : b = false -> den P n Q w ⟨.y S ops l, K, up τ d (Vb false)⟩) (pre : Run k9 is (den P n Q w ⟨.y S ops l, K, τ⟩) p := by exact Go.Px.p9) (hb : Sg τ d = .bool b := by exact rfl) : p := pre (QO.part d b hb (λ h => by rw [<- upB]; exact ht h) (λ h => by rw [<- upB]; exact hf h))
theorem any {id : Nat} {l : List Oper} {N : List (List FE)}  (k9 : Nat) (is : List Nat) (f : Nat) (io : List Nat) (h : ∀ w1, Mem w0 w1 R M -> den P n Q w1 ⟨.a (λ w2 => Mem w0 w2 R N) l f (List.replicate f false), K, τ⟩) (pre : Run k9 is (den P n Q w ⟨.c (.region id l.toArray true), K, τ⟩) p := by exact Go.Px.p9) (hX : MxC P := by exact inferInstance) (hM : Mem w0 w R M := by assumption) (hf : l.length = f := by exact rfl) (hp : Pk M io N := by exact Go.Px.z9) (hn : io.Nodup := by decide) : p := pre (C.any (λ w2 => Mem w0 w2 R N) hX.h hf rfl (λ w2 hw2 => iS.ext (hp.mem hn hM) hw2) λ w1 h1 => h w1 (iS.ext hM h1))
theorem dr {id : Nat} {l : List Oper}  (k9 : Nat) (is : List Nat) (h : den P n Q w ⟨.y (λ w2 => Mem w0 w2 R M) l l, K, τ⟩) (pre : Run k9 is (den P n Q w ⟨.c (.region id l.toArray true), K, τ⟩) p := by exact Go.Px.p9) (hX : MxC P := by exact inferInstance) (hM : Mem w0 w R M := by assumption) (hB : Region.lexB .any l.toArray = true := by kernel_rfl) : p := pre (C.draws (λ w2 => Mem w0 w2 R M) hX.h hB (hM.ext (aOd _)) h)
theorem qn {ct : Ct} {K' : List Fk} (k9 : Nat) (is : List Nat) (h : ∀ w', Mem w0 w' R M -> den P n Q w' ⟨ct, K', τ⟩) (pre : Run k9 is (den P n Q w ⟨.y (λ w2 => Mem w0 w2 R M) ops [], K, τ⟩) p := by exact Go.Px.p9) (hp : pop .normal K = (ct, K') := by exact rfl) : p := pre (QO.nil λ w' hw => vM hp (h w' hw))
theorem an {S : World -> Prop} {f : Nat} {ls : List Bool} {ct : Ct} {K' : List Fk} (ix is : List Nat) (h : den P n Q w ⟨ct, K', τ⟩) (pre : nA ix is (den P n Q w ⟨.a S ops f ls, K, τ⟩) p := by exact Go.Px.q9) (hr : Region.ready .any ops.toArray ls.toArray = [] := by kernel_rfl) (hp : pop .normal K = (ct, K') := by exact rfl) : p := pre (AO.nil hr (vM hp h))
theorem aO {S : World -> Prop} {f : Nat} {ls : List Bool} {o : Oper} (ix is : List Nat) (i : Nat) (h : den P n (lS λ σ' w' => S w' /\ AO P n ops S (λ σ w => itp P n K Q .normal σ w) f (ls.set i true) σ' w') w ⟨.o ops [o], [], τ⟩) (pre : nA ix is (den P n Q w ⟨.a S ops (f + 1) ls, K, τ⟩) p := by exact Go.Px.q9) (hr : Region.ready .any ops.toArray ls.toArray = [i] := by kernel_rfl) (hi : nth ops i = some o := by exact rfl) : p := pre (AO.one i hr ⟨o, hi, h⟩)
theorem aT {S : World -> Prop} {f : Nat} {ls : List Bool} {o o2 : Oper} (ix is : List Nat) (i j : Nat) (h : den P n (lS λ σ' w' => S w' /\ AO P n ops S (λ σ w => itp P n K Q .normal σ w) f (ls.set i true) σ' w') w ⟨.o ops [o], [], τ⟩) (h2 : den P n (lS λ σ' w' => S w' /\ AO P n ops S (λ σ w => itp P n K Q .normal σ w) f (ls.set j true) σ' w') w ⟨.o ops [o2], [], τ⟩) (pre : nA ix is (den P n Q w ⟨.a S ops (f + 1) ls, K, τ⟩) p := by exact Go.Px.q9) (hr : Region.ready .any ops.toArray ls.toArray = [i, j] := by kernel_rfl) (hi : nth ops i = some o := by exact rfl) (hi2 : nth ops j = some o2 := by exact rfl) : p := pre (AO.two i j hr ⟨o, hi, h⟩ ⟨o2, hi2, h2⟩)
theorem aH {S : World -> Prop} {f : Nat} {ls : List Bool} {o o2 o3 : Oper} (ix is : List Nat) (i j k : Nat) (h : den P n (lS λ σ' w' => S w' /\ AO P n ops S (λ σ w => itp P n K Q .normal σ w) f (ls.set i true) σ' w') w ⟨.o ops [o], [], τ⟩) (h2 : den P n (lS λ σ' w' => S w' /\ AO P n ops S (λ σ w => itp P n K Q .normal σ w) f (ls.set j true) σ' w') w ⟨.o ops [o2], [], τ⟩) (h3 : den P n (lS λ σ' w' => S w' /\ AO P n ops S (λ σ w => itp P n K Q .normal σ w) f (ls.set k true) σ' w') w ⟨.o ops [o3], [], τ⟩) (pre : nA ix is (den P n Q w ⟨.a S ops (f + 1) ls, K, τ⟩) p := by exact Go.Px.q9) (hr : Region.ready .any ops.toArray ls.toArray = [i, j, k] := by kernel_rfl) (hi : nth ops i = some o := by exact rfl) (hi2 : nth ops j = some o2 := by exact rfl) (hi3 : nth ops k = some o3 := by exact rfl) : p := pre (AO.three i j k hr ⟨o, hi, h⟩ ⟨o2, hi2, h2⟩ ⟨o3, hi3, h3⟩)
theorem os {f : Nat} {ls : List Bool} {N : List (List FE)} (k9 : Nat) (is : List Nat) (io : List Nat) (h : den P n Q w ⟨.a (λ w2 => Mem w0 w2 R N) ops f ls, K, τ⟩) (pre : Run k9 is (den P n (lS λ σ' w' => Mem w0 w' R N /\ AO P n ops (λ w2 => Mem w0 w2 R N) (λ σ w => itp P n K Q .normal σ w) f ls σ' w') w ⟨.o ops [], [], τ⟩) p := by exact Go.Px.p9) (hM : Mem w0 w R M := by assumption) (hp : Pk M io N := by exact Go.Px.z9) (hn : io.Nodup := by decide) : p := pre (O.nil ⟨hp.mem hn hM, h⟩)
def isNR : Exit -> Bool
 | .normal => true
 | .ret => true
 | _ => false
theorem E1 {e9 : Exit} {t : Nat} {X : Value -> World -> Prop} (k9 : Nat) (is : List Nat) (v : Value) (h : X v w) (pre : Run k9 is (den P n (post1 t X) w ⟨.q e9, [], τ⟩) p := by exact Go.Px.p9) (he : isNR e9 = true := by exact rfl) (hv : Sg τ t = v := by exact rfl) : p := pre (by cases e9 <;> first | exact (P1 hv h) | cases he)
theorem E2 {e9 : Exit} {t u : Nat} {X : Value -> World -> Prop} (k9 : Nat) (is : List Nat) (v v' : Value) (h : X (.tuple #[v, v']) w) (pre : Run k9 is (den P n (post2 t u X) w ⟨.q e9, [], τ⟩) p := by exact Go.Px.p9) (he : isNR e9 = true := by exact rfl) (hv : Sg τ t = v := by exact rfl) (hv' : Sg τ u = v' := by exact rfl) : p := pre (by cases e9 <;> first | exact (P2 hv hv' h) | cases he)
theorem E0 {e9 : Exit} {X : Value -> World -> Prop} (k9 : Nat) (is : List Nat) (h : X (.tuple #[]) w) (pre : Run k9 is (den P n (post0 X) w ⟨.q e9, [], τ⟩) p := by exact Go.Px.p9) (he : isNR e9 = true := by exact rfl) : p := pre (by cases e9 <;> first | exact (P0 h) | cases he)
theorem EG {e9 : Exit} {rs : List ResultVar} {X : Value -> World -> Prop} (k9 : Nat) (is : List Nat) (h : RetG P rs X (Sg τ) w) (pre : Run k9 is (den P n (postG P rs X) w ⟨.q e9, [], τ⟩) p := by exact Go.Px.p9) (he : isNR e9 = true := by exact rfl) : p := pre (by cases e9 <;> first | exact h | cases he)
theorem aR.n1 {f : FuncId} {fn : Func} {c : Code} {t : Nat} {vs : List Value} {X : Value -> World -> Prop} (hf : P.funcs[f]? = some fn) (hb : fn.body = some c) (hr : fn.results = #[.tmp t]) (hn : fn.ntmps = n) (hl : Nat.ble vs.length n = true) (h : den P n (post1 t X) w ⟨.c c, [], lf (arg vs)⟩) : aR P f vs w X := aR.enter1 hf hb hr hn hl (by rw [<- lG (arg vs)]; exact h)
theorem aR.n2 {f : FuncId} {fn : Func} {c : Code} {t u : Nat} {vs : List Value} {X : Value -> World -> Prop} (hf : P.funcs[f]? = some fn) (hb : fn.body = some c) (hr : fn.results = #[.tmp t, .tmp u]) (hn : fn.ntmps = n) (hl : Nat.ble vs.length n = true) (h : den P n (post2 t u X) w ⟨.c c, [], lf (arg vs)⟩) : aR P f vs w X := aR.enter2 hf hb hr hn hl (by rw [<- lG (arg vs)]; exact h)
theorem aR.n0 {f : FuncId} {fn : Func} {c : Code}  {vs : List Value} {X : Value -> World -> Prop} (hf : P.funcs[f]? = some fn) (hb : fn.body = some c) (hr : fn.results = #[]) (hn : fn.ntmps = n) (hl : Nat.ble vs.length n = true) (h : den P n (post0 X) w ⟨.c c, [], lf (arg vs)⟩) : aR P f vs w X := aR.enter0 hf hb hr hn hl (by rw [<- lG (arg vs)]; exact h)
theorem aR.nG {f : FuncId} {fn : Func} {c : Code} {rs : List ResultVar} {vs : List Value} {X : Value -> World -> Prop} (hf : P.funcs[f]? = some fn) (hb : fn.body = some c) (hr : fn.results = rs.toArray) (hn : fn.ntmps = n) (hl : Nat.ble vs.length n = true) (h : den P n (postG P rs X) w ⟨.c c, [], lf (arg vs)⟩) : aR P f vs w X := aR.enterG hf hb hr hn hl (by rw [<- lG (arg vs)]; exact h)
variable {KS : List (Nat × SV)} {KN : List (List FE)} {c cx cy : Code} {m : Nat}
structure CE0 (L : List (Nat × SV)) (KS : List (Nat × SV)) (J : Prop) (N : List (List FE)) (KN : List (List FE)) (w0 : World) (R : List (Option Nat)) (σ : Sig) (w : World) : Prop where h : ∃ x : Unit, Has σ (vals (L ++ KS)) /\ (λ x w => J /\ Mem w0 w R (N ++ KN)) x w
theorem ct0  (k9 : Nat) (is : List Nat) (L : List (Nat × SV)) (J : Prop) (N : List (List FE)) (ks ik : List Nat) (h1 : den P n Q w ⟨.c cx, .nm (CE0 L KS J N KN w0 R) :: K, τ⟩) (h2 : ∀ (τ' : Fm) (w' : World), J -> Mem w0 w' R (N ++ KN) -> den P n Q w' ⟨.c cy, K, upl τ' (L ++ KS)⟩) (pre : Run k9 is (den P n Q w ⟨.c (.seq cx cy), K, τ⟩) p := by exact Go.Px.p9) (hM : Mem w0 w R M := by assumption) (hk : lZ τ ks = some KS := by exact rfl) (hr : Pk M ik KN := by exact Go.Px.z9) : p := pre (C.cut (ι := Unit) (λ x => vals (L ++ KS)) (λ x w => J /\ Mem w0 w R (N ++ KN)) (C.mono h1 λ e σ w hh => by cases e <;> first | exact hh.h | exact hh) (λ x σ' w' hI => by have h9 := h2  (lf σ') w' hI.1 hI.2; simp only [den, gQ, lG] at h9; exact h9))
theorem ce0 {L : List (Nat × SV)} {J : Prop} {N : List (List FE)} (k9 : Nat) (is : List Nat)  (io : List Nat) (pre : Run k9 is (den P n Q w ⟨.q .normal, .nm (CE0 L KS J N KN w0 R) :: K, τ⟩) p := by exact Go.Px.p9) (hM : Mem w0 w R M := by assumption) (hL : Has (Sg τ) (vals (L)) := by exact Go.Px.h9) (hK : KS.map (λ p => τ p.1) = KS.map (·.2) := by exact rfl) (hp : Pk M io (N ++ KN) := by exact Go.Px.z9) (hn : io.Nodup := by decide) (h : J) : p := pre (show CE0 L KS J N KN w0 R (Sg τ) w from ⟨(), eC hL (eK hK), h, hp.mem hn hM⟩)
structure LE1 {α0 : Type} (L : α0 -> List (Nat × SV)) (KS : List (Nat × SV)) (J : α0 -> Prop) (N : α0 -> List (List FE)) (KN : List (List FE)) (w0 : World) (R : List (Option Nat)) (μ : α0 -> Nat) (m : Nat) (σ : Sig) (w : World) : Prop where h : ∃ x : α0, μ x < m /\ Has σ (vals (L x ++ KS)) /\ (λ x w => J x /\ Mem w0 w R (N x ++ KN)) x w
structure CE1 {α0 : Type} (L : α0 -> List (Nat × SV)) (KS : List (Nat × SV)) (J : α0 -> Prop) (N : α0 -> List (List FE)) (KN : List (List FE)) (w0 : World) (R : List (Option Nat)) (σ : Sig) (w : World) : Prop where h : ∃ x : α0, Has σ (vals (L x ++ KS)) /\ (λ x w => J x /\ Mem w0 w R (N x ++ KN)) x w
theorem lp1 (k9 : Nat) (is : List Nat) (L : α0 -> List (Nat × SV)) (J : α0 -> Prop) (N : α0 -> List (List FE)) (μ : α0 -> Nat) (ks io ik : List Nat) (a0 : α0) (h : ∀ a0 (τ' : Fm) (w' : World), J a0 -> Mem w0 w' R (N a0 ++ KN) -> den P n Q w' ⟨.c c, .nm (LE1 L KS J N KN w0 R μ (μ a0)) :: K, upl τ' (L a0 ++ KS)⟩) (pre : Run k9 is (den P n Q w ⟨.c (.loop c), K, τ⟩) p := by exact Go.Px.p9) (hM : Mem w0 w R M := by assumption) (hk : lZ τ ks = some KS := by exact rfl) (hr : Pk M ik KN := by exact Go.Px.z9) (hN : Pk M io (N a0) := by exact Go.Px.z9) (hn : (io ++ ik).Nodup := by decide) (hL : Has (Sg τ) (vals (L a0)) := by exact Go.Px.h9) (h0 : J a0) : p := pre (C.loop (ι := α0) (λ x => vals (L x ++ KS)) (λ x w => J x /\ Mem w0 w R (N x ++ KN)) (λ x => μ x) a0 (eC hL (lR hk)) ⟨h0, (hN.app hr).mem hn hM⟩ (λ x σ' w' hI => by have h9 := h x (lf σ') w' hI.1 hI.2; simp only [den, gQ, lG] at h9; exact C.mono h9 λ e σ w hh => by cases e <;> first | exact hh.h | exact hh))
theorem le1 {L : α0 -> List (Nat × SV)} {J : α0 -> Prop} {N : α0 -> List (List FE)} {μ : α0 -> Nat} (k9 : Nat) (is : List Nat) (a0 : α0) (io : List Nat) (pre : Run k9 is (den P n Q w ⟨.q .normal, .nm (LE1 L KS J N KN w0 R μ m) :: K, τ⟩) p := by exact Go.Px.p9) (hM : Mem w0 w R M := by assumption) (hm : μ a0 < m := by (try dsimp only); omega) (hL : Has (Sg τ) (vals (L a0)) := by exact Go.Px.h9) (hK : KS.map (λ p => τ p.1) = KS.map (·.2) := by exact rfl) (hp : Pk M io (N a0 ++ KN) := by exact Go.Px.z9) (hn : io.Nodup := by decide) (h : J a0) : p := pre (show LE1 L KS J N KN w0 R μ m (Sg τ) w from ⟨a0, hm, eC hL (eK hK), h, hp.mem hn hM⟩)
theorem ct1 (k9 : Nat) (is : List Nat) (L : α0 -> List (Nat × SV)) (J : α0 -> Prop) (N : α0 -> List (List FE)) (ks ik : List Nat) (h1 : den P n Q w ⟨.c cx, .nm (CE1 L KS J N KN w0 R) :: K, τ⟩) (h2 : ∀ a0 (τ' : Fm) (w' : World), J a0 -> Mem w0 w' R (N a0 ++ KN) -> den P n Q w' ⟨.c cy, K, upl τ' (L a0 ++ KS)⟩) (pre : Run k9 is (den P n Q w ⟨.c (.seq cx cy), K, τ⟩) p := by exact Go.Px.p9) (hM : Mem w0 w R M := by assumption) (hk : lZ τ ks = some KS := by exact rfl) (hr : Pk M ik KN := by exact Go.Px.z9) : p := pre (C.cut (ι := α0) (λ x => vals (L x ++ KS)) (λ x w => J x /\ Mem w0 w R (N x ++ KN)) (C.mono h1 λ e σ w hh => by cases e <;> first | exact hh.h | exact hh) (λ x σ' w' hI => by have h9 := h2 x (lf σ') w' hI.1 hI.2; simp only [den, gQ, lG] at h9; exact h9))
theorem ce1 {L : α0 -> List (Nat × SV)} {J : α0 -> Prop} {N : α0 -> List (List FE)} (k9 : Nat) (is : List Nat) (a0 : α0) (io : List Nat) (pre : Run k9 is (den P n Q w ⟨.q .normal, .nm (CE1 L KS J N KN w0 R) :: K, τ⟩) p := by exact Go.Px.p9) (hM : Mem w0 w R M := by assumption) (hL : Has (Sg τ) (vals (L a0)) := by exact Go.Px.h9) (hK : KS.map (λ p => τ p.1) = KS.map (·.2) := by exact rfl) (hp : Pk M io (N a0 ++ KN) := by exact Go.Px.z9) (hn : io.Nodup := by decide) (h : J a0) : p := pre (show CE1 L KS J N KN w0 R (Sg τ) w from ⟨a0, eC hL (eK hK), h, hp.mem hn hM⟩)
theorem jn1 {S : World -> Prop} {f : Nat} {ls : List Bool} (ix is : List Nat) (L : α0 -> List (Nat × SV)) (N : α0 -> List (List FE)) (ks ik : List Nat) (fJ : Nat) (lsJ : List Bool) (h1 : (∀ a0 (τ' : Fm) (w' : World), Mem w0 w' R (N a0 ++ KN) -> den P n Q w' ⟨.a S ops fJ lsJ, K, upl τ' (L a0 ++ KS)⟩) -> den P n Q w ⟨.a S ops f ls, K, τ⟩) (h2 : ∀ a0 (τ' : Fm) (w' : World), Mem w0 w' R (N a0 ++ KN) -> den P n Q w' ⟨.a S ops fJ lsJ, K, upl τ' (L a0 ++ KS)⟩) (pre : nA ix is (den P n Q w ⟨.a S ops f ls, K, τ⟩) p := by exact Go.Px.q9) (hM : Mem w0 w R M := by assumption) (hk : lZ τ ks = some KS := by exact rfl) (hr : Pk M ik KN := by exact Go.Px.z9) : p := pre (h1 h2)
theorem jd1 {S : World -> Prop} {fJ : Nat} {lsJ : List Bool} {L : α0 -> List (Nat × SV)} {N : α0 -> List (List FE)} (ix is : List Nat) (J : ∀ a0 (τ' : Fm) (w' : World), Mem w0 w' R (N a0 ++ KN) -> den P n Q w' ⟨.a S ops fJ lsJ, K, upl τ' (L a0 ++ KS)⟩) (a0 : α0) (io : List Nat) (pre : nA ix is (den P n Q w ⟨.a S ops fJ lsJ, K, τ⟩) p := by exact Go.Px.q9) (hM : Mem w0 w R M := by assumption) (hL : Has (Sg τ) (vals (L a0)) := by exact Go.Px.h9) (hK : KS.map (λ p => τ p.1) = KS.map (·.2) := by exact rfl) (hp : Pk M io (N a0 ++ KN) := by exact Go.Px.z9) (hn : io.Nodup := by decide) : p := pre (by have h := J a0 τ w (hp.mem hn hM); simp only [den, gQ, mG (eC hL (eK hK))] at h; exact h)
structure LE2 {α0 α1 : Type} (L : α0 -> α1 -> List (Nat × SV)) (KS : List (Nat × SV)) (J : α0 -> α1 -> Prop) (N : α0 -> α1 -> List (List FE)) (KN : List (List FE)) (w0 : World) (R : List (Option Nat)) (μ : α0 -> α1 -> Nat) (m : Nat) (σ : Sig) (w : World) : Prop where h : ∃ x : α0 × α1, μ x.1 x.2 < m /\ Has σ (vals (L x.1 x.2 ++ KS)) /\ (λ x w => J x.1 x.2 /\ Mem w0 w R (N x.1 x.2 ++ KN)) x w
structure CE2 {α0 α1 : Type} (L : α0 -> α1 -> List (Nat × SV)) (KS : List (Nat × SV)) (J : α0 -> α1 -> Prop) (N : α0 -> α1 -> List (List FE)) (KN : List (List FE)) (w0 : World) (R : List (Option Nat)) (σ : Sig) (w : World) : Prop where h : ∃ x : α0 × α1, Has σ (vals (L x.1 x.2 ++ KS)) /\ (λ x w => J x.1 x.2 /\ Mem w0 w R (N x.1 x.2 ++ KN)) x w
theorem lp2 (k9 : Nat) (is : List Nat) (L : α0 -> α1 -> List (Nat × SV)) (J : α0 -> α1 -> Prop) (N : α0 -> α1 -> List (List FE)) (μ : α0 -> α1 -> Nat) (ks io ik : List Nat) (a0 : α0) (a1 : α1) (h : ∀ a0 a1 (τ' : Fm) (w' : World), J a0 a1 -> Mem w0 w' R (N a0 a1 ++ KN) -> den P n Q w' ⟨.c c, .nm (LE2 L KS J N KN w0 R μ (μ a0 a1)) :: K, upl τ' (L a0 a1 ++ KS)⟩) (pre : Run k9 is (den P n Q w ⟨.c (.loop c), K, τ⟩) p := by exact Go.Px.p9) (hM : Mem w0 w R M := by assumption) (hk : lZ τ ks = some KS := by exact rfl) (hr : Pk M ik KN := by exact Go.Px.z9) (hN : Pk M io (N a0 a1) := by exact Go.Px.z9) (hn : (io ++ ik).Nodup := by decide) (hL : Has (Sg τ) (vals (L a0 a1)) := by exact Go.Px.h9) (h0 : J a0 a1) : p := pre (C.loop (ι := α0 × α1) (λ x => vals (L x.1 x.2 ++ KS)) (λ x w => J x.1 x.2 /\ Mem w0 w R (N x.1 x.2 ++ KN)) (λ x => μ x.1 x.2) (a0, a1) (eC hL (lR hk)) ⟨h0, (hN.app hr).mem hn hM⟩ (λ x σ' w' hI => by have h9 := h x.1 x.2 (lf σ') w' hI.1 hI.2; simp only [den, gQ, lG] at h9; exact C.mono h9 λ e σ w hh => by cases e <;> first | exact hh.h | exact hh))
theorem le2 {L : α0 -> α1 -> List (Nat × SV)} {J : α0 -> α1 -> Prop} {N : α0 -> α1 -> List (List FE)} {μ : α0 -> α1 -> Nat} (k9 : Nat) (is : List Nat) (a0 : α0) (a1 : α1) (io : List Nat) (pre : Run k9 is (den P n Q w ⟨.q .normal, .nm (LE2 L KS J N KN w0 R μ m) :: K, τ⟩) p := by exact Go.Px.p9) (hM : Mem w0 w R M := by assumption) (hm : μ a0 a1 < m := by (try dsimp only); omega) (hL : Has (Sg τ) (vals (L a0 a1)) := by exact Go.Px.h9) (hK : KS.map (λ p => τ p.1) = KS.map (·.2) := by exact rfl) (hp : Pk M io (N a0 a1 ++ KN) := by exact Go.Px.z9) (hn : io.Nodup := by decide) (h : J a0 a1) : p := pre (show LE2 L KS J N KN w0 R μ m (Sg τ) w from ⟨(a0, a1), hm, eC hL (eK hK), h, hp.mem hn hM⟩)
theorem ct2 (k9 : Nat) (is : List Nat) (L : α0 -> α1 -> List (Nat × SV)) (J : α0 -> α1 -> Prop) (N : α0 -> α1 -> List (List FE)) (ks ik : List Nat) (h1 : den P n Q w ⟨.c cx, .nm (CE2 L KS J N KN w0 R) :: K, τ⟩) (h2 : ∀ a0 a1 (τ' : Fm) (w' : World), J a0 a1 -> Mem w0 w' R (N a0 a1 ++ KN) -> den P n Q w' ⟨.c cy, K, upl τ' (L a0 a1 ++ KS)⟩) (pre : Run k9 is (den P n Q w ⟨.c (.seq cx cy), K, τ⟩) p := by exact Go.Px.p9) (hM : Mem w0 w R M := by assumption) (hk : lZ τ ks = some KS := by exact rfl) (hr : Pk M ik KN := by exact Go.Px.z9) : p := pre (C.cut (ι := α0 × α1) (λ x => vals (L x.1 x.2 ++ KS)) (λ x w => J x.1 x.2 /\ Mem w0 w R (N x.1 x.2 ++ KN)) (C.mono h1 λ e σ w hh => by cases e <;> first | exact hh.h | exact hh) (λ x σ' w' hI => by have h9 := h2 x.1 x.2 (lf σ') w' hI.1 hI.2; simp only [den, gQ, lG] at h9; exact h9))
theorem ce2 {L : α0 -> α1 -> List (Nat × SV)} {J : α0 -> α1 -> Prop} {N : α0 -> α1 -> List (List FE)} (k9 : Nat) (is : List Nat) (a0 : α0) (a1 : α1) (io : List Nat) (pre : Run k9 is (den P n Q w ⟨.q .normal, .nm (CE2 L KS J N KN w0 R) :: K, τ⟩) p := by exact Go.Px.p9) (hM : Mem w0 w R M := by assumption) (hL : Has (Sg τ) (vals (L a0 a1)) := by exact Go.Px.h9) (hK : KS.map (λ p => τ p.1) = KS.map (·.2) := by exact rfl) (hp : Pk M io (N a0 a1 ++ KN) := by exact Go.Px.z9) (hn : io.Nodup := by decide) (h : J a0 a1) : p := pre (show CE2 L KS J N KN w0 R (Sg τ) w from ⟨(a0, a1), eC hL (eK hK), h, hp.mem hn hM⟩)
theorem jn2 {S : World -> Prop} {f : Nat} {ls : List Bool} (ix is : List Nat) (L : α0 -> α1 -> List (Nat × SV)) (N : α0 -> α1 -> List (List FE)) (ks ik : List Nat) (fJ : Nat) (lsJ : List Bool) (h1 : (∀ a0 a1 (τ' : Fm) (w' : World), Mem w0 w' R (N a0 a1 ++ KN) -> den P n Q w' ⟨.a S ops fJ lsJ, K, upl τ' (L a0 a1 ++ KS)⟩) -> den P n Q w ⟨.a S ops f ls, K, τ⟩) (h2 : ∀ a0 a1 (τ' : Fm) (w' : World), Mem w0 w' R (N a0 a1 ++ KN) -> den P n Q w' ⟨.a S ops fJ lsJ, K, upl τ' (L a0 a1 ++ KS)⟩) (pre : nA ix is (den P n Q w ⟨.a S ops f ls, K, τ⟩) p := by exact Go.Px.q9) (hM : Mem w0 w R M := by assumption) (hk : lZ τ ks = some KS := by exact rfl) (hr : Pk M ik KN := by exact Go.Px.z9) : p := pre (h1 h2)
theorem jd2 {S : World -> Prop} {fJ : Nat} {lsJ : List Bool} {L : α0 -> α1 -> List (Nat × SV)} {N : α0 -> α1 -> List (List FE)} (ix is : List Nat) (J : ∀ a0 a1 (τ' : Fm) (w' : World), Mem w0 w' R (N a0 a1 ++ KN) -> den P n Q w' ⟨.a S ops fJ lsJ, K, upl τ' (L a0 a1 ++ KS)⟩) (a0 : α0) (a1 : α1) (io : List Nat) (pre : nA ix is (den P n Q w ⟨.a S ops fJ lsJ, K, τ⟩) p := by exact Go.Px.q9) (hM : Mem w0 w R M := by assumption) (hL : Has (Sg τ) (vals (L a0 a1)) := by exact Go.Px.h9) (hK : KS.map (λ p => τ p.1) = KS.map (·.2) := by exact rfl) (hp : Pk M io (N a0 a1 ++ KN) := by exact Go.Px.z9) (hn : io.Nodup := by decide) : p := pre (by have h := J a0 a1 τ w (hp.mem hn hM); simp only [den, gQ, mG (eC hL (eK hK))] at h; exact h)
structure LE3 {α0 α1 α2 : Type} (L : α0 -> α1 -> α2 -> List (Nat × SV)) (KS : List (Nat × SV)) (J : α0 -> α1 -> α2 -> Prop) (N : α0 -> α1 -> α2 -> List (List FE)) (KN : List (List FE)) (w0 : World) (R : List (Option Nat)) (μ : α0 -> α1 -> α2 -> Nat) (m : Nat) (σ : Sig) (w : World) : Prop where h : ∃ x : α0 × α1 × α2, μ x.1 x.2.1 x.2.2 < m /\ Has σ (vals (L x.1 x.2.1 x.2.2 ++ KS)) /\ (λ x w => J x.1 x.2.1 x.2.2 /\ Mem w0 w R (N x.1 x.2.1 x.2.2 ++ KN)) x w
structure CE3 {α0 α1 α2 : Type} (L : α0 -> α1 -> α2 -> List (Nat × SV)) (KS : List (Nat × SV)) (J : α0 -> α1 -> α2 -> Prop) (N : α0 -> α1 -> α2 -> List (List FE)) (KN : List (List FE)) (w0 : World) (R : List (Option Nat)) (σ : Sig) (w : World) : Prop where h : ∃ x : α0 × α1 × α2, Has σ (vals (L x.1 x.2.1 x.2.2 ++ KS)) /\ (λ x w => J x.1 x.2.1 x.2.2 /\ Mem w0 w R (N x.1 x.2.1 x.2.2 ++ KN)) x w
theorem lp3 (k9 : Nat) (is : List Nat) (L : α0 -> α1 -> α2 -> List (Nat × SV)) (J : α0 -> α1 -> α2 -> Prop) (N : α0 -> α1 -> α2 -> List (List FE)) (μ : α0 -> α1 -> α2 -> Nat) (ks io ik : List Nat) (a0 : α0) (a1 : α1) (a2 : α2) (h : ∀ a0 a1 a2 (τ' : Fm) (w' : World), J a0 a1 a2 -> Mem w0 w' R (N a0 a1 a2 ++ KN) -> den P n Q w' ⟨.c c, .nm (LE3 L KS J N KN w0 R μ (μ a0 a1 a2)) :: K, upl τ' (L a0 a1 a2 ++ KS)⟩) (pre : Run k9 is (den P n Q w ⟨.c (.loop c), K, τ⟩) p := by exact Go.Px.p9) (hM : Mem w0 w R M := by assumption) (hk : lZ τ ks = some KS := by exact rfl) (hr : Pk M ik KN := by exact Go.Px.z9) (hN : Pk M io (N a0 a1 a2) := by exact Go.Px.z9) (hn : (io ++ ik).Nodup := by decide) (hL : Has (Sg τ) (vals (L a0 a1 a2)) := by exact Go.Px.h9) (h0 : J a0 a1 a2) : p := pre (C.loop (ι := α0 × α1 × α2) (λ x => vals (L x.1 x.2.1 x.2.2 ++ KS)) (λ x w => J x.1 x.2.1 x.2.2 /\ Mem w0 w R (N x.1 x.2.1 x.2.2 ++ KN)) (λ x => μ x.1 x.2.1 x.2.2) (a0, a1, a2) (eC hL (lR hk)) ⟨h0, (hN.app hr).mem hn hM⟩ (λ x σ' w' hI => by have h9 := h x.1 x.2.1 x.2.2 (lf σ') w' hI.1 hI.2; simp only [den, gQ, lG] at h9; exact C.mono h9 λ e σ w hh => by cases e <;> first | exact hh.h | exact hh))
theorem le3 {L : α0 -> α1 -> α2 -> List (Nat × SV)} {J : α0 -> α1 -> α2 -> Prop} {N : α0 -> α1 -> α2 -> List (List FE)} {μ : α0 -> α1 -> α2 -> Nat} (k9 : Nat) (is : List Nat) (a0 : α0) (a1 : α1) (a2 : α2) (io : List Nat) (pre : Run k9 is (den P n Q w ⟨.q .normal, .nm (LE3 L KS J N KN w0 R μ m) :: K, τ⟩) p := by exact Go.Px.p9) (hM : Mem w0 w R M := by assumption) (hm : μ a0 a1 a2 < m := by (try dsimp only); omega) (hL : Has (Sg τ) (vals (L a0 a1 a2)) := by exact Go.Px.h9) (hK : KS.map (λ p => τ p.1) = KS.map (·.2) := by exact rfl) (hp : Pk M io (N a0 a1 a2 ++ KN) := by exact Go.Px.z9) (hn : io.Nodup := by decide) (h : J a0 a1 a2) : p := pre (show LE3 L KS J N KN w0 R μ m (Sg τ) w from ⟨(a0, a1, a2), hm, eC hL (eK hK), h, hp.mem hn hM⟩)
theorem ct3 (k9 : Nat) (is : List Nat) (L : α0 -> α1 -> α2 -> List (Nat × SV)) (J : α0 -> α1 -> α2 -> Prop) (N : α0 -> α1 -> α2 -> List (List FE)) (ks ik : List Nat) (h1 : den P n Q w ⟨.c cx, .nm (CE3 L KS J N KN w0 R) :: K, τ⟩) (h2 : ∀ a0 a1 a2 (τ' : Fm) (w' : World), J a0 a1 a2 -> Mem w0 w' R (N a0 a1 a2 ++ KN) -> den P n Q w' ⟨.c cy, K, upl τ' (L a0 a1 a2 ++ KS)⟩) (pre : Run k9 is (den P n Q w ⟨.c (.seq cx cy), K, τ⟩) p := by exact Go.Px.p9) (hM : Mem w0 w R M := by assumption) (hk : lZ τ ks = some KS := by exact rfl) (hr : Pk M ik KN := by exact Go.Px.z9) : p := pre (C.cut (ι := α0 × α1 × α2) (λ x => vals (L x.1 x.2.1 x.2.2 ++ KS)) (λ x w => J x.1 x.2.1 x.2.2 /\ Mem w0 w R (N x.1 x.2.1 x.2.2 ++ KN)) (C.mono h1 λ e σ w hh => by cases e <;> first | exact hh.h | exact hh) (λ x σ' w' hI => by have h9 := h2 x.1 x.2.1 x.2.2 (lf σ') w' hI.1 hI.2; simp only [den, gQ, lG] at h9; exact h9))
theorem ce3 {L : α0 -> α1 -> α2 -> List (Nat × SV)} {J : α0 -> α1 -> α2 -> Prop} {N : α0 -> α1 -> α2 -> List (List FE)} (k9 : Nat) (is : List Nat) (a0 : α0) (a1 : α1) (a2 : α2) (io : List Nat) (pre : Run k9 is (den P n Q w ⟨.q .normal, .nm (CE3 L KS J N KN w0 R) :: K, τ⟩) p := by exact Go.Px.p9) (hM : Mem w0 w R M := by assumption) (hL : Has (Sg τ) (vals (L a0 a1 a2)) := by exact Go.Px.h9) (hK : KS.map (λ p => τ p.1) = KS.map (·.2) := by exact rfl) (hp : Pk M io (N a0 a1 a2 ++ KN) := by exact Go.Px.z9) (hn : io.Nodup := by decide) (h : J a0 a1 a2) : p := pre (show CE3 L KS J N KN w0 R (Sg τ) w from ⟨(a0, a1, a2), eC hL (eK hK), h, hp.mem hn hM⟩)
theorem jn3 {S : World -> Prop} {f : Nat} {ls : List Bool} (ix is : List Nat) (L : α0 -> α1 -> α2 -> List (Nat × SV)) (N : α0 -> α1 -> α2 -> List (List FE)) (ks ik : List Nat) (fJ : Nat) (lsJ : List Bool) (h1 : (∀ a0 a1 a2 (τ' : Fm) (w' : World), Mem w0 w' R (N a0 a1 a2 ++ KN) -> den P n Q w' ⟨.a S ops fJ lsJ, K, upl τ' (L a0 a1 a2 ++ KS)⟩) -> den P n Q w ⟨.a S ops f ls, K, τ⟩) (h2 : ∀ a0 a1 a2 (τ' : Fm) (w' : World), Mem w0 w' R (N a0 a1 a2 ++ KN) -> den P n Q w' ⟨.a S ops fJ lsJ, K, upl τ' (L a0 a1 a2 ++ KS)⟩) (pre : nA ix is (den P n Q w ⟨.a S ops f ls, K, τ⟩) p := by exact Go.Px.q9) (hM : Mem w0 w R M := by assumption) (hk : lZ τ ks = some KS := by exact rfl) (hr : Pk M ik KN := by exact Go.Px.z9) : p := pre (h1 h2)
theorem jd3 {S : World -> Prop} {fJ : Nat} {lsJ : List Bool} {L : α0 -> α1 -> α2 -> List (Nat × SV)} {N : α0 -> α1 -> α2 -> List (List FE)} (ix is : List Nat) (J : ∀ a0 a1 a2 (τ' : Fm) (w' : World), Mem w0 w' R (N a0 a1 a2 ++ KN) -> den P n Q w' ⟨.a S ops fJ lsJ, K, upl τ' (L a0 a1 a2 ++ KS)⟩) (a0 : α0) (a1 : α1) (a2 : α2) (io : List Nat) (pre : nA ix is (den P n Q w ⟨.a S ops fJ lsJ, K, τ⟩) p := by exact Go.Px.q9) (hM : Mem w0 w R M := by assumption) (hL : Has (Sg τ) (vals (L a0 a1 a2)) := by exact Go.Px.h9) (hK : KS.map (λ p => τ p.1) = KS.map (·.2) := by exact rfl) (hp : Pk M io (N a0 a1 a2 ++ KN) := by exact Go.Px.z9) (hn : io.Nodup := by decide) : p := pre (by have h := J a0 a1 a2 τ w (hp.mem hn hM); simp only [den, gQ, mG (eC hL (eK hK))] at h; exact h)
structure LE4 {α0 α1 α2 α3 : Type} (L : α0 -> α1 -> α2 -> α3 -> List (Nat × SV)) (KS : List (Nat × SV)) (J : α0 -> α1 -> α2 -> α3 -> Prop) (N : α0 -> α1 -> α2 -> α3 -> List (List FE)) (KN : List (List FE)) (w0 : World) (R : List (Option Nat)) (μ : α0 -> α1 -> α2 -> α3 -> Nat) (m : Nat) (σ : Sig) (w : World) : Prop where h : ∃ x : α0 × α1 × α2 × α3, μ x.1 x.2.1 x.2.2.1 x.2.2.2 < m /\ Has σ (vals (L x.1 x.2.1 x.2.2.1 x.2.2.2 ++ KS)) /\ (λ x w => J x.1 x.2.1 x.2.2.1 x.2.2.2 /\ Mem w0 w R (N x.1 x.2.1 x.2.2.1 x.2.2.2 ++ KN)) x w
structure CE4 {α0 α1 α2 α3 : Type} (L : α0 -> α1 -> α2 -> α3 -> List (Nat × SV)) (KS : List (Nat × SV)) (J : α0 -> α1 -> α2 -> α3 -> Prop) (N : α0 -> α1 -> α2 -> α3 -> List (List FE)) (KN : List (List FE)) (w0 : World) (R : List (Option Nat)) (σ : Sig) (w : World) : Prop where h : ∃ x : α0 × α1 × α2 × α3, Has σ (vals (L x.1 x.2.1 x.2.2.1 x.2.2.2 ++ KS)) /\ (λ x w => J x.1 x.2.1 x.2.2.1 x.2.2.2 /\ Mem w0 w R (N x.1 x.2.1 x.2.2.1 x.2.2.2 ++ KN)) x w
theorem lp4 (k9 : Nat) (is : List Nat) (L : α0 -> α1 -> α2 -> α3 -> List (Nat × SV)) (J : α0 -> α1 -> α2 -> α3 -> Prop) (N : α0 -> α1 -> α2 -> α3 -> List (List FE)) (μ : α0 -> α1 -> α2 -> α3 -> Nat) (ks io ik : List Nat) (a0 : α0) (a1 : α1) (a2 : α2) (a3 : α3) (h : ∀ a0 a1 a2 a3 (τ' : Fm) (w' : World), J a0 a1 a2 a3 -> Mem w0 w' R (N a0 a1 a2 a3 ++ KN) -> den P n Q w' ⟨.c c, .nm (LE4 L KS J N KN w0 R μ (μ a0 a1 a2 a3)) :: K, upl τ' (L a0 a1 a2 a3 ++ KS)⟩) (pre : Run k9 is (den P n Q w ⟨.c (.loop c), K, τ⟩) p := by exact Go.Px.p9) (hM : Mem w0 w R M := by assumption) (hk : lZ τ ks = some KS := by exact rfl) (hr : Pk M ik KN := by exact Go.Px.z9) (hN : Pk M io (N a0 a1 a2 a3) := by exact Go.Px.z9) (hn : (io ++ ik).Nodup := by decide) (hL : Has (Sg τ) (vals (L a0 a1 a2 a3)) := by exact Go.Px.h9) (h0 : J a0 a1 a2 a3) : p := pre (C.loop (ι := α0 × α1 × α2 × α3) (λ x => vals (L x.1 x.2.1 x.2.2.1 x.2.2.2 ++ KS)) (λ x w => J x.1 x.2.1 x.2.2.1 x.2.2.2 /\ Mem w0 w R (N x.1 x.2.1 x.2.2.1 x.2.2.2 ++ KN)) (λ x => μ x.1 x.2.1 x.2.2.1 x.2.2.2) (a0, a1, a2, a3) (eC hL (lR hk)) ⟨h0, (hN.app hr).mem hn hM⟩ (λ x σ' w' hI => by have h9 := h x.1 x.2.1 x.2.2.1 x.2.2.2 (lf σ') w' hI.1 hI.2; simp only [den, gQ, lG] at h9; exact C.mono h9 λ e σ w hh => by cases e <;> first | exact hh.h | exact hh))
theorem le4 {L : α0 -> α1 -> α2 -> α3 -> List (Nat × SV)} {J : α0 -> α1 -> α2 -> α3 -> Prop} {N : α0 -> α1 -> α2 -> α3 -> List (List FE)} {μ : α0 -> α1 -> α2 -> α3 -> Nat} (k9 : Nat) (is : List Nat) (a0 : α0) (a1 : α1) (a2 : α2) (a3 : α3) (io : List Nat) (pre : Run k9 is (den P n Q w ⟨.q .normal, .nm (LE4 L KS J N KN w0 R μ m) :: K, τ⟩) p := by exact Go.Px.p9) (hM : Mem w0 w R M := by assumption) (hm : μ a0 a1 a2 a3 < m := by (try dsimp only); omega) (hL : Has (Sg τ) (vals (L a0 a1 a2 a3)) := by exact Go.Px.h9) (hK : KS.map (λ p => τ p.1) = KS.map (·.2) := by exact rfl) (hp : Pk M io (N a0 a1 a2 a3 ++ KN) := by exact Go.Px.z9) (hn : io.Nodup := by decide) (h : J a0 a1 a2 a3) : p := pre (show LE4 L KS J N KN w0 R μ m (Sg τ) w from ⟨(a0, a1, a2, a3), hm, eC hL (eK hK), h, hp.mem hn hM⟩)
theorem ct4 (k9 : Nat) (is : List Nat) (L : α0 -> α1 -> α2 -> α3 -> List (Nat × SV)) (J : α0 -> α1 -> α2 -> α3 -> Prop) (N : α0 -> α1 -> α2 -> α3 -> List (List FE)) (ks ik : List Nat) (h1 : den P n Q w ⟨.c cx, .nm (CE4 L KS J N KN w0 R) :: K, τ⟩) (h2 : ∀ a0 a1 a2 a3 (τ' : Fm) (w' : World), J a0 a1 a2 a3 -> Mem w0 w' R (N a0 a1 a2 a3 ++ KN) -> den P n Q w' ⟨.c cy, K, upl τ' (L a0 a1 a2 a3 ++ KS)⟩) (pre : Run k9 is (den P n Q w ⟨.c (.seq cx cy), K, τ⟩) p := by exact Go.Px.p9) (hM : Mem w0 w R M := by assumption) (hk : lZ τ ks = some KS := by exact rfl) (hr : Pk M ik KN := by exact Go.Px.z9) : p := pre (C.cut (ι := α0 × α1 × α2 × α3) (λ x => vals (L x.1 x.2.1 x.2.2.1 x.2.2.2 ++ KS)) (λ x w => J x.1 x.2.1 x.2.2.1 x.2.2.2 /\ Mem w0 w R (N x.1 x.2.1 x.2.2.1 x.2.2.2 ++ KN)) (C.mono h1 λ e σ w hh => by cases e <;> first | exact hh.h | exact hh) (λ x σ' w' hI => by have h9 := h2 x.1 x.2.1 x.2.2.1 x.2.2.2 (lf σ') w' hI.1 hI.2; simp only [den, gQ, lG] at h9; exact h9))
theorem ce4 {L : α0 -> α1 -> α2 -> α3 -> List (Nat × SV)} {J : α0 -> α1 -> α2 -> α3 -> Prop} {N : α0 -> α1 -> α2 -> α3 -> List (List FE)} (k9 : Nat) (is : List Nat) (a0 : α0) (a1 : α1) (a2 : α2) (a3 : α3) (io : List Nat) (pre : Run k9 is (den P n Q w ⟨.q .normal, .nm (CE4 L KS J N KN w0 R) :: K, τ⟩) p := by exact Go.Px.p9) (hM : Mem w0 w R M := by assumption) (hL : Has (Sg τ) (vals (L a0 a1 a2 a3)) := by exact Go.Px.h9) (hK : KS.map (λ p => τ p.1) = KS.map (·.2) := by exact rfl) (hp : Pk M io (N a0 a1 a2 a3 ++ KN) := by exact Go.Px.z9) (hn : io.Nodup := by decide) (h : J a0 a1 a2 a3) : p := pre (show CE4 L KS J N KN w0 R (Sg τ) w from ⟨(a0, a1, a2, a3), eC hL (eK hK), h, hp.mem hn hM⟩)
theorem jn4 {S : World -> Prop} {f : Nat} {ls : List Bool} (ix is : List Nat) (L : α0 -> α1 -> α2 -> α3 -> List (Nat × SV)) (N : α0 -> α1 -> α2 -> α3 -> List (List FE)) (ks ik : List Nat) (fJ : Nat) (lsJ : List Bool) (h1 : (∀ a0 a1 a2 a3 (τ' : Fm) (w' : World), Mem w0 w' R (N a0 a1 a2 a3 ++ KN) -> den P n Q w' ⟨.a S ops fJ lsJ, K, upl τ' (L a0 a1 a2 a3 ++ KS)⟩) -> den P n Q w ⟨.a S ops f ls, K, τ⟩) (h2 : ∀ a0 a1 a2 a3 (τ' : Fm) (w' : World), Mem w0 w' R (N a0 a1 a2 a3 ++ KN) -> den P n Q w' ⟨.a S ops fJ lsJ, K, upl τ' (L a0 a1 a2 a3 ++ KS)⟩) (pre : nA ix is (den P n Q w ⟨.a S ops f ls, K, τ⟩) p := by exact Go.Px.q9) (hM : Mem w0 w R M := by assumption) (hk : lZ τ ks = some KS := by exact rfl) (hr : Pk M ik KN := by exact Go.Px.z9) : p := pre (h1 h2)
theorem jd4 {S : World -> Prop} {fJ : Nat} {lsJ : List Bool} {L : α0 -> α1 -> α2 -> α3 -> List (Nat × SV)} {N : α0 -> α1 -> α2 -> α3 -> List (List FE)} (ix is : List Nat) (J : ∀ a0 a1 a2 a3 (τ' : Fm) (w' : World), Mem w0 w' R (N a0 a1 a2 a3 ++ KN) -> den P n Q w' ⟨.a S ops fJ lsJ, K, upl τ' (L a0 a1 a2 a3 ++ KS)⟩) (a0 : α0) (a1 : α1) (a2 : α2) (a3 : α3) (io : List Nat) (pre : nA ix is (den P n Q w ⟨.a S ops fJ lsJ, K, τ⟩) p := by exact Go.Px.q9) (hM : Mem w0 w R M := by assumption) (hL : Has (Sg τ) (vals (L a0 a1 a2 a3)) := by exact Go.Px.h9) (hK : KS.map (λ p => τ p.1) = KS.map (·.2) := by exact rfl) (hp : Pk M io (N a0 a1 a2 a3 ++ KN) := by exact Go.Px.z9) (hn : io.Nodup := by decide) : p := pre (by have h := J a0 a1 a2 a3 τ w (hp.mem hn hM); simp only [den, gQ, mG (eC hL (eK hK))] at h; exact h)
structure LE5 {α0 α1 α2 α3 α4 : Type} (L : α0 -> α1 -> α2 -> α3 -> α4 -> List (Nat × SV)) (KS : List (Nat × SV)) (J : α0 -> α1 -> α2 -> α3 -> α4 -> Prop) (N : α0 -> α1 -> α2 -> α3 -> α4 -> List (List FE)) (KN : List (List FE)) (w0 : World) (R : List (Option Nat)) (μ : α0 -> α1 -> α2 -> α3 -> α4 -> Nat) (m : Nat) (σ : Sig) (w : World) : Prop where h : ∃ x : α0 × α1 × α2 × α3 × α4, μ x.1 x.2.1 x.2.2.1 x.2.2.2.1 x.2.2.2.2 < m /\ Has σ (vals (L x.1 x.2.1 x.2.2.1 x.2.2.2.1 x.2.2.2.2 ++ KS)) /\ (λ x w => J x.1 x.2.1 x.2.2.1 x.2.2.2.1 x.2.2.2.2 /\ Mem w0 w R (N x.1 x.2.1 x.2.2.1 x.2.2.2.1 x.2.2.2.2 ++ KN)) x w
structure CE5 {α0 α1 α2 α3 α4 : Type} (L : α0 -> α1 -> α2 -> α3 -> α4 -> List (Nat × SV)) (KS : List (Nat × SV)) (J : α0 -> α1 -> α2 -> α3 -> α4 -> Prop) (N : α0 -> α1 -> α2 -> α3 -> α4 -> List (List FE)) (KN : List (List FE)) (w0 : World) (R : List (Option Nat)) (σ : Sig) (w : World) : Prop where h : ∃ x : α0 × α1 × α2 × α3 × α4, Has σ (vals (L x.1 x.2.1 x.2.2.1 x.2.2.2.1 x.2.2.2.2 ++ KS)) /\ (λ x w => J x.1 x.2.1 x.2.2.1 x.2.2.2.1 x.2.2.2.2 /\ Mem w0 w R (N x.1 x.2.1 x.2.2.1 x.2.2.2.1 x.2.2.2.2 ++ KN)) x w
theorem lp5 (k9 : Nat) (is : List Nat) (L : α0 -> α1 -> α2 -> α3 -> α4 -> List (Nat × SV)) (J : α0 -> α1 -> α2 -> α3 -> α4 -> Prop) (N : α0 -> α1 -> α2 -> α3 -> α4 -> List (List FE)) (μ : α0 -> α1 -> α2 -> α3 -> α4 -> Nat) (ks io ik : List Nat) (a0 : α0) (a1 : α1) (a2 : α2) (a3 : α3) (a4 : α4) (h : ∀ a0 a1 a2 a3 a4 (τ' : Fm) (w' : World), J a0 a1 a2 a3 a4 -> Mem w0 w' R (N a0 a1 a2 a3 a4 ++ KN) -> den P n Q w' ⟨.c c, .nm (LE5 L KS J N KN w0 R μ (μ a0 a1 a2 a3 a4)) :: K, upl τ' (L a0 a1 a2 a3 a4 ++ KS)⟩) (pre : Run k9 is (den P n Q w ⟨.c (.loop c), K, τ⟩) p := by exact Go.Px.p9) (hM : Mem w0 w R M := by assumption) (hk : lZ τ ks = some KS := by exact rfl) (hr : Pk M ik KN := by exact Go.Px.z9) (hN : Pk M io (N a0 a1 a2 a3 a4) := by exact Go.Px.z9) (hn : (io ++ ik).Nodup := by decide) (hL : Has (Sg τ) (vals (L a0 a1 a2 a3 a4)) := by exact Go.Px.h9) (h0 : J a0 a1 a2 a3 a4) : p := pre (C.loop (ι := α0 × α1 × α2 × α3 × α4) (λ x => vals (L x.1 x.2.1 x.2.2.1 x.2.2.2.1 x.2.2.2.2 ++ KS)) (λ x w => J x.1 x.2.1 x.2.2.1 x.2.2.2.1 x.2.2.2.2 /\ Mem w0 w R (N x.1 x.2.1 x.2.2.1 x.2.2.2.1 x.2.2.2.2 ++ KN)) (λ x => μ x.1 x.2.1 x.2.2.1 x.2.2.2.1 x.2.2.2.2) (a0, a1, a2, a3, a4) (eC hL (lR hk)) ⟨h0, (hN.app hr).mem hn hM⟩ (λ x σ' w' hI => by have h9 := h x.1 x.2.1 x.2.2.1 x.2.2.2.1 x.2.2.2.2 (lf σ') w' hI.1 hI.2; simp only [den, gQ, lG] at h9; exact C.mono h9 λ e σ w hh => by cases e <;> first | exact hh.h | exact hh))
theorem le5 {L : α0 -> α1 -> α2 -> α3 -> α4 -> List (Nat × SV)} {J : α0 -> α1 -> α2 -> α3 -> α4 -> Prop} {N : α0 -> α1 -> α2 -> α3 -> α4 -> List (List FE)} {μ : α0 -> α1 -> α2 -> α3 -> α4 -> Nat} (k9 : Nat) (is : List Nat) (a0 : α0) (a1 : α1) (a2 : α2) (a3 : α3) (a4 : α4) (io : List Nat) (pre : Run k9 is (den P n Q w ⟨.q .normal, .nm (LE5 L KS J N KN w0 R μ m) :: K, τ⟩) p := by exact Go.Px.p9) (hM : Mem w0 w R M := by assumption) (hm : μ a0 a1 a2 a3 a4 < m := by (try dsimp only); omega) (hL : Has (Sg τ) (vals (L a0 a1 a2 a3 a4)) := by exact Go.Px.h9) (hK : KS.map (λ p => τ p.1) = KS.map (·.2) := by exact rfl) (hp : Pk M io (N a0 a1 a2 a3 a4 ++ KN) := by exact Go.Px.z9) (hn : io.Nodup := by decide) (h : J a0 a1 a2 a3 a4) : p := pre (show LE5 L KS J N KN w0 R μ m (Sg τ) w from ⟨(a0, a1, a2, a3, a4), hm, eC hL (eK hK), h, hp.mem hn hM⟩)
theorem ct5 (k9 : Nat) (is : List Nat) (L : α0 -> α1 -> α2 -> α3 -> α4 -> List (Nat × SV)) (J : α0 -> α1 -> α2 -> α3 -> α4 -> Prop) (N : α0 -> α1 -> α2 -> α3 -> α4 -> List (List FE)) (ks ik : List Nat) (h1 : den P n Q w ⟨.c cx, .nm (CE5 L KS J N KN w0 R) :: K, τ⟩) (h2 : ∀ a0 a1 a2 a3 a4 (τ' : Fm) (w' : World), J a0 a1 a2 a3 a4 -> Mem w0 w' R (N a0 a1 a2 a3 a4 ++ KN) -> den P n Q w' ⟨.c cy, K, upl τ' (L a0 a1 a2 a3 a4 ++ KS)⟩) (pre : Run k9 is (den P n Q w ⟨.c (.seq cx cy), K, τ⟩) p := by exact Go.Px.p9) (hM : Mem w0 w R M := by assumption) (hk : lZ τ ks = some KS := by exact rfl) (hr : Pk M ik KN := by exact Go.Px.z9) : p := pre (C.cut (ι := α0 × α1 × α2 × α3 × α4) (λ x => vals (L x.1 x.2.1 x.2.2.1 x.2.2.2.1 x.2.2.2.2 ++ KS)) (λ x w => J x.1 x.2.1 x.2.2.1 x.2.2.2.1 x.2.2.2.2 /\ Mem w0 w R (N x.1 x.2.1 x.2.2.1 x.2.2.2.1 x.2.2.2.2 ++ KN)) (C.mono h1 λ e σ w hh => by cases e <;> first | exact hh.h | exact hh) (λ x σ' w' hI => by have h9 := h2 x.1 x.2.1 x.2.2.1 x.2.2.2.1 x.2.2.2.2 (lf σ') w' hI.1 hI.2; simp only [den, gQ, lG] at h9; exact h9))
theorem ce5 {L : α0 -> α1 -> α2 -> α3 -> α4 -> List (Nat × SV)} {J : α0 -> α1 -> α2 -> α3 -> α4 -> Prop} {N : α0 -> α1 -> α2 -> α3 -> α4 -> List (List FE)} (k9 : Nat) (is : List Nat) (a0 : α0) (a1 : α1) (a2 : α2) (a3 : α3) (a4 : α4) (io : List Nat) (pre : Run k9 is (den P n Q w ⟨.q .normal, .nm (CE5 L KS J N KN w0 R) :: K, τ⟩) p := by exact Go.Px.p9) (hM : Mem w0 w R M := by assumption) (hL : Has (Sg τ) (vals (L a0 a1 a2 a3 a4)) := by exact Go.Px.h9) (hK : KS.map (λ p => τ p.1) = KS.map (·.2) := by exact rfl) (hp : Pk M io (N a0 a1 a2 a3 a4 ++ KN) := by exact Go.Px.z9) (hn : io.Nodup := by decide) (h : J a0 a1 a2 a3 a4) : p := pre (show CE5 L KS J N KN w0 R (Sg τ) w from ⟨(a0, a1, a2, a3, a4), eC hL (eK hK), h, hp.mem hn hM⟩)
theorem jn5 {S : World -> Prop} {f : Nat} {ls : List Bool} (ix is : List Nat) (L : α0 -> α1 -> α2 -> α3 -> α4 -> List (Nat × SV)) (N : α0 -> α1 -> α2 -> α3 -> α4 -> List (List FE)) (ks ik : List Nat) (fJ : Nat) (lsJ : List Bool) (h1 : (∀ a0 a1 a2 a3 a4 (τ' : Fm) (w' : World), Mem w0 w' R (N a0 a1 a2 a3 a4 ++ KN) -> den P n Q w' ⟨.a S ops fJ lsJ, K, upl τ' (L a0 a1 a2 a3 a4 ++ KS)⟩) -> den P n Q w ⟨.a S ops f ls, K, τ⟩) (h2 : ∀ a0 a1 a2 a3 a4 (τ' : Fm) (w' : World), Mem w0 w' R (N a0 a1 a2 a3 a4 ++ KN) -> den P n Q w' ⟨.a S ops fJ lsJ, K, upl τ' (L a0 a1 a2 a3 a4 ++ KS)⟩) (pre : nA ix is (den P n Q w ⟨.a S ops f ls, K, τ⟩) p := by exact Go.Px.q9) (hM : Mem w0 w R M := by assumption) (hk : lZ τ ks = some KS := by exact rfl) (hr : Pk M ik KN := by exact Go.Px.z9) : p := pre (h1 h2)
theorem jd5 {S : World -> Prop} {fJ : Nat} {lsJ : List Bool} {L : α0 -> α1 -> α2 -> α3 -> α4 -> List (Nat × SV)} {N : α0 -> α1 -> α2 -> α3 -> α4 -> List (List FE)} (ix is : List Nat) (J : ∀ a0 a1 a2 a3 a4 (τ' : Fm) (w' : World), Mem w0 w' R (N a0 a1 a2 a3 a4 ++ KN) -> den P n Q w' ⟨.a S ops fJ lsJ, K, upl τ' (L a0 a1 a2 a3 a4 ++ KS)⟩) (a0 : α0) (a1 : α1) (a2 : α2) (a3 : α3) (a4 : α4) (io : List Nat) (pre : nA ix is (den P n Q w ⟨.a S ops fJ lsJ, K, τ⟩) p := by exact Go.Px.q9) (hM : Mem w0 w R M := by assumption) (hL : Has (Sg τ) (vals (L a0 a1 a2 a3 a4)) := by exact Go.Px.h9) (hK : KS.map (λ p => τ p.1) = KS.map (·.2) := by exact rfl) (hp : Pk M io (N a0 a1 a2 a3 a4 ++ KN) := by exact Go.Px.z9) (hn : io.Nodup := by decide) : p := pre (by have h := J a0 a1 a2 a3 a4 τ w (hp.mem hn hM); simp only [den, gQ, mG (eC hL (eK hK))] at h; exact h)
structure LE6 {α0 α1 α2 α3 α4 α5 : Type} (L : α0 -> α1 -> α2 -> α3 -> α4 -> α5 -> List (Nat × SV)) (KS : List (Nat × SV)) (J : α0 -> α1 -> α2 -> α3 -> α4 -> α5 -> Prop) (N : α0 -> α1 -> α2 -> α3 -> α4 -> α5 -> List (List FE)) (KN : List (List FE)) (w0 : World) (R : List (Option Nat)) (μ : α0 -> α1 -> α2 -> α3 -> α4 -> α5 -> Nat) (m : Nat) (σ : Sig) (w : World) : Prop where h : ∃ x : α0 × α1 × α2 × α3 × α4 × α5, μ x.1 x.2.1 x.2.2.1 x.2.2.2.1 x.2.2.2.2.1 x.2.2.2.2.2 < m /\ Has σ (vals (L x.1 x.2.1 x.2.2.1 x.2.2.2.1 x.2.2.2.2.1 x.2.2.2.2.2 ++ KS)) /\ (λ x w => J x.1 x.2.1 x.2.2.1 x.2.2.2.1 x.2.2.2.2.1 x.2.2.2.2.2 /\ Mem w0 w R (N x.1 x.2.1 x.2.2.1 x.2.2.2.1 x.2.2.2.2.1 x.2.2.2.2.2 ++ KN)) x w
theorem lp6 (k9 : Nat) (is : List Nat) (L : α0 -> α1 -> α2 -> α3 -> α4 -> α5 -> List (Nat × SV)) (J : α0 -> α1 -> α2 -> α3 -> α4 -> α5 -> Prop) (N : α0 -> α1 -> α2 -> α3 -> α4 -> α5 -> List (List FE)) (μ : α0 -> α1 -> α2 -> α3 -> α4 -> α5 -> Nat) (ks io ik : List Nat) (a0 : α0) (a1 : α1) (a2 : α2) (a3 : α3) (a4 : α4) (a5 : α5) (h : ∀ a0 a1 a2 a3 a4 a5 (τ' : Fm) (w' : World), J a0 a1 a2 a3 a4 a5 -> Mem w0 w' R (N a0 a1 a2 a3 a4 a5 ++ KN) -> den P n Q w' ⟨.c c, .nm (LE6 L KS J N KN w0 R μ (μ a0 a1 a2 a3 a4 a5)) :: K, upl τ' (L a0 a1 a2 a3 a4 a5 ++ KS)⟩) (pre : Run k9 is (den P n Q w ⟨.c (.loop c), K, τ⟩) p := by exact Go.Px.p9) (hM : Mem w0 w R M := by assumption) (hk : lZ τ ks = some KS := by exact rfl) (hr : Pk M ik KN := by exact Go.Px.z9) (hN : Pk M io (N a0 a1 a2 a3 a4 a5) := by exact Go.Px.z9) (hn : (io ++ ik).Nodup := by decide) (hL : Has (Sg τ) (vals (L a0 a1 a2 a3 a4 a5)) := by exact Go.Px.h9) (h0 : J a0 a1 a2 a3 a4 a5) : p := pre (C.loop (ι := α0 × α1 × α2 × α3 × α4 × α5) (λ x => vals (L x.1 x.2.1 x.2.2.1 x.2.2.2.1 x.2.2.2.2.1 x.2.2.2.2.2 ++ KS)) (λ x w => J x.1 x.2.1 x.2.2.1 x.2.2.2.1 x.2.2.2.2.1 x.2.2.2.2.2 /\ Mem w0 w R (N x.1 x.2.1 x.2.2.1 x.2.2.2.1 x.2.2.2.2.1 x.2.2.2.2.2 ++ KN)) (λ x => μ x.1 x.2.1 x.2.2.1 x.2.2.2.1 x.2.2.2.2.1 x.2.2.2.2.2) (a0, a1, a2, a3, a4, a5) (eC hL (lR hk)) ⟨h0, (hN.app hr).mem hn hM⟩ (λ x σ' w' hI => by have h9 := h x.1 x.2.1 x.2.2.1 x.2.2.2.1 x.2.2.2.2.1 x.2.2.2.2.2 (lf σ') w' hI.1 hI.2; simp only [den, gQ, lG] at h9; exact C.mono h9 λ e σ w hh => by cases e <;> first | exact hh.h | exact hh))
theorem le6 {L : α0 -> α1 -> α2 -> α3 -> α4 -> α5 -> List (Nat × SV)} {J : α0 -> α1 -> α2 -> α3 -> α4 -> α5 -> Prop} {N : α0 -> α1 -> α2 -> α3 -> α4 -> α5 -> List (List FE)} {μ : α0 -> α1 -> α2 -> α3 -> α4 -> α5 -> Nat} (k9 : Nat) (is : List Nat) (a0 : α0) (a1 : α1) (a2 : α2) (a3 : α3) (a4 : α4) (a5 : α5) (io : List Nat) (pre : Run k9 is (den P n Q w ⟨.q .normal, .nm (LE6 L KS J N KN w0 R μ m) :: K, τ⟩) p := by exact Go.Px.p9) (hM : Mem w0 w R M := by assumption) (hm : μ a0 a1 a2 a3 a4 a5 < m := by (try dsimp only); omega) (hL : Has (Sg τ) (vals (L a0 a1 a2 a3 a4 a5)) := by exact Go.Px.h9) (hK : KS.map (λ p => τ p.1) = KS.map (·.2) := by exact rfl) (hp : Pk M io (N a0 a1 a2 a3 a4 a5 ++ KN) := by exact Go.Px.z9) (hn : io.Nodup := by decide) (h : J a0 a1 a2 a3 a4 a5) : p := pre (show LE6 L KS J N KN w0 R μ m (Sg τ) w from ⟨(a0, a1, a2, a3, a4, a5), hm, eC hL (eK hK), h, hp.mem hn hM⟩)
theorem jn6 {S : World -> Prop} {f : Nat} {ls : List Bool} (ix is : List Nat) (L : α0 -> α1 -> α2 -> α3 -> α4 -> α5 -> List (Nat × SV)) (N : α0 -> α1 -> α2 -> α3 -> α4 -> α5 -> List (List FE)) (ks ik : List Nat) (fJ : Nat) (lsJ : List Bool) (h1 : (∀ a0 a1 a2 a3 a4 a5 (τ' : Fm) (w' : World), Mem w0 w' R (N a0 a1 a2 a3 a4 a5 ++ KN) -> den P n Q w' ⟨.a S ops fJ lsJ, K, upl τ' (L a0 a1 a2 a3 a4 a5 ++ KS)⟩) -> den P n Q w ⟨.a S ops f ls, K, τ⟩) (h2 : ∀ a0 a1 a2 a3 a4 a5 (τ' : Fm) (w' : World), Mem w0 w' R (N a0 a1 a2 a3 a4 a5 ++ KN) -> den P n Q w' ⟨.a S ops fJ lsJ, K, upl τ' (L a0 a1 a2 a3 a4 a5 ++ KS)⟩) (pre : nA ix is (den P n Q w ⟨.a S ops f ls, K, τ⟩) p := by exact Go.Px.q9) (hM : Mem w0 w R M := by assumption) (hk : lZ τ ks = some KS := by exact rfl) (hr : Pk M ik KN := by exact Go.Px.z9) : p := pre (h1 h2)
theorem jd6 {S : World -> Prop} {fJ : Nat} {lsJ : List Bool} {L : α0 -> α1 -> α2 -> α3 -> α4 -> α5 -> List (Nat × SV)} {N : α0 -> α1 -> α2 -> α3 -> α4 -> α5 -> List (List FE)} (ix is : List Nat) (J : ∀ a0 a1 a2 a3 a4 a5 (τ' : Fm) (w' : World), Mem w0 w' R (N a0 a1 a2 a3 a4 a5 ++ KN) -> den P n Q w' ⟨.a S ops fJ lsJ, K, upl τ' (L a0 a1 a2 a3 a4 a5 ++ KS)⟩) (a0 : α0) (a1 : α1) (a2 : α2) (a3 : α3) (a4 : α4) (a5 : α5) (io : List Nat) (pre : nA ix is (den P n Q w ⟨.a S ops fJ lsJ, K, τ⟩) p := by exact Go.Px.q9) (hM : Mem w0 w R M := by assumption) (hL : Has (Sg τ) (vals (L a0 a1 a2 a3 a4 a5)) := by exact Go.Px.h9) (hK : KS.map (λ p => τ p.1) = KS.map (·.2) := by exact rfl) (hp : Pk M io (N a0 a1 a2 a3 a4 a5 ++ KN) := by exact Go.Px.z9) (hn : io.Nodup := by decide) : p := pre (by have h := J a0 a1 a2 a3 a4 a5 τ w (hp.mem hn hM); simp only [den, gQ, mG (eC hL (eK hK))] at h; exact h)
structure LE7 {α0 α1 α2 α3 α4 α5 α6 : Type} (L : α0 -> α1 -> α2 -> α3 -> α4 -> α5 -> α6 -> List (Nat × SV)) (KS : List (Nat × SV)) (J : α0 -> α1 -> α2 -> α3 -> α4 -> α5 -> α6 -> Prop) (N : α0 -> α1 -> α2 -> α3 -> α4 -> α5 -> α6 -> List (List FE)) (KN : List (List FE)) (w0 : World) (R : List (Option Nat)) (μ : α0 -> α1 -> α2 -> α3 -> α4 -> α5 -> α6 -> Nat) (m : Nat) (σ : Sig) (w : World) : Prop where h : ∃ x : α0 × α1 × α2 × α3 × α4 × α5 × α6, μ x.1 x.2.1 x.2.2.1 x.2.2.2.1 x.2.2.2.2.1 x.2.2.2.2.2.1 x.2.2.2.2.2.2 < m /\ Has σ (vals (L x.1 x.2.1 x.2.2.1 x.2.2.2.1 x.2.2.2.2.1 x.2.2.2.2.2.1 x.2.2.2.2.2.2 ++ KS)) /\ (λ x w => J x.1 x.2.1 x.2.2.1 x.2.2.2.1 x.2.2.2.2.1 x.2.2.2.2.2.1 x.2.2.2.2.2.2 /\ Mem w0 w R (N x.1 x.2.1 x.2.2.1 x.2.2.2.1 x.2.2.2.2.1 x.2.2.2.2.2.1 x.2.2.2.2.2.2 ++ KN)) x w
structure CE7 {α0 α1 α2 α3 α4 α5 α6 : Type} (L : α0 -> α1 -> α2 -> α3 -> α4 -> α5 -> α6 -> List (Nat × SV)) (KS : List (Nat × SV)) (J : α0 -> α1 -> α2 -> α3 -> α4 -> α5 -> α6 -> Prop) (N : α0 -> α1 -> α2 -> α3 -> α4 -> α5 -> α6 -> List (List FE)) (KN : List (List FE)) (w0 : World) (R : List (Option Nat)) (σ : Sig) (w : World) : Prop where h : ∃ x : α0 × α1 × α2 × α3 × α4 × α5 × α6, Has σ (vals (L x.1 x.2.1 x.2.2.1 x.2.2.2.1 x.2.2.2.2.1 x.2.2.2.2.2.1 x.2.2.2.2.2.2 ++ KS)) /\ (λ x w => J x.1 x.2.1 x.2.2.1 x.2.2.2.1 x.2.2.2.2.1 x.2.2.2.2.2.1 x.2.2.2.2.2.2 /\ Mem w0 w R (N x.1 x.2.1 x.2.2.1 x.2.2.2.1 x.2.2.2.2.1 x.2.2.2.2.2.1 x.2.2.2.2.2.2 ++ KN)) x w
theorem lp7 (k9 : Nat) (is : List Nat) (L : α0 -> α1 -> α2 -> α3 -> α4 -> α5 -> α6 -> List (Nat × SV)) (J : α0 -> α1 -> α2 -> α3 -> α4 -> α5 -> α6 -> Prop) (N : α0 -> α1 -> α2 -> α3 -> α4 -> α5 -> α6 -> List (List FE)) (μ : α0 -> α1 -> α2 -> α3 -> α4 -> α5 -> α6 -> Nat) (ks io ik : List Nat) (a0 : α0) (a1 : α1) (a2 : α2) (a3 : α3) (a4 : α4) (a5 : α5) (a6 : α6) (h : ∀ a0 a1 a2 a3 a4 a5 a6 (τ' : Fm) (w' : World), J a0 a1 a2 a3 a4 a5 a6 -> Mem w0 w' R (N a0 a1 a2 a3 a4 a5 a6 ++ KN) -> den P n Q w' ⟨.c c, .nm (LE7 L KS J N KN w0 R μ (μ a0 a1 a2 a3 a4 a5 a6)) :: K, upl τ' (L a0 a1 a2 a3 a4 a5 a6 ++ KS)⟩) (pre : Run k9 is (den P n Q w ⟨.c (.loop c), K, τ⟩) p := by exact Go.Px.p9) (hM : Mem w0 w R M := by assumption) (hk : lZ τ ks = some KS := by exact rfl) (hr : Pk M ik KN := by exact Go.Px.z9) (hN : Pk M io (N a0 a1 a2 a3 a4 a5 a6) := by exact Go.Px.z9) (hn : (io ++ ik).Nodup := by decide) (hL : Has (Sg τ) (vals (L a0 a1 a2 a3 a4 a5 a6)) := by exact Go.Px.h9) (h0 : J a0 a1 a2 a3 a4 a5 a6) : p := pre (C.loop (ι := α0 × α1 × α2 × α3 × α4 × α5 × α6) (λ x => vals (L x.1 x.2.1 x.2.2.1 x.2.2.2.1 x.2.2.2.2.1 x.2.2.2.2.2.1 x.2.2.2.2.2.2 ++ KS)) (λ x w => J x.1 x.2.1 x.2.2.1 x.2.2.2.1 x.2.2.2.2.1 x.2.2.2.2.2.1 x.2.2.2.2.2.2 /\ Mem w0 w R (N x.1 x.2.1 x.2.2.1 x.2.2.2.1 x.2.2.2.2.1 x.2.2.2.2.2.1 x.2.2.2.2.2.2 ++ KN)) (λ x => μ x.1 x.2.1 x.2.2.1 x.2.2.2.1 x.2.2.2.2.1 x.2.2.2.2.2.1 x.2.2.2.2.2.2) (a0, a1, a2, a3, a4, a5, a6) (eC hL (lR hk)) ⟨h0, (hN.app hr).mem hn hM⟩ (λ x σ' w' hI => by have h9 := h x.1 x.2.1 x.2.2.1 x.2.2.2.1 x.2.2.2.2.1 x.2.2.2.2.2.1 x.2.2.2.2.2.2 (lf σ') w' hI.1 hI.2; simp only [den, gQ, lG] at h9; exact C.mono h9 λ e σ w hh => by cases e <;> first | exact hh.h | exact hh))
theorem le7 {L : α0 -> α1 -> α2 -> α3 -> α4 -> α5 -> α6 -> List (Nat × SV)} {J : α0 -> α1 -> α2 -> α3 -> α4 -> α5 -> α6 -> Prop} {N : α0 -> α1 -> α2 -> α3 -> α4 -> α5 -> α6 -> List (List FE)} {μ : α0 -> α1 -> α2 -> α3 -> α4 -> α5 -> α6 -> Nat} (k9 : Nat) (is : List Nat) (a0 : α0) (a1 : α1) (a2 : α2) (a3 : α3) (a4 : α4) (a5 : α5) (a6 : α6) (io : List Nat) (pre : Run k9 is (den P n Q w ⟨.q .normal, .nm (LE7 L KS J N KN w0 R μ m) :: K, τ⟩) p := by exact Go.Px.p9) (hM : Mem w0 w R M := by assumption) (hm : μ a0 a1 a2 a3 a4 a5 a6 < m := by (try dsimp only); omega) (hL : Has (Sg τ) (vals (L a0 a1 a2 a3 a4 a5 a6)) := by exact Go.Px.h9) (hK : KS.map (λ p => τ p.1) = KS.map (·.2) := by exact rfl) (hp : Pk M io (N a0 a1 a2 a3 a4 a5 a6 ++ KN) := by exact Go.Px.z9) (hn : io.Nodup := by decide) (h : J a0 a1 a2 a3 a4 a5 a6) : p := pre (show LE7 L KS J N KN w0 R μ m (Sg τ) w from ⟨(a0, a1, a2, a3, a4, a5, a6), hm, eC hL (eK hK), h, hp.mem hn hM⟩)
theorem ct7 (k9 : Nat) (is : List Nat) (L : α0 -> α1 -> α2 -> α3 -> α4 -> α5 -> α6 -> List (Nat × SV)) (J : α0 -> α1 -> α2 -> α3 -> α4 -> α5 -> α6 -> Prop) (N : α0 -> α1 -> α2 -> α3 -> α4 -> α5 -> α6 -> List (List FE)) (ks ik : List Nat) (h1 : den P n Q w ⟨.c cx, .nm (CE7 L KS J N KN w0 R) :: K, τ⟩) (h2 : ∀ a0 a1 a2 a3 a4 a5 a6 (τ' : Fm) (w' : World), J a0 a1 a2 a3 a4 a5 a6 -> Mem w0 w' R (N a0 a1 a2 a3 a4 a5 a6 ++ KN) -> den P n Q w' ⟨.c cy, K, upl τ' (L a0 a1 a2 a3 a4 a5 a6 ++ KS)⟩) (pre : Run k9 is (den P n Q w ⟨.c (.seq cx cy), K, τ⟩) p := by exact Go.Px.p9) (hM : Mem w0 w R M := by assumption) (hk : lZ τ ks = some KS := by exact rfl) (hr : Pk M ik KN := by exact Go.Px.z9) : p := pre (C.cut (ι := α0 × α1 × α2 × α3 × α4 × α5 × α6) (λ x => vals (L x.1 x.2.1 x.2.2.1 x.2.2.2.1 x.2.2.2.2.1 x.2.2.2.2.2.1 x.2.2.2.2.2.2 ++ KS)) (λ x w => J x.1 x.2.1 x.2.2.1 x.2.2.2.1 x.2.2.2.2.1 x.2.2.2.2.2.1 x.2.2.2.2.2.2 /\ Mem w0 w R (N x.1 x.2.1 x.2.2.1 x.2.2.2.1 x.2.2.2.2.1 x.2.2.2.2.2.1 x.2.2.2.2.2.2 ++ KN)) (C.mono h1 λ e σ w hh => by cases e <;> first | exact hh.h | exact hh) (λ x σ' w' hI => by have h9 := h2 x.1 x.2.1 x.2.2.1 x.2.2.2.1 x.2.2.2.2.1 x.2.2.2.2.2.1 x.2.2.2.2.2.2 (lf σ') w' hI.1 hI.2; simp only [den, gQ, lG] at h9; exact h9))
theorem ce7 {L : α0 -> α1 -> α2 -> α3 -> α4 -> α5 -> α6 -> List (Nat × SV)} {J : α0 -> α1 -> α2 -> α3 -> α4 -> α5 -> α6 -> Prop} {N : α0 -> α1 -> α2 -> α3 -> α4 -> α5 -> α6 -> List (List FE)} (k9 : Nat) (is : List Nat) (a0 : α0) (a1 : α1) (a2 : α2) (a3 : α3) (a4 : α4) (a5 : α5) (a6 : α6) (io : List Nat) (pre : Run k9 is (den P n Q w ⟨.q .normal, .nm (CE7 L KS J N KN w0 R) :: K, τ⟩) p := by exact Go.Px.p9) (hM : Mem w0 w R M := by assumption) (hL : Has (Sg τ) (vals (L a0 a1 a2 a3 a4 a5 a6)) := by exact Go.Px.h9) (hK : KS.map (λ p => τ p.1) = KS.map (·.2) := by exact rfl) (hp : Pk M io (N a0 a1 a2 a3 a4 a5 a6 ++ KN) := by exact Go.Px.z9) (hn : io.Nodup := by decide) (h : J a0 a1 a2 a3 a4 a5 a6) : p := pre (show CE7 L KS J N KN w0 R (Sg τ) w from ⟨(a0, a1, a2, a3, a4, a5, a6), eC hL (eK hK), h, hp.mem hn hM⟩)
structure LE8 {α0 α1 α2 α3 α4 α5 α6 α7 : Type} (L : α0 -> α1 -> α2 -> α3 -> α4 -> α5 -> α6 -> α7 -> List (Nat × SV)) (KS : List (Nat × SV)) (J : α0 -> α1 -> α2 -> α3 -> α4 -> α5 -> α6 -> α7 -> Prop) (N : α0 -> α1 -> α2 -> α3 -> α4 -> α5 -> α6 -> α7 -> List (List FE)) (KN : List (List FE)) (w0 : World) (R : List (Option Nat)) (μ : α0 -> α1 -> α2 -> α3 -> α4 -> α5 -> α6 -> α7 -> Nat) (m : Nat) (σ : Sig) (w : World) : Prop where h : ∃ x : α0 × α1 × α2 × α3 × α4 × α5 × α6 × α7, μ x.1 x.2.1 x.2.2.1 x.2.2.2.1 x.2.2.2.2.1 x.2.2.2.2.2.1 x.2.2.2.2.2.2.1 x.2.2.2.2.2.2.2 < m /\ Has σ (vals (L x.1 x.2.1 x.2.2.1 x.2.2.2.1 x.2.2.2.2.1 x.2.2.2.2.2.1 x.2.2.2.2.2.2.1 x.2.2.2.2.2.2.2 ++ KS)) /\ (λ x w => J x.1 x.2.1 x.2.2.1 x.2.2.2.1 x.2.2.2.2.1 x.2.2.2.2.2.1 x.2.2.2.2.2.2.1 x.2.2.2.2.2.2.2 /\ Mem w0 w R (N x.1 x.2.1 x.2.2.1 x.2.2.2.1 x.2.2.2.2.1 x.2.2.2.2.2.1 x.2.2.2.2.2.2.1 x.2.2.2.2.2.2.2 ++ KN)) x w
theorem lp8 (k9 : Nat) (is : List Nat) (L : α0 -> α1 -> α2 -> α3 -> α4 -> α5 -> α6 -> α7 -> List (Nat × SV)) (J : α0 -> α1 -> α2 -> α3 -> α4 -> α5 -> α6 -> α7 -> Prop) (N : α0 -> α1 -> α2 -> α3 -> α4 -> α5 -> α6 -> α7 -> List (List FE)) (μ : α0 -> α1 -> α2 -> α3 -> α4 -> α5 -> α6 -> α7 -> Nat) (ks io ik : List Nat) (a0 : α0) (a1 : α1) (a2 : α2) (a3 : α3) (a4 : α4) (a5 : α5) (a6 : α6) (a7 : α7) (h : ∀ a0 a1 a2 a3 a4 a5 a6 a7 (τ' : Fm) (w' : World), J a0 a1 a2 a3 a4 a5 a6 a7 -> Mem w0 w' R (N a0 a1 a2 a3 a4 a5 a6 a7 ++ KN) -> den P n Q w' ⟨.c c, .nm (LE8 L KS J N KN w0 R μ (μ a0 a1 a2 a3 a4 a5 a6 a7)) :: K, upl τ' (L a0 a1 a2 a3 a4 a5 a6 a7 ++ KS)⟩) (pre : Run k9 is (den P n Q w ⟨.c (.loop c), K, τ⟩) p := by exact Go.Px.p9) (hM : Mem w0 w R M := by assumption) (hk : lZ τ ks = some KS := by exact rfl) (hr : Pk M ik KN := by exact Go.Px.z9) (hN : Pk M io (N a0 a1 a2 a3 a4 a5 a6 a7) := by exact Go.Px.z9) (hn : (io ++ ik).Nodup := by decide) (hL : Has (Sg τ) (vals (L a0 a1 a2 a3 a4 a5 a6 a7)) := by exact Go.Px.h9) (h0 : J a0 a1 a2 a3 a4 a5 a6 a7) : p := pre (C.loop (ι := α0 × α1 × α2 × α3 × α4 × α5 × α6 × α7) (λ x => vals (L x.1 x.2.1 x.2.2.1 x.2.2.2.1 x.2.2.2.2.1 x.2.2.2.2.2.1 x.2.2.2.2.2.2.1 x.2.2.2.2.2.2.2 ++ KS)) (λ x w => J x.1 x.2.1 x.2.2.1 x.2.2.2.1 x.2.2.2.2.1 x.2.2.2.2.2.1 x.2.2.2.2.2.2.1 x.2.2.2.2.2.2.2 /\ Mem w0 w R (N x.1 x.2.1 x.2.2.1 x.2.2.2.1 x.2.2.2.2.1 x.2.2.2.2.2.1 x.2.2.2.2.2.2.1 x.2.2.2.2.2.2.2 ++ KN)) (λ x => μ x.1 x.2.1 x.2.2.1 x.2.2.2.1 x.2.2.2.2.1 x.2.2.2.2.2.1 x.2.2.2.2.2.2.1 x.2.2.2.2.2.2.2) (a0, a1, a2, a3, a4, a5, a6, a7) (eC hL (lR hk)) ⟨h0, (hN.app hr).mem hn hM⟩ (λ x σ' w' hI => by have h9 := h x.1 x.2.1 x.2.2.1 x.2.2.2.1 x.2.2.2.2.1 x.2.2.2.2.2.1 x.2.2.2.2.2.2.1 x.2.2.2.2.2.2.2 (lf σ') w' hI.1 hI.2; simp only [den, gQ, lG] at h9; exact C.mono h9 λ e σ w hh => by cases e <;> first | exact hh.h | exact hh))
theorem le8 {L : α0 -> α1 -> α2 -> α3 -> α4 -> α5 -> α6 -> α7 -> List (Nat × SV)} {J : α0 -> α1 -> α2 -> α3 -> α4 -> α5 -> α6 -> α7 -> Prop} {N : α0 -> α1 -> α2 -> α3 -> α4 -> α5 -> α6 -> α7 -> List (List FE)} {μ : α0 -> α1 -> α2 -> α3 -> α4 -> α5 -> α6 -> α7 -> Nat} (k9 : Nat) (is : List Nat) (a0 : α0) (a1 : α1) (a2 : α2) (a3 : α3) (a4 : α4) (a5 : α5) (a6 : α6) (a7 : α7) (io : List Nat) (pre : Run k9 is (den P n Q w ⟨.q .normal, .nm (LE8 L KS J N KN w0 R μ m) :: K, τ⟩) p := by exact Go.Px.p9) (hM : Mem w0 w R M := by assumption) (hm : μ a0 a1 a2 a3 a4 a5 a6 a7 < m := by (try dsimp only); omega) (hL : Has (Sg τ) (vals (L a0 a1 a2 a3 a4 a5 a6 a7)) := by exact Go.Px.h9) (hK : KS.map (λ p => τ p.1) = KS.map (·.2) := by exact rfl) (hp : Pk M io (N a0 a1 a2 a3 a4 a5 a6 a7 ++ KN) := by exact Go.Px.z9) (hn : io.Nodup := by decide) (h : J a0 a1 a2 a3 a4 a5 a6 a7) : p := pre (show LE8 L KS J N KN w0 R μ m (Sg τ) w from ⟨(a0, a1, a2, a3, a4, a5, a6, a7), hm, eC hL (eK hK), h, hp.mem hn hM⟩)
structure CE10 {α0 α1 α2 α3 α4 α5 α6 α7 α8 α9 : Type} (L : α0 -> α1 -> α2 -> α3 -> α4 -> α5 -> α6 -> α7 -> α8 -> α9 -> List (Nat × SV)) (KS : List (Nat × SV)) (J : α0 -> α1 -> α2 -> α3 -> α4 -> α5 -> α6 -> α7 -> α8 -> α9 -> Prop) (N : α0 -> α1 -> α2 -> α3 -> α4 -> α5 -> α6 -> α7 -> α8 -> α9 -> List (List FE)) (KN : List (List FE)) (w0 : World) (R : List (Option Nat)) (σ : Sig) (w : World) : Prop where h : ∃ x : α0 × α1 × α2 × α3 × α4 × α5 × α6 × α7 × α8 × α9, Has σ (vals (L x.1 x.2.1 x.2.2.1 x.2.2.2.1 x.2.2.2.2.1 x.2.2.2.2.2.1 x.2.2.2.2.2.2.1 x.2.2.2.2.2.2.2.1 x.2.2.2.2.2.2.2.2.1 x.2.2.2.2.2.2.2.2.2 ++ KS)) /\ (λ x w => J x.1 x.2.1 x.2.2.1 x.2.2.2.1 x.2.2.2.2.1 x.2.2.2.2.2.1 x.2.2.2.2.2.2.1 x.2.2.2.2.2.2.2.1 x.2.2.2.2.2.2.2.2.1 x.2.2.2.2.2.2.2.2.2 /\ Mem w0 w R (N x.1 x.2.1 x.2.2.1 x.2.2.2.1 x.2.2.2.2.1 x.2.2.2.2.2.1 x.2.2.2.2.2.2.1 x.2.2.2.2.2.2.2.1 x.2.2.2.2.2.2.2.2.1 x.2.2.2.2.2.2.2.2.2 ++ KN)) x w
theorem ct10 (k9 : Nat) (is : List Nat) (L : α0 -> α1 -> α2 -> α3 -> α4 -> α5 -> α6 -> α7 -> α8 -> α9 -> List (Nat × SV)) (J : α0 -> α1 -> α2 -> α3 -> α4 -> α5 -> α6 -> α7 -> α8 -> α9 -> Prop) (N : α0 -> α1 -> α2 -> α3 -> α4 -> α5 -> α6 -> α7 -> α8 -> α9 -> List (List FE)) (ks ik : List Nat) (h1 : den P n Q w ⟨.c cx, .nm (CE10 L KS J N KN w0 R) :: K, τ⟩) (h2 : ∀ a0 a1 a2 a3 a4 a5 a6 a7 a8 a9 (τ' : Fm) (w' : World), J a0 a1 a2 a3 a4 a5 a6 a7 a8 a9 -> Mem w0 w' R (N a0 a1 a2 a3 a4 a5 a6 a7 a8 a9 ++ KN) -> den P n Q w' ⟨.c cy, K, upl τ' (L a0 a1 a2 a3 a4 a5 a6 a7 a8 a9 ++ KS)⟩) (pre : Run k9 is (den P n Q w ⟨.c (.seq cx cy), K, τ⟩) p := by exact Go.Px.p9) (hM : Mem w0 w R M := by assumption) (hk : lZ τ ks = some KS := by exact rfl) (hr : Pk M ik KN := by exact Go.Px.z9) : p := pre (C.cut (ι := α0 × α1 × α2 × α3 × α4 × α5 × α6 × α7 × α8 × α9) (λ x => vals (L x.1 x.2.1 x.2.2.1 x.2.2.2.1 x.2.2.2.2.1 x.2.2.2.2.2.1 x.2.2.2.2.2.2.1 x.2.2.2.2.2.2.2.1 x.2.2.2.2.2.2.2.2.1 x.2.2.2.2.2.2.2.2.2 ++ KS)) (λ x w => J x.1 x.2.1 x.2.2.1 x.2.2.2.1 x.2.2.2.2.1 x.2.2.2.2.2.1 x.2.2.2.2.2.2.1 x.2.2.2.2.2.2.2.1 x.2.2.2.2.2.2.2.2.1 x.2.2.2.2.2.2.2.2.2 /\ Mem w0 w R (N x.1 x.2.1 x.2.2.1 x.2.2.2.1 x.2.2.2.2.1 x.2.2.2.2.2.1 x.2.2.2.2.2.2.1 x.2.2.2.2.2.2.2.1 x.2.2.2.2.2.2.2.2.1 x.2.2.2.2.2.2.2.2.2 ++ KN)) (C.mono h1 λ e σ w hh => by cases e <;> first | exact hh.h | exact hh) (λ x σ' w' hI => by have h9 := h2 x.1 x.2.1 x.2.2.1 x.2.2.2.1 x.2.2.2.2.1 x.2.2.2.2.2.1 x.2.2.2.2.2.2.1 x.2.2.2.2.2.2.2.1 x.2.2.2.2.2.2.2.2.1 x.2.2.2.2.2.2.2.2.2 (lf σ') w' hI.1 hI.2; simp only [den, gQ, lG] at h9; exact h9))
theorem ce10 {L : α0 -> α1 -> α2 -> α3 -> α4 -> α5 -> α6 -> α7 -> α8 -> α9 -> List (Nat × SV)} {J : α0 -> α1 -> α2 -> α3 -> α4 -> α5 -> α6 -> α7 -> α8 -> α9 -> Prop} {N : α0 -> α1 -> α2 -> α3 -> α4 -> α5 -> α6 -> α7 -> α8 -> α9 -> List (List FE)} (k9 : Nat) (is : List Nat) (a0 : α0) (a1 : α1) (a2 : α2) (a3 : α3) (a4 : α4) (a5 : α5) (a6 : α6) (a7 : α7) (a8 : α8) (a9 : α9) (io : List Nat) (pre : Run k9 is (den P n Q w ⟨.q .normal, .nm (CE10 L KS J N KN w0 R) :: K, τ⟩) p := by exact Go.Px.p9) (hM : Mem w0 w R M := by assumption) (hL : Has (Sg τ) (vals (L a0 a1 a2 a3 a4 a5 a6 a7 a8 a9)) := by exact Go.Px.h9) (hK : KS.map (λ p => τ p.1) = KS.map (·.2) := by exact rfl) (hp : Pk M io (N a0 a1 a2 a3 a4 a5 a6 a7 a8 a9 ++ KN) := by exact Go.Px.z9) (hn : io.Nodup := by decide) (h : J a0 a1 a2 a3 a4 a5 a6 a7 a8 a9) : p := pre (show CE10 L KS J N KN w0 R (Sg τ) w from ⟨(a0, a1, a2, a3, a4, a5, a6, a7, a8, a9), eC hL (eK hK), h, hp.mem hn hM⟩)
theorem jn10 {S : World -> Prop} {f : Nat} {ls : List Bool} (ix is : List Nat) (L : α0 -> α1 -> α2 -> α3 -> α4 -> α5 -> α6 -> α7 -> α8 -> α9 -> List (Nat × SV)) (N : α0 -> α1 -> α2 -> α3 -> α4 -> α5 -> α6 -> α7 -> α8 -> α9 -> List (List FE)) (ks ik : List Nat) (fJ : Nat) (lsJ : List Bool) (h1 : (∀ a0 a1 a2 a3 a4 a5 a6 a7 a8 a9 (τ' : Fm) (w' : World), Mem w0 w' R (N a0 a1 a2 a3 a4 a5 a6 a7 a8 a9 ++ KN) -> den P n Q w' ⟨.a S ops fJ lsJ, K, upl τ' (L a0 a1 a2 a3 a4 a5 a6 a7 a8 a9 ++ KS)⟩) -> den P n Q w ⟨.a S ops f ls, K, τ⟩) (h2 : ∀ a0 a1 a2 a3 a4 a5 a6 a7 a8 a9 (τ' : Fm) (w' : World), Mem w0 w' R (N a0 a1 a2 a3 a4 a5 a6 a7 a8 a9 ++ KN) -> den P n Q w' ⟨.a S ops fJ lsJ, K, upl τ' (L a0 a1 a2 a3 a4 a5 a6 a7 a8 a9 ++ KS)⟩) (pre : nA ix is (den P n Q w ⟨.a S ops f ls, K, τ⟩) p := by exact Go.Px.q9) (hM : Mem w0 w R M := by assumption) (hk : lZ τ ks = some KS := by exact rfl) (hr : Pk M ik KN := by exact Go.Px.z9) : p := pre (h1 h2)
theorem wE {S : World -> Prop} {fJ : Nat} {lsJ : List Bool} {L : α0 -> α1 -> α2 -> α3 -> α4 -> α5 -> α6 -> α7 -> α8 -> α9 -> List (Nat × SV)} {N : α0 -> α1 -> α2 -> α3 -> α4 -> α5 -> α6 -> α7 -> α8 -> α9 -> List (List FE)} (ix is : List Nat) (J : ∀ a0 a1 a2 a3 a4 a5 a6 a7 a8 a9 (τ' : Fm) (w' : World), Mem w0 w' R (N a0 a1 a2 a3 a4 a5 a6 a7 a8 a9 ++ KN) -> den P n Q w' ⟨.a S ops fJ lsJ, K, upl τ' (L a0 a1 a2 a3 a4 a5 a6 a7 a8 a9 ++ KS)⟩) (a0 : α0) (a1 : α1) (a2 : α2) (a3 : α3) (a4 : α4) (a5 : α5) (a6 : α6) (a7 : α7) (a8 : α8) (a9 : α9) (io : List Nat) (pre : nA ix is (den P n Q w ⟨.a S ops fJ lsJ, K, τ⟩) p := by exact Go.Px.q9) (hM : Mem w0 w R M := by assumption) (hL : Has (Sg τ) (vals (L a0 a1 a2 a3 a4 a5 a6 a7 a8 a9)) := by exact Go.Px.h9) (hK : KS.map (λ p => τ p.1) = KS.map (·.2) := by exact rfl) (hp : Pk M io (N a0 a1 a2 a3 a4 a5 a6 a7 a8 a9 ++ KN) := by exact Go.Px.z9) (hn : io.Nodup := by decide) : p := pre (by have h := J a0 a1 a2 a3 a4 a5 a6 a7 a8 a9 τ w (hp.mem hn hM); simp only [den, gQ, mG (eC hL (eK hK))] at h; exact h)
end
end Go.Px
end
section
namespace Go.Px
open Go.RowKit
section
variable {w0 w : World} {R : List (Option Nat)} {M : List (List FE)} {l l' : List PgL} {e : TypeId}
theorem Mem.gperm (hp : l.Perm l') (h : Mem w0 w R (l.flatMap (pgF e) :: M)) : Mem w0 w R (l'.flatMap (pgF e) :: M) :=
 h.permg (by rw [cZ, cZ]; exact List.Perm.append_right _ (hp.flatMap_right _))
theorem Mem.gout {j : Nat} (hj : j < l.length) (h : Mem w0 w R (l.flatMap (pgF e) :: M)) : Mem w0 w R ((l.eraseIdx j).flatMap (pgF e) :: [slF e l[j].k] :: [slF e l[j].c] :: [slF e l[j].v] :: M) := by
 refine h.permg ?_
 have e1 : l.flatMap (pgF e) = (l.take j).flatMap (pgF e) ++ (pgF e l[j] ++ (l.drop (j + 1)).flatMap (pgF e)) := by
  conv => lhs; rw [kL hj]
  rw [bD, aK]
 have e2 : (l.eraseIdx j).flatMap (pgF e) = (l.take j).flatMap (pgF e) ++ (l.drop (j + 1)).flatMap (pgF e) := by
  rw [List.eraseIdx_eq_take_drop_succ, bD]
 have e3 : ((l.eraseIdx j).flatMap (pgF e) :: [slF e l[j].k] :: [slF e l[j].c] :: [slF e l[j].v] :: M).flatten = (l.eraseIdx j).flatMap (pgF e) ++ (pgF e l[j] ++ M.flatten) := by simp [pgF]
 rw [e3, cZ, e1, e2]
 generalize (l.take j).flatMap (pgF e) = a
 generalize (l.drop (j + 1)).flatMap (pgF e) = b
 generalize pgF e l[j] = q
 generalize M.flatten = m
 simp only [bO]
 refine List.Perm.append_left a ?_
 rw [<- bO q b, <- bO b q]
 exact List.Perm.append_right m jC
theorem Mem.gback {j : Nat} (hj : j < l.length) {k c v : SlL} (h : Mem w0 w R ((l.eraseIdx j).flatMap (pgF e) :: [slF e k] :: [slF e c] :: [slF e v] :: M)) : Mem w0 w R ((l.set j (⟨k, c, v⟩ : PgL)).flatMap (pgF e) :: M) := by
 refine h.permg ?_
 have e1 : (l.set j (⟨k, c, v⟩ : PgL)).flatMap (pgF e) = (l.take j).flatMap (pgF e) ++ ([slF e k, slF e c, slF e v] ++ (l.drop (j + 1)).flatMap (pgF e)) := by
  rw [bY, if_pos hj, bD, aK]; rfl
 have e2 : (l.eraseIdx j).flatMap (pgF e) = (l.take j).flatMap (pgF e) ++ (l.drop (j + 1)).flatMap (pgF e) := by
  rw [List.eraseIdx_eq_take_drop_succ, bD]
 have e3 : ((l.eraseIdx j).flatMap (pgF e) :: [slF e k] :: [slF e c] :: [slF e v] :: M).flatten = (l.eraseIdx j).flatMap (pgF e) ++ ([slF e k, slF e c, slF e v] ++ M.flatten) := by simp
 rw [e3, cZ, e1, e2]
 generalize (l.take j).flatMap (pgF e) = a
 generalize (l.drop (j + 1)).flatMap (pgF e) = b
 generalize [slF e k, slF e c, slF e v] = q
 generalize M.flatten = m
 simp only [bO]
 refine List.Perm.append_left a ?_
 rw [<- bO q b, <- bO b q]
 exact List.Perm.append_right m jC
theorem Mem.reE (h : Mem w0 w R M) (i : Nat) {xs xs' : List Value} (ex : xs = xs') {n n' : Nat} (hn : n = n') {A : Option Addr} {c sz : Nat} {t : TypeId} {N : List (List FE)} (hi : M[i]? = some [⟨.slice A n c, t, sz, n, xs⟩] := by exact rfl) (hN : Nf (M.set i [⟨.slice A n' c, t, sz, n', xs'⟩]) N := by exact Go.Px.n9) : Mem w0 w R N := h.reR i (by rw [ex, hn]) hi hN
end
def jV (f : Int -> Int) (X : PgL) : PgL := ⟨X.k, ⟨X.c.A, X.c.cp, X.c.l.map f⟩, X.v⟩
section
variable {T : TrT} {Ch Q : List PgL} {k : Nat} {e : TypeId}
theorem aEe {f : Int -> Int} {X : PgL} : encPg (jV f X) = encPg X := by unfold encPg jV; simp
theorem aNi {f : Int -> Int} {l : List PgL} {j : Nat} (hj : j < l.length) : l.flatMap encPg = (l.set j (jV f l[j])).flatMap encPg := by
 conv => lhs; rw [kL hj]
 rw [bY, if_pos hj, bD, bD, aK, aK, aEe]
theorem aNh {f : Int -> Int} {l : List PgL} {X : PgL} : (l ++ [X]).flatMap encPg = (l ++ [jV f X]).flatMap encPg := by
 rw [bD, bD]
 simp [aEe]
end
end Go.Px
namespace Go.Px
theorem yT {T : TrT} : (gC T).length <= 1715 := by
 unfold gC
 cases hv : aN T with
 | false => (unfold eG; rw [hv]; simp [cU])
 | true =>
  have hwk := qQ hv
  have hsl := oC hwk.2.2 hwk.1 t1
  have hl := aFa hv
  rw [hl]
  have hpl := mL hwk.2.2 (l := dN T) λ x hx => (qS hwk.1 (eX.1 hx).1).1
  have hll : (dN T).length <= 343 := cR qH hsl
  omega
end Go.Px
end
section
namespace Go.Px
open Go.RowKit
def mdC (A : Option Addr) (n c : Nat) (s : List Int) (j : Int) : List Value :=
 [.slice A n c, fL s 0, fL s 1, fL s 2, fL s 3, fL s 4, fL s 5, fL s 6, fL s 7, fL s 8, fL s 9, fL s 10, fL s 11, fL s 12, fL s 13, fL s 14, fL s 15, I j]
section
variable {A : Option Addr} {n c : Nat} {s : List Int} {j : Int}
theorem aOi {i : Int} (h : 0 <= i /\ i < 16) : (mdC A n c s j)[1 + i.toNat]? = some (.bool (decide (i ∈ s))) := by
 have : i = 0 \/ i = 1 \/ i = 2 \/ i = 3 \/ i = 4 \/ i = 5 \/ i = 6 \/ i = 7 \/ i = 8 \/ i = 9 \/ i = 10 \/ i = 11 \/ i = 12 \/ i = 13 \/ i = 14 \/ i = 15 := by omega
 rcases this with rfl | rfl | rfl | rfl | rfl | rfl | rfl | rfl | rfl | rfl | rfl | rfl | rfl | rfl | rfl | rfl <;> rfl
theorem aOj {i : Int} (h : 0 <= i /\ i < 16) : spl (mdC A n c s j) (1 + i.toNat) [.bool true] = mdC A n c (s ++ [i]) j := by
 have : i = 0 \/ i = 1 \/ i = 2 \/ i = 3 \/ i = 4 \/ i = 5 \/ i = 6 \/ i = 7 \/ i = 8 \/ i = 9 \/ i = 10 \/ i = 11 \/ i = 12 \/ i = 13 \/ i = 14 \/ i = 15 := by omega
 rcases this with rfl | rfl | rfl | rfl | rfl | rfl | rfl | rfl | rfl | rfl | rfl | rfl | rfl | rfl | rfl | rfl <;>
  (unfold mdC; simp [spl, aGa, aFy])
theorem md_j {j' : Int} : spl (mdC A n c s j) 17 [I j'] = mdC A n c s j' := rfl
theorem md_nil : [.slice A n c, .bool false, .bool false, .bool false, .bool false, .bool false, .bool false, .bool false, .bool false, .bool false, .bool false, .bool false, .bool false, .bool false, .bool false, .bool false, .bool false, I j] = mdC A n c [] j := by
 simp [mdC, fL]
end
def eI (g : List Int) (x : Int) : Int := x - ((g.countP λ y => decide (y < x) : Nat) : Int)
def rV (n : Nat) (g : List Int) : List Nat := (List.range n).filter λ i => decide ((i : Int) ∉ g)
def aAa (R : TrT) (r : Int) (g : List Int) : TrT := ⟨eI g r, (rV R.pages.length g).map λ i : Nat => rT (eI g) (gP R (i : Int))⟩
section
variable {T T0 R : TrT} {lv : Int -> Nat} {g l : List Int} {g0 x : Int} {P : List Int} {a : Nat} {s : TrT × List Int}
theorem aFg (hx : x ≠ g0) (hl : g0 ∉ l) : eI (l.map (shI g0)) (shI g0 x) = eI (g0 :: l) x := by
 unfold eI
 rw [List.countP_map, List.countP_cons]
 have e : l.countP ((λ y => decide (y < shI g0 x)) ∘ shI g0) = l.countP λ y => decide (y < x) := by
  apply List.countP_congr
  intro y hy
  have hne : y ≠ g0 := λ e => hl (e ▸ hy)
  simp only [Function.comp, decide_eq_true_eq]
  unfold shI
  split <;> split <;> omega
 rw [e]
 unfold shI
 by_cases h : x > g0
 ·rw [if_pos h, if_pos (by simpa using h)]; omega
 rw [if_neg h, if_neg t13]; omega
theorem aOy {n k : Nat} (hk : k < n) : (List.range n).filter (λ i : Nat => decide (i ≠ k)) = (List.range (n - 1)).map λ i => if i < k then i else i + 1 := by
 obtain ⟨m, rfl⟩ : ∃ m, n = k + (1 + m) := ⟨n - k - 1, t1⟩
 have L1 : List.range (k + (1 + m)) = List.range k ++ (k :: (List.range m).map (λ x => k + (1 + x))) := by
  rw [List.range_add, List.range_add]
  congr 1
  simp [List.range_succ, nR, Function.comp_def]
 have L2 : List.range (k + (1 + m) - 1) = List.range k ++ (List.range m).map (λ x => k + x) := by
  rw [show k + (1 + m) - 1 = k + m by omega, List.range_add]
 rw [L1, L2, kR, dW (f := λ i => if i < k then i else i + 1)]
 congr 1
 ·rw [List.filter_eq_self.2 (λ i hi => by simp at hi ⊢; omega)]
  have e9 : (List.range k).map (λ i => if i < k then i else i + 1) = (List.range k).map id := by
   apply gG
   intro i hi
   rw [if_pos (by simpa using hi)]; rfl
  rw [e9, List.map_id]
 rw [List.filter_cons, if_neg t11, List.filter_eq_self.2 (λ i hi => by
  obtain ⟨y, hy, rfl⟩ := bU.1 hi
  simp), nR]
 apply gG
 intro i hi
 simp only [Function.comp]
 rw [if_neg t1]; omega
theorem cut_wog (h : FV lv R (g0 :: l)) : aAa (lV R g0) (lV R g0).root (l.map (shI g0)) = aAa R R.root (g0 :: l) := by
 have hg := h.gin g0 t11
 have hgi := aX.1 hg
 have hn := cK.1 h.nd
 have hlen := pD hg
 have hrt : R.root ≠ g0 := λ e => h.root.2 (by simp [e])
 unfold aAa
 rw [show (lV R g0).root = shI g0 R.root from rfl, aFg hrt hn.1]
 congr 1
 unfold rV
 have e1 : (List.range R.pages.length).filter (λ i : Nat => decide ((i : Int) ∉ g0 :: l)) = ((List.range R.pages.length).filter (λ i : Nat => decide (i ≠ g0.toNat))).filter λ i : Nat => decide ((i : Int) ∉ l) := by
  rw [List.filter_filter]
  apply List.filter_congr
  intro i hi
  rw [dU]
  simp only [decide_eq_true_eq, aW, bV, not_or]
  constructor
  ·intro h9; exact ⟨h9.2, t1⟩
  intro h9; exact ⟨t1, h9.1⟩
 rw [e1, aOy t1, List.filter_map, nR, show R.pages.length - 1 = (lV R g0).pages.length by omega]
 have hun : ∀ i : Nat, ((if i < g0.toNat then i else i + 1 : Nat) : Int) = unI g0 (i : Int) := λ i => by
  unfold unI
  by_cases h9 : i < g0.toNat
  ·rw [if_pos h9, if_pos t1]
  rw [if_neg h9, if_neg t1]; omega
 have hp : ∀ i : Nat, ((i : Int) ∈ l.map (shI g0)) ↔ unI g0 (i : Int) ∈ l := λ i => by
  constructor
  ·intro hm
   obtain ⟨y, hy, e9⟩ := bU.1 hm
   rw [<- e9, vZ (λ e => hn.1 (by rw [<- e]; exact hy))]; exact hy
  intro hm; exact bU.2 ⟨_, hm, un_sh.1⟩
 have e2 : (List.range (lV R g0).pages.length).filter (λ i : Nat => decide ((i : Int) ∉ l.map (shI g0))) = (List.range (lV R g0).pages.length).filter ((λ i : Nat => decide ((i : Int) ∉ l)) ∘ λ i => if i < g0.toNat then i else i + 1) := by
  apply List.filter_congr
  intro i hi
  simp only [Function.comp]
  rw [hun, decide_eq_decide]
  exact not_congr (hp i)
 rw [e2]
 apply gG
 intro i hi
 have hi2 : i < (lV R g0).pages.length := by simpa using (eX.1 hi).1
 have hin : inT (lV R g0) (i : Int) = true := aX.2 t1
 have h1 := ((uY hg).1 hin).2
 simp only [Function.comp]
 rw [hun, aBt hg hin]
 unfold rT cutP
 simp only [nR]
 congr 1
 apply gG
 intro y hy
 exact aFg (λ e => h.nog _ h1 y hy (by simp [e])) hn.1
theorem aKk : aAa R R.root [] = R := by
 unfold aAa rV
 have e1 : eI [] R.root = R.root := by simp [eI]
 have e2 : ∀ p : PgT, rT (eI []) p = p := λ p => by
  unfold rT
  have : p.kids.map (eI []) = p.kids := by
   conv => rhs; rw [<- List.map_id p.kids]
   apply gG
   intro x _; simp [eI]
  rw [this]
 rw [e1]
 have e3 : (List.range R.pages.length).filter (λ i : Nat => decide ((i : Int) ∉ ([] : List Int))) = List.range R.pages.length := List.filter_eq_self.2 λ i _ => by simp
 rw [e3]
 have e4 : (List.range R.pages.length).map (λ i : Nat => rT (eI []) (gP R (i : Int))) = R.pages := by
  apply iU
  ·simp
  intro i h1 h2
  simp only [cI, gX, e2]
  unfold gP
  rw [eS, aD, aL h2]; rfl
 rw [e4]
theorem aEc : ∀ {n : Nat} {lv : Int -> Nat} {R : TrT} {g : List Int}, FV lv R g -> g.length <= n -> pX n R g = aAa R R.root g
 | 0, lv, R, [], _, _ => by rw [pY, aKk]
 | 0, lv, R, g0 :: l, _, hn => by simp at hn
 | n + 1, lv, R, [], _, _ => by rw [pY, aKk]
 | n + 1, lv, R, g0 :: l, h, hn => by
  rw [pX, aEc h.cut (by simpa using hn)]
  exact cut_wog h
theorem DM.row (h : DM T0 P a s) (hD : DV T0 P a s) (hv : aN T0 = true) (hP : iQ T0 P) (h2 : 2 <= a) {f : Nat} (hm : MK T0 P a s.1 f) (hk : (gP s.1 ((gP s.1 (P.getD (a - 2) 0)).kids.getD f 0)).kids = []) :
  bW (aV (gP s.1 ((gP s.1 (P.getD (a - 2) 0)).kids.getD f 0)) ++ aV (gP s.1 ((gP s.1 (P.getD (a - 2) 0)).kids.getD (f + 1) 0))) = true := by
 have hu := hD.onpath hv hP h.ok (a - 2) (by have := hD.a1; omega)
 obtain ⟨d, lo, hi, rest, q1, _⟩ := wS h.ok (bP.1 h.nd).1 hu
 have hkl := hm.kl
 have hf1 := hm.f1
 have hM := rD q1 (λ e9 => by rw [e9] at hkl; simp at hkl)
 have k1 : f < (gP s.1 (P.getD (a - 2) 0)).kids.length := by omega
 have k2 : f + 1 < (gP s.1 (P.getD (a - 2) 0)).kids.length := by omega
 have hfk : f < (gP s.1 (P.getD (a - 2) 0)).keys.length := by omega
 have ha := hM.kd f k1
 have hb := hM.kd (f + 1) k2
 rw [<- bF] at ha hb
 rw [fU hfk] at ha
 rw [gB t1 (show f + 1 - 1 < (gP s.1 (P.getD (a - 2) 0)).keys.length by omega)] at hb
 simp only [eU] at hb
 obtain ⟨hd1, hA⟩ := aCo ha hk
 rw [hd1] at hb
 have hB := aFj hb
 have hA4 := hA.k4
 have hB4 := hB.k4
 have v1 := bQ.1 hA.vk
 have v2 := bQ.1 hB.vk
 refine eM.2 ⟨by rw [aA, eL, eL]; omega, λ p hp => ?_, ?_⟩
 ·rcases bE.1 hp with hp | hp
  ·exact oV.1 (hA.val p hp)
  exact oV.1 (hB.val p hp)
 rw [aAn, iZ, iZ]
 refine bQ.2 ⟨λ x hx => ?_, fD.2 (cO.2 ⟨fD.1 v1.2, fD.1 v2.2, λ x hx y hy => ?_⟩)⟩
 ·rcases bE.1 hx with hx | hx
  ·exact v1.1 x hx
  exact v2.1 x hx
 have := hA.rg x hx; have := hB.rg y hy; omega
theorem vU {g : List Int} (hn : g.Nodup) (i : Int) : g.countP (λ y => decide (y < i + 1)) = g.countP (λ y => decide (y < i)) + if i ∈ g then 1 else 0 := by
 induction g with
 | nil => rfl
 | cons y g ih =>
  have hn2 := cK.1 hn
  rw [List.countP_cons, List.countP_cons, ih hn2.2]
  by_cases h1 : y = i
  ·subst h1
   rw [if_neg hn2.1, if_pos (show y ∈ y :: g by simp), show (if decide (y < y + 1) = true then 1 else 0) = (1 : Nat) by rw [if_pos]; simp; omega, show (if decide (y < y) = true then 1 else 0) = (0 : Nat) by rw [if_neg]; simp]
  have e1 : (decide (y < i + 1)) = decide (y < i) := decide_eq_decide.2 t1
  have e2 : (i ∈ y :: g) ↔ i ∈ g := by simp [Ne.symm h1]
  rw [e1]
  by_cases h2 : i ∈ g
  ·rw [if_pos h2, if_pos (e2.2 h2)]; omega
  rw [if_neg h2, if_neg (λ h9 => h2 (e2.1 h9))]; omega
theorem aJm {i : Int} (hn : g.Nodup) (h : i ∈ g) : eI g (i + 1) = eI g i := by
 unfold eI; rw [vU hn, if_pos h]; omega
theorem aFh {i : Int} (hn : g.Nodup) (h : i ∉ g) : eI g (i + 1) = eI g i + 1 := by
 unfold eI; rw [vU hn, if_neg h]; omega
theorem aLw (h : ∀ y ∈ g, 0 <= y) : eI g 0 = 0 := by
 unfold eI
 have : g.countP (λ y => decide (y < 0)) = 0 := List.countP_eq_zero.2 λ y hy => by have := h y hy; simp; omega
 rw [this]; rfl
def ngL (g : List Int) (k : Nat) : List Int := (List.range 16).map λ i => if i < k then eI g (i : Int) else 0
theorem aHu (g : List Int) (k : Nat) : (ngL g k).length = 16 := by simp [ngL]
theorem ng_zero (g : List Int) : List.replicate 16 (0 : Int) = ngL g 0 := by simp [ngL, List.map_const']
theorem ng_set {k : Nat} : (ngL g k).set k (eI g (k : Int)) = ngL g (k + 1) := by
 apply iU
 ·simp [ngL]
 intro i h1 h2
 have hi : i < 16 := by simpa [ngL] using h2
 rw [List.getElem_set]
 simp only [ngL, cI, gX]
 by_cases he : k = i
 ·subst he; rw [if_pos rfl, if_pos t1]
 rw [if_neg he]
 by_cases h9 : i < k
 ·rw [if_pos h9, if_pos t1]
 rw [if_neg h9, if_neg t1]
theorem aOm {n : Nat} {x : Int} (h : 0 <= x /\ x < (n : Int)) (hn : n <= 16) (h2 : x.toNat < (ngL g n).length) : (ngL g n)[x.toNat] = eI g x := by
 simp only [ngL, cI, gX]
 rw [if_pos t1, show ((x.toNat : Nat) : Int) = x by omega]
theorem yE {n : Nat} : rV (n + 1) g = rV n g ++ if (n : Int) ∈ g then [] else [n] := by
 unfold rV
 rw [List.range_succ, kR]
 congr 1
 rw [List.filter_cons]
 by_cases h : (n : Int) ∈ g
 ·rw [if_pos h, if_neg (by simpa using h)]; rfl
 rw [if_neg h, if_pos (by simpa using h)]; rfl
theorem aLn {n : Nat} : (rV n g).length <= n := by
 unfold rV
 exact cR (List.length_filter_le _ _) t11
structure WG (R : TrT) (g : List Int) (Ch Q : List PgL) (k : Nat) : Prop where
 len : Ch.length = R.pages.length
 dn : ∀ j : Nat, j < k -> (j : Int) ∉ g -> gP ⟨0, tsG Ch⟩ (j : Int) = rT (eI g) (gP R (j : Int))
 td : ∀ j : Nat, k <= j -> j < R.pages.length -> gP ⟨0, tsG Ch⟩ (j : Int) = gP R (j : Int)
 q : Q = (rV k g).map λ j => Ch.getD j (⟨⟨none, 0, []⟩, ⟨none, 0, []⟩, ⟨none, 0, []⟩⟩ : PgL)
theorem WG.start {L : List PgL} (h : tsG L = R.pages) : WG R g L [] 0 :=
 ⟨by rw [<- h]; simp, λ j hj => absurd hj t1, λ j _ _ => by unfold gP; rw [<- h], by simp [rV]⟩
theorem WG.skip {Ch Q : List PgL} {k : Nat} (h : WG R g Ch Q k) (hk : (k : Int) ∈ g) : WG R g Ch Q (k + 1) :=
 ⟨h.len, λ j hj hg => h.dn j (by rcases Nat.lt_succ_iff_lt_or_eq.1 hj with h9 | h9; exact h9; (subst h9; exact absurd hk hg)) hg, λ j h1 h2 => h.td j t1 h2, by rw [yE, if_pos hk, cS]; exact h.q⟩
theorem WG.step {Ch Q : List PgL} {k : Nat} (h : WG R g Ch Q k) (hk : (k : Int) ∉ g) (hj : k < Ch.length) : WG R g (Ch.set k (jV (eI g) Ch[k])) (Q ++ [jV (eI g) Ch[k]]) (k + 1) := by
 have hg : ∀ j : Nat, j ≠ k -> gP ⟨0, tsG (Ch.set k (jV (eI g) Ch[k]))⟩ (j : Int) = gP ⟨0, tsG Ch⟩ (j : Int) := λ j hjk => by
  unfold gP
  rw [cV, eS, aD, List.getElem?_set_ne (λ e => hjk e.symm), <- aD]
 have hjk2 : (k : Int).toNat < Ch.length := by simpa using hj
 refine ⟨by rw [eW]; exact h.len, λ j h1 h2 => ?_, λ j h1 h2 => by rw [hg j t1]; exact h.td j t1 h2, ?_⟩
 ·by_cases hjk : j = k
  ·subst hjk
   have h3 := h.td j (dD _) (by rw [<- h.len]; exact hj)
   have h4 : gP ⟨0, tsG Ch⟩ (j : Int) = (Ch[j]).t := by rw [jW hjk2]; simp
   rw [h4] at h3
   rw [<- h3, jW (show (j : Int).toNat < (Ch.set j _).length by rw [eW]; simpa using hj)]
   simp only [eS, List.getElem_set_self]
   rfl
  rw [hg j hjk]; exact h.dn j t1 h2
 rw [yE, if_neg hk, dW, h.q]
 congr 1
 ·apply gG
  intro i hi
  have hik : i < k := by
   have := (eX.1 hi).1; simpa using this
  rw [aD, aD, List.getElem?_set_ne t1]
 simp only [mN, List.map_nil]
 rw [aD, kS hj]; rfl
theorem WG.fin {Ch Q : List PgL} {k : Nat} (h : WG R g Ch Q k) (hk : k = R.pages.length) (r : Int) : (⟨eI g r, tsG Q⟩ : TrT) = aAa R r g /\ ∃ D, Ch.Perm (Q ++ D) := by
 subst hk
 constructor
 ·unfold aAa
  congr 1
  rw [h.q]
  unfold tsG
  rw [nR]
  apply gG
  intro i hi
  have h1 := eX.1 hi
  have hi1 : i < Ch.length := by rw [h.len]; simpa using h1.1
  have h3 := h.dn i (by simpa using h1.1) (by simpa using h1.2)
  rw [<- h3, jW (by simpa using hi1)]
  simp only [Function.comp, eS]
  rw [aD, aL hi1]; rfl
 have hz : ∀ (l : List PgL) (z : PgL), (List.range l.length).map (λ i => l.getD i z) = l := λ l z => by
  apply iU
  ·simp
  intro i h1 h2
  simp only [cI, gX]
  rw [aD, aL h2]; rfl
 refine ⟨((List.range Ch.length).filter λ i : Nat => !decide ((i : Int) ∉ g)).map λ j => Ch.getD j (⟨⟨none, 0, []⟩, ⟨none, 0, []⟩, ⟨none, 0, []⟩⟩ : PgL), ?_⟩
 rw [h.q, <- h.len, <- dW]
 conv => lhs; rw [<- hz Ch ⟨⟨none, 0, []⟩, ⟨none, 0, []⟩, ⟨none, 0, []⟩⟩]
 exact (List.filter_append_perm _ _).symm.map _
end
section
variable {w0 w : World} {R : List (Option Nat)} {M : List (List FE)} {l l' D : List PgL} {e : TypeId}
theorem Mem.gsub (hp : l.Perm (l' ++ D)) (h : Mem w0 w R (l.flatMap (pgF e) :: M)) : Mem w0 w R (l'.flatMap (pgF e) :: M) := by
 have h2 := Mem.gperm hp h
 rw [bD] at h2
 have h3 : iS w0 w R ((l'.flatMap (pgF e) ++ M.flatten) ++ D.flatMap (pgF e)) := by
  have := Mem.permg (M' := [(l'.flatMap (pgF e) ++ M.flatten) ++ D.flatMap (pgF e)]) h2 (by
   simp only [cZ, List.flatten_nil, cS, bO]
   exact List.Perm.append_left _ jC)
  simpa [Mem] using this
 simpa [Mem] using h3.left
end
end Go.Px
end
