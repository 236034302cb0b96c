/- Own layer: part of this seat (DI). Plain theorems; no conditions. -/
import Derived.Test.YteljpjapacajoaaDH
set_option linter.unusedVariables false
set_option linter.unusedSimpArgs false
namespace Go.Proofs.Yteljpjapacajoaa
open Go.Px
theorem DrawValidChain_fn (A : Option Addr) (c : Nat) (l : List UInt8) (w : World) (hA : Rd w A ((l).map byteV)) (hl : l.length ≤ 1048576) (hc : l.length ≤ c) :
    Does Try.prog 17 [.slice (A) ((l).length) (c)] w (fun v w1 => ∃ (l1 : List LnkL) (A1 : Option Addr) (c1 : Nat) (G : List FE), v = .slice (A1) ((l1).length) (c1) ∧ (1 ≤ l1.length ∧ l1.length ≤ 17) ∧ (∀ x ∈ l1, x.t.keys.length ≤ 1000) ∧ (∀ w2, (∀ f ∈ G, f.own w2) → Nst w2 l1) ∧ (∀ x ∈ l1, x.t.keys.length ≤ x.cp) ∧ Mem w w1 [] [[⟨.slice (A1) ((l1).length) (c1), 28, 3, ((l1).length), (l1).flatMap encL⟩], G]) := by
  have hM : Mem w w [] [] := Mem.refl
  refine Does.enter1 Try.func17 rfl Try.results17 Try.ntmps17 rfl ?_
  refine C.seq ?_
  refine C.region ?_
  refine O.val (v := .slice (none) (0) (0)) rfl (Ru.assign rfl) rfl ?_
  refine O.nil ?_
  refine C.seq ?_
  refine C.region ?_
  refine O.val (v := .slice (A) ((l).length) (c)) rfl (Ru.move rfl) rfl ?_
  refine O.callg [.slice (A) ((l).length) (c)] rfl en43 rfl rfl (newReader_fn A c l w (hA.at hM) (by first | omega | assumption | (simp; omega) | simp | (intros; omega)) (by first | omega | assumption | (simp; omega) | simp | (intros; omega))) ?_
  rintro _ w1_1 ⟨gr1_1, l11_1, rfl, hl11_1, hlen1_1, hR1_1⟩
  have hM1_1 : Mem w w1_1 [] [[⟨.slice (bl gr1_1) 1 1, 67, 2, 1, [.slice (A) ((l11_1).length) (c), I (((0 : Nat) : Int))]⟩]] := Mem.call (Ma := []) hM hR1_1 rfl
  have hrA : Rd w A (List.map byteV l11_1) := by rcases hl11_1 with h | h <;> rw [h]; exact hA; exact rd_take1 hA
  have hrl := hlen1_1
  refine O.callg [.pointer (ofs (bl gr1_1) (0))] rfl en42 rfl rfl (anyChain_fn gr1_1 A c l11_1 0 w1_1 (hrA.at hM1_1) (Mem.ng_old hM1_1 hrA 0 rfl) hrl (Mem.focus (Ma := [[⟨.slice (bl gr1_1) 1 1, 67, 2, 1, [.slice (A) ((l11_1).length) (c), I (((0 : Nat) : Int))]⟩]]) (rest := []) hM1_1 rfl) (by first | omega | assumption | (simp; omega) | simp | (intros; omega))) ?_
  rintro _ w1_2 ⟨l11_2, A11_2, c11_2, q11_2, G1_2, rfl, hl1_2, hk1_2, hq1_2, hG1_2, hcp1_2, hR1_2⟩
  have hM1_2 : Mem w w1_2 [] [[⟨.slice (bl gr1_1) 1 1, 67, 2, 1, [.slice (A) ((l11_1).length) (c), I (((q11_2 : Nat) : Int))]⟩], [⟨.slice (A11_2) ((l11_2).length) (c11_2), 28, 3, ((l11_2).length), (l11_2).flatMap encL⟩], G1_2] := Mem.call (Ma := [[⟨.slice (bl gr1_1) 1 1, 67, 2, 1, [.slice (A) ((l11_1).length) (c), I (((0 : Nat) : Int))]⟩]]) hM1_1 hR1_2 rfl
  have hcr1_2_1 := (hM1_2.cap 1 rfl).1
  refine O.val (v := .slice (A11_2) ((l11_2).length) (c11_2)) rfl (Ru.assign rfl) rfl ?_
  refine O.nil ?_
  refine C.ret ?_
  refine P1 (v := .slice (A11_2) ((l11_2).length) (c11_2)) rfl ?_
  exact ⟨l11_2, A11_2, c11_2, _, (by first | rfl | exact sl_congr (by first | omega | (simp; done) | (simp; omega)) | (simp; done)), hl1_2, hk1_2, hG1_2, hcp1_2, (hM1_2.pick [1, 2] (by decide) rfl)⟩

theorem DrawChainKeys_fn (A : Option Addr) (c : Nat) (l : List UInt8) (w : World) (hA : Rd w A ((l).map byteV)) (hl : l.length ≤ 1048576) (hc : l.length ≤ c) :
    Does Try.prog 23 [.slice (A) ((l).length) (c)] w (fun v w1 => ∃ (l1 : List LnkL) (A1 : Option Addr) (c1 : Nat) (G : List FE), v = .slice (A1) ((l1).length) (c1) ∧ (1 ≤ l1.length ∧ l1.length ≤ 17) ∧ (∀ x ∈ l1, x.t.keys.length ≤ 1000) ∧ (∀ w2, (∀ f ∈ G, f.own w2) → Nst w2 l1) ∧ (∀ x ∈ l1, x.t.keys.length ≤ x.cp) ∧ Mem w w1 [] [[⟨.slice (A1) ((l1).length) (c1), 28, 3, ((l1).length), (l1).flatMap encL⟩], G]) := by
  have hM : Mem w w [] [] := Mem.refl
  refine Does.enter1 Try.func23 rfl Try.results23 Try.ntmps23 rfl ?_
  refine C.seq ?_
  refine C.region ?_
  refine O.val (v := .slice (none) (0) (0)) rfl (Ru.assign rfl) rfl ?_
  refine O.nil ?_
  refine C.seq ?_
  refine C.region ?_
  refine O.val (v := .slice (A) ((l).length) (c)) rfl (Ru.move rfl) rfl ?_
  refine O.callg [.slice (A) ((l).length) (c)] rfl en43 rfl rfl (newReader_fn A c l w (hA.at hM) (by first | omega | assumption | (simp; omega) | simp | (intros; omega)) (by first | omega | assumption | (simp; omega) | simp | (intros; omega))) ?_
  rintro _ w1_1 ⟨gr1_1, l11_1, rfl, hl11_1, hlen1_1, hR1_1⟩
  have hM1_1 : Mem w w1_1 [] [[⟨.slice (bl gr1_1) 1 1, 67, 2, 1, [.slice (A) ((l11_1).length) (c), I (((0 : Nat) : Int))]⟩]] := Mem.call (Ma := []) hM hR1_1 rfl
  have hrA : Rd w A (List.map byteV l11_1) := by rcases hl11_1 with h | h <;> rw [h]; exact hA; exact rd_take1 hA
  have hrl := hlen1_1
  refine O.callg [.pointer (ofs (bl gr1_1) (0))] rfl en42 rfl rfl (anyChain_fn gr1_1 A c l11_1 0 w1_1 (hrA.at hM1_1) (Mem.ng_old hM1_1 hrA 0 rfl) hrl (Mem.focus (Ma := [[⟨.slice (bl gr1_1) 1 1, 67, 2, 1, [.slice (A) ((l11_1).length) (c), I (((0 : Nat) : Int))]⟩]]) (rest := []) hM1_1 rfl) (by first | omega | assumption | (simp; omega) | simp | (intros; omega))) ?_
  rintro _ w1_2 ⟨l11_2, A11_2, c11_2, q11_2, G1_2, rfl, hl1_2, hk1_2, hq1_2, hG1_2, hcp1_2, hR1_2⟩
  have hM1_2 : Mem w w1_2 [] [[⟨.slice (bl gr1_1) 1 1, 67, 2, 1, [.slice (A) ((l11_1).length) (c), I (((q11_2 : Nat) : Int))]⟩], [⟨.slice (A11_2) ((l11_2).length) (c11_2), 28, 3, ((l11_2).length), (l11_2).flatMap encL⟩], G1_2] := Mem.call (Ma := [[⟨.slice (bl gr1_1) 1 1, 67, 2, 1, [.slice (A) ((l11_1).length) (c), I (((0 : Nat) : Int))]⟩]]) hM1_1 hR1_2 rfl
  have hcr1_2_1 := (hM1_2.cap 1 rfl).1
  refine O.val (v := .slice (A11_2) ((l11_2).length) (c11_2)) rfl (Ru.assign rfl) rfl ?_
  refine O.nil ?_
  refine C.ret ?_
  refine P1 (v := .slice (A11_2) ((l11_2).length) (c11_2)) rfl ?_
  exact ⟨l11_2, A11_2, c11_2, _, (by first | rfl | exact sl_congr (by first | omega | (simp; done) | (simp; omega)) | (simp; done)), hl1_2, hk1_2, hG1_2, hcp1_2, (hM1_2.pick [1, 2] (by decide) rfl)⟩

theorem sValidChain_fn (A : Option Addr) (c : Nat) (l : List LnkL) (w : World) (hA : Rd w A ((l).flatMap encL)) (hNA : Nst w l) (hl : l.length ≤ 1048576) :
    Does Try.prog 19 [.slice (A) ((l).length) (c)] w (fun v w1 => v = .bool (validC (tsL l)) ∧ Mem w w1 [] []) := by
  have hM : Mem w w [] [] := Mem.refl
  refine Does.enter1 Try.func19 rfl Try.results19 Try.ntmps19 rfl ?_
  refine C.seq ?_
  refine C.region ?_
  refine O.val (v := .bool (false)) rfl (Ru.assign rfl) rfl ?_
  refine O.nil ?_
  refine C.seq ?_
  refine C.region ?_
  refine O.val (v := .slice (A) ((l).length) (c)) rfl (Ru.move rfl) rfl ?_
  refine O.callg [.slice (A) ((l).length) (c)] rfl en44 rfl rfl (svalidChain_fn A c l w (hA.at hM) (hNA.at hM) (by first | omega | assumption | (simp; omega) | simp | (intros; omega))) ?_
  rintro _ w1_1 ⟨rfl, hR1_1⟩
  have hM1_1 : Mem w w1_1 [] [] := Mem.call (Ma := []) hM hR1_1 rfl
  refine O.val (v := .bool (validC (tsL l))) rfl (Ru.assign rfl) rfl ?_
  refine O.nil ?_
  refine C.ret ?_
  refine P1 (v := .bool (validC (tsL l))) rfl ?_
  exact ⟨rfl, (Mem.none hM1_1)⟩
end Go.Proofs.Yteljpjapacajoaa
