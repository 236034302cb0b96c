/- Own layer: part of this seat (EG). Plain theorems; no conditions. -/
import Derived.Test.YtfdlmimgooeioaaDoorEF
import Derived.Test.YtfdlmimgooeioaaDoorT3
set_option linter.unusedVariables false
set_option linter.unusedSimpArgs false
namespace Go.Proofs.YtfdlmimgooeioaaDoor
open Go.Px
theorem copyN_fn (b : Nat) (A : Option Addr) (n : Nat) (c : Nat) (w : World) (hM : Mem w w [some b] [[⟨.slice (bl b) 1 1, 66, 2, 1, [(.pointer none), .slice (A) (n) (c)]⟩]]) :
    Does Tryd.prog 83 [.pointer (ofs (bl b) (0))] w (fun v w1 => v = (.tuple #[]) ∧ Mem w w1 [some b] [[⟨.slice (bl b) 1 1, 66, 2, 1, [.pointer (ofs (bl b) (0)), .slice (A) (n) (c)]⟩]]) := by
  refine Does.enter0 Tryd.func83 rfl Tryd.results83 Tryd.ntmps83 rfl ?_
  refine C.seq ?_
  refine C.region ?_
  refine O.val (v := .pointer (ofs (bl b) (0))) rfl (Ru.move rfl) rfl ?_
  refine O.val (v := .pointer (ofs (bl b) (0))) rfl (Ru.nilc rfl rfl) rfl ?_
  refine O.val (v := .pointer (ofs (bl b) (0))) rfl (Ru.fieldA fl66_0 rfl rfl) rfl ?_
  refine O.val rfl (Ru.load1 el64 rfl ((hM.rd 0 rfl).ld rfl)) rfl ?_
  refine O.val (v := .bool (true)) rfl (Ru.peqN (a := none) Tryd.underlying64 rfl rfl) rfl ?_
  refine O.nil ?_
  refine C.condT rfl ?_
  refine C.region ?_
  refine O.val (v := .pointer (ofs (bl b) (0))) rfl (Ru.move rfl) rfl ?_
  refine O.val (v := .pointer (ofs (bl b) (0))) rfl (Ru.move rfl) rfl ?_
  refine O.val (v := .pointer (ofs (bl b) (0))) rfl (Ru.toUns (l := [(.pointer none), .slice (A) (n) (c)]) Tryd.underlying64 Tryd.underlying129 el66 (by decide) (mem_blk (i := 0) (j := 0) hM rfl rfl) (by simp) rfl) rfl ?_
  refine O.val (v := .pointer (ofs (bl b) (0))) rfl (Ru.noEsc Tryd.func111 (by kernel_rfl) (by kernel_rfl) (by kernel_rfl) (by kernel_rfl) rfl) rfl ?_
  refine O.val (v := .pointer (ofs (bl b) (0))) rfl (Ru.frUns (l := [(.pointer none), .slice (A) (n) (c)]) Tryd.underlying129 Tryd.underlying64 el66 (mem_blk (i := 0) (j := 0) hM rfl rfl) (by kernel_rfl) rfl) rfl ?_
  refine O.val (v := .pointer (ofs (bl b) (0))) rfl (Ru.nilc rfl rfl) rfl ?_
  refine O.val (v := .pointer (ofs (bl b) (0))) rfl (Ru.fieldA fl66_0 rfl rfl) rfl ?_
  refine O.mstore (vs := [.pointer (ofs (bl b) (0))]) (xs' := [.pointer (ofs (bl b) (0)), .slice (A) (n) (c)]) 0 0 hM rfl rfl rfl el64 rfl rfl rfl rfl rfl (by simp) (by simp) rfl rfl (fun w1_7 (hM1_7 : Mem w w1_7 [some b] [[⟨.slice (bl b) 1 1, 66, 2, 1, [.pointer (ofs (bl b) (0)), .slice (A) (n) (c)]⟩]]) => ?_)
  refine O.nil ?_
  refine P0 ?_
  exact ⟨(by first | rfl | exact sl_congr (by first | omega | (simp; done) | (simp; omega)) | (simp; done)), (hM1_7.pick [0] (by decide) rfl)⟩

theorem copyS_fn (b : Nat) (A : Option Addr) (n : Nat) (c : Nat) (w : World) (hM : Mem w w [some b] [[⟨.slice (bl b) 1 1, 66, 2, 1, [.pointer (ofs (bl b) (0)), .slice (A) (n) (c)]⟩]]) :
    Does Tryd.prog 83 [.pointer (ofs (bl b) (0))] w (fun v w1 => v = (.tuple #[]) ∧ Mem w w1 [some b] [[⟨.slice (bl b) 1 1, 66, 2, 1, [.pointer (ofs (bl b) (0)), .slice (A) (n) (c)]⟩]]) := by
  refine Does.enter0 Tryd.func83 rfl Tryd.results83 Tryd.ntmps83 rfl ?_
  refine C.seq ?_
  refine C.region ?_
  refine O.val (v := .pointer (ofs (bl b) (0))) rfl (Ru.move rfl) rfl ?_
  refine O.val (v := .pointer (ofs (bl b) (0))) rfl (Ru.nilc rfl rfl) rfl ?_
  refine O.val (v := .pointer (ofs (bl b) (0))) rfl (Ru.fieldA fl66_0 rfl rfl) rfl ?_
  refine O.val rfl (Ru.load1 el64 rfl ((hM.rd 0 rfl).ld rfl)) rfl ?_
  refine O.val (v := .bool (false)) rfl (Ru.peqN (a := ofs (bl b) (0)) Tryd.underlying64 rfl rfl) rfl ?_
  refine O.nil ?_
  refine C.condF rfl ?_
  refine C.seq ?_
  refine C.region ?_
  refine O.val (v := .pointer (ofs (bl b) (0))) rfl (Ru.move rfl) rfl ?_
  refine O.val (v := .pointer (ofs (bl b) (0))) rfl (Ru.nilc rfl rfl) rfl ?_
  refine O.val (v := .pointer (ofs (bl b) (0))) rfl (Ru.fieldA fl66_0 rfl rfl) rfl ?_
  refine O.val rfl (Ru.load1 el64 rfl ((hM.rd 0 rfl).ld rfl)) rfl ?_
  refine O.val (v := .pointer (ofs (bl b) (0))) rfl (Ru.move rfl) rfl ?_
  refine O.val (v := .bool (false)) rfl (Ru.pneS (a := ⟨b, 0, Option.none⟩) Tryd.underlying64 el66 rfl rfl) rfl ?_
  refine O.nil ?_
  refine C.condF rfl ?_
  refine C.skip ?_
  refine P0 ?_
  exact ⟨(by first | rfl | exact sl_congr (by first | omega | (simp; done) | (simp; omega)) | (simp; done)), (hM.pick [0] (by decide) rfl)⟩

theorem copyCheck_fn (b : Nat) (p : Value) (A : Option Addr) (n : Nat) (c : Nat) (w : World) (hM : Mem w w [some b] [[⟨.slice (bl b) 1 1, 66, 2, 1, [(p), .slice (A) (n) (c)]⟩]]) (hp : p = .pointer none ∨ p = .pointer (ofs (bl b) 0)) :
    Does Tryd.prog 83 [.pointer (ofs (bl b) (0))] w (fun v w1 => v = (.tuple #[]) ∧ Mem w w1 [some b] [[⟨.slice (bl b) 1 1, 66, 2, 1, [.pointer (ofs (bl b) (0)), .slice (A) (n) (c)]⟩]]) := by
  rcases hp with rfl | rfl
  · exact copyN_fn b A n c w hM
  · exact copyS_fn b A n c w hM

theorem WriteByte_fn (b : Nat) (A : Option Addr) (c : Nat) (l : List UInt8) (p : Value) (ch : UInt8) (w : World) (hM : Mem w w [some b, (Value.slice (A) ((l).length) (c)).ownBlock] [[⟨.slice (bl b) 1 1, 66, 2, 1, [(p), .slice (A) ((l).length) (c)]⟩], [⟨.slice (A) ((l).length) (c), 5, 1, ((l).length), (l).map byteV⟩]]) (hp : p = .pointer none ∨ p = .pointer (ofs (bl b) 0)) (hl : l.length ≤ 1000000) :
    Does Tryd.prog 45 [.pointer (ofs (bl b) (0)), .int .u8 (((ch).toNat : Int))] w (fun v w1 => ∃ (A1 : Option Addr) (c1 : Nat), v = (.nilIface) ∧ Mem w w1 [some b, (Value.slice (A) ((l).length) (c)).ownBlock] [[⟨.slice (bl b) 1 1, 66, 2, 1, [.pointer (ofs (bl b) (0)), .slice (A1) ((l ++ [ch]).length) (c1)]⟩], [⟨.slice (A1) ((l ++ [ch]).length) (c1), 5, 1, ((l ++ [ch]).length), (l ++ [ch]).map byteV⟩]]) := by
  refine Does.enter1 Tryd.func45 rfl Tryd.results45 Tryd.ntmps45 rfl ?_
  refine C.seq ?_
  refine C.region ?_
  refine O.val rfl (Ru.assign rfl) rfl ?_
  refine O.nil ?_
  refine C.seq ?_
  refine C.region ?_
  refine O.val (v := .pointer (ofs (bl b) (0))) rfl (Ru.move rfl) rfl ?_
  refine O.callg [.pointer (ofs (bl b) (0))] rfl en83 rfl rfl (copyCheck_fn b (p) A ((l).length) c w (Mem.focus (Ma := [[⟨.slice (bl b) 1 1, 66, 2, 1, [(p), .slice (A) ((l).length) (c)]⟩]]) (rest := [[⟨.slice (A) ((l).length) (c), 5, 1, ((l).length), (l).map byteV⟩]]) hM rfl) (by first | exact .inl rfl | exact .inr rfl | assumption)) ?_
  rintro _ w1_1 ⟨rfl, hR1_1⟩
  have hM1_1 : Mem w w1_1 [some b, (Value.slice (A) ((l).length) (c)).ownBlock] [[⟨.slice (bl b) 1 1, 66, 2, 1, [.pointer (ofs (bl b) (0)), .slice (A) (((l).length)) (c)]⟩], [⟨.slice (A) ((l).length) (c), 5, 1, ((l).length), (l).map byteV⟩]] := Mem.call (Ma := [[⟨.slice (bl b) 1 1, 66, 2, 1, [(p), .slice (A) ((l).length) (c)]⟩]]) hM hR1_1 rfl
  refine O.nil ?_
  refine C.seq ?_
  refine C.region ?_
  refine O.val (v := .pointer (ofs (bl b) (0))) rfl (Ru.move rfl) rfl ?_
  refine O.val (v := .pointer (ofs (bl b) (0))) rfl (Ru.move rfl) rfl ?_
  refine O.val (v := .pointer (ofs (bl b) (0))) rfl (Ru.nilc rfl rfl) rfl ?_
  refine O.val (v := .pointer (ofs (bl b) (1))) rfl (Ru.fieldA fl66_1 rfl rfl) rfl ?_
  refine O.val rfl (Ru.load1 el29 rfl ((hM1_1.rd 0 rfl).ld rfl)) rfl ?_
  refine O.val (v := .int .u8 (((ch).toNat : Int))) rfl (Ru.move rfl) rfl ?_
  refine O.mlit (sz := 1) (cs := [.int .u8 (((ch).toNat : Int))]) hM1_1 rfl Tryd.underlying29 el5 rfl rfl rfl (by kernel_rfl) (by kernel_rfl) rfl rfl (fun w2_6 b2_6 hb2_6 (hM2_6 : Mem w w2_6 [some b, (Value.slice (A) ((l).length) (c)).ownBlock] [[⟨.slice (bl b2_6) (1) (1), 5, 1, 1, ([ch]).map byteV⟩], [⟨.slice (bl b) 1 1, 66, 2, 1, [.pointer (ofs (bl b) (0)), .slice (A) (((l).length)) (c)]⟩], [⟨.slice (A) ((l).length) (c), 5, 1, ((l).length), (l).map byteV⟩]]) => ?_)
  refine O.mappend (sz := 1) (news := ([ch]).map byteV) (m1 := (l ++ [ch]).length) (xs1 := (l ++ [ch]).map byteV) (M' := fun A2_7 c2_7 => [[⟨.slice (bl b2_6) (1) (1), 5, 1, 1, ([ch]).map byteV⟩], [⟨.slice (bl b) 1 1, 66, 2, 1, [.pointer (ofs (bl b) (0)), .slice (A) (((l).length)) (c)]⟩], [⟨.slice (A2_7) ((l ++ [ch]).length) (c2_7), 5, 1, ((l ++ [ch]).length), (l ++ [ch]).map byteV⟩]]) 2 0 hM2_6 rfl rfl rfl Tryd.underlying29 el5 ⟨rfl, by decide⟩ rfl rfl rfl (hM2_6.rd 0 rfl) (by first | (simp; done) | (simp; omega)) (all_map_one (fun _ => rfl) _) (by first | omega | (simp; omega)) (by first | omega | (simp; omega)) (by first | (simp; done) | (simp; omega)) (by simp) (fun _ _ => rfl) (fun w2_7 A2_7 c2_7 hc2_7 hM2_7 => ?_)
  try dsimp only at hM2_7
  refine O.val (v := .pointer (ofs (bl b) (0))) rfl (Ru.nilc rfl rfl) rfl ?_
  refine O.val (v := .pointer (ofs (bl b) (1))) rfl (Ru.fieldA fl66_1 rfl rfl) rfl ?_
  refine O.mstore (vs := [.slice (A2_7) ((l ++ [ch]).length) (c2_7)]) (xs' := [.pointer (ofs (bl b) (0)), .slice (A2_7) ((l ++ [ch]).length) (c2_7)]) 1 0 hM2_7 rfl rfl rfl el29 rfl rfl rfl rfl rfl (by simp) (by simp) rfl rfl (fun w2_10 (hM2_10 : Mem w w2_10 [some b, (Value.slice (A) ((l).length) (c)).ownBlock] [[⟨.slice (bl b2_6) (1) (1), 5, 1, 1, ([ch]).map byteV⟩], [⟨.slice (bl b) 1 1, 66, 2, 1, [.pointer (ofs (bl b) (0)), .slice (A2_7) ((l ++ [ch]).length) (c2_7)]⟩], [⟨.slice (A2_7) ((l ++ [ch]).length) (c2_7), 5, 1, ((l ++ [ch]).length), (l ++ [ch]).map byteV⟩]]) => ?_)
  refine O.nil ?_
  refine C.seq ?_
  refine C.region ?_
  refine O.val rfl (Ru.assign rfl) rfl ?_
  refine O.nil ?_
  refine C.ret ?_
  refine P1 (v := (.nilIface)) rfl ?_
  exact ⟨A2_7, c2_7, (by first | rfl | exact sl_congr (by first | omega | (simp; done) | (simp; omega)) | (simp; done)), (hM2_10.pick [1, 2] (by decide) rfl)⟩

theorem WriteString_fn (b : Nat) (A : Option Addr) (c : Nat) (l : List UInt8) (p : Value) (s : Str) (w : World) (hM : Mem w w [some b, (Value.slice (A) ((l).length) (c)).ownBlock] [[⟨.slice (bl b) 1 1, 66, 2, 1, [(p), .slice (A) ((l).length) (c)]⟩], [⟨.slice (A) ((l).length) (c), 5, 1, ((l).length), (l).map byteV⟩]]) (hp : p = .pointer none ∨ p = .pointer (ofs (bl b) 0)) (hl : l.length + s.length ≤ 1000000) :
    Does Tryd.prog 46 [.pointer (ofs (bl b) (0)), S (s)] w (fun v w1 => ∃ (A1 : Option Addr) (c1 : Nat), v = .tuple #[I (((s.length : Nat) : Int)), (.nilIface)] ∧ Mem w w1 [some b, (Value.slice (A) ((l).length) (c)).ownBlock] [[⟨.slice (bl b) 1 1, 66, 2, 1, [.pointer (ofs (bl b) (0)), .slice (A1) ((l ++ s).length) (c1)]⟩], [⟨.slice (A1) ((l ++ s).length) (c1), 5, 1, ((l ++ s).length), (l ++ s).map byteV⟩]]) := by
  refine Does.enter2 Tryd.func46 rfl Tryd.results46 Tryd.ntmps46 rfl ?_
  refine C.seq ?_
  refine C.region ?_
  refine O.val (v := I (0)) rfl (Ru.assign rfl) rfl ?_
  refine O.val rfl (Ru.assign rfl) rfl ?_
  refine O.nil ?_
  refine C.seq ?_
  refine C.region ?_
  refine O.val (v := .pointer (ofs (bl b) (0))) rfl (Ru.move rfl) rfl ?_
  refine O.callg [.pointer (ofs (bl b) (0))] rfl en83 rfl rfl (copyCheck_fn b (p) A ((l).length) c w (Mem.focus (Ma := [[⟨.slice (bl b) 1 1, 66, 2, 1, [(p), .slice (A) ((l).length) (c)]⟩]]) (rest := [[⟨.slice (A) ((l).length) (c), 5, 1, ((l).length), (l).map byteV⟩]]) hM rfl) (by first | exact .inl rfl | exact .inr rfl | assumption)) ?_
  rintro _ w1_1 ⟨rfl, hR1_1⟩
  have hM1_1 : Mem w w1_1 [some b, (Value.slice (A) ((l).length) (c)).ownBlock] [[⟨.slice (bl b) 1 1, 66, 2, 1, [.pointer (ofs (bl b) (0)), .slice (A) (((l).length)) (c)]⟩], [⟨.slice (A) ((l).length) (c), 5, 1, ((l).length), (l).map byteV⟩]] := Mem.call (Ma := [[⟨.slice (bl b) 1 1, 66, 2, 1, [(p), .slice (A) ((l).length) (c)]⟩]]) hM hR1_1 rfl
  refine O.nil ?_
  refine C.seq ?_
  refine C.region ?_
  refine O.val (v := .pointer (ofs (bl b) (0))) rfl (Ru.move rfl) rfl ?_
  refine O.val (v := .pointer (ofs (bl b) (0))) rfl (Ru.move rfl) rfl ?_
  refine O.val (v := .pointer (ofs (bl b) (0))) rfl (Ru.nilc rfl rfl) rfl ?_
  refine O.val (v := .pointer (ofs (bl b) (1))) rfl (Ru.fieldA fl66_1 rfl rfl) rfl ?_
  refine O.val rfl (Ru.load1 el29 rfl ((hM1_1.rd 0 rfl).ld rfl)) rfl ?_
  refine O.val (v := S (s)) rfl (Ru.move rfl) rfl ?_
  refine O.mappendS (l := s) (m1 := (l ++ s).length) (xs1 := (l ++ s).map byteV) (M' := fun A2_6 c2_6 => [[⟨.slice (bl b) 1 1, 66, 2, 1, [.pointer (ofs (bl b) (0)), .slice (A) (((l).length)) (c)]⟩], [⟨.slice (A2_6) ((l ++ s).length) (c2_6), 5, 1, ((l ++ s).length), (l ++ s).map byteV⟩]]) 1 hM1_1 rfl rfl Tryd.underlying29 Tryd.underlying9 (by kernel_rfl) rfl rfl rfl (by first | omega | (simp; omega)) (by first | (simp; done) | (simp; omega)) (by simp) (fun _ _ => rfl) (fun w2_6 A2_6 c2_6 hc2_6 hM2_6 => ?_)
  try dsimp only at hM2_6
  refine O.val (v := .pointer (ofs (bl b) (0))) rfl (Ru.nilc rfl rfl) rfl ?_
  refine O.val (v := .pointer (ofs (bl b) (1))) rfl (Ru.fieldA fl66_1 rfl rfl) rfl ?_
  refine O.mstore (vs := [.slice (A2_6) ((l ++ s).length) (c2_6)]) (xs' := [.pointer (ofs (bl b) (0)), .slice (A2_6) ((l ++ s).length) (c2_6)]) 0 0 hM2_6 rfl rfl rfl el29 rfl rfl rfl rfl rfl (by simp) (by simp) rfl rfl (fun w2_9 (hM2_9 : Mem w w2_9 [some b, (Value.slice (A) ((l).length) (c)).ownBlock] [[⟨.slice (bl b) 1 1, 66, 2, 1, [.pointer (ofs (bl b) (0)), .slice (A2_6) ((l ++ s).length) (c2_6)]⟩], [⟨.slice (A2_6) ((l ++ s).length) (c2_6), 5, 1, ((l ++ s).length), (l ++ s).map byteV⟩]]) => ?_)
  refine O.nil ?_
  refine C.seq ?_
  refine C.region ?_
  refine O.val (v := S (s)) rfl (Ru.move rfl) rfl ?_
  refine O.val (v := I (((s).length : Int))) rfl (Ru.slen Tryd.underlying9 rfl) rfl ?_
  refine O.val (v := I (((s).length : Int))) rfl (Ru.assign rfl) rfl ?_
  refine O.val rfl (Ru.assign rfl) rfl ?_
  refine O.nil ?_
  refine C.ret ?_
  refine P2 (v := I (((s).length : Int))) (v' := (.nilIface)) rfl rfl ?_
  exact ⟨A2_6, c2_6, (by first | rfl | exact sl_congr (by first | omega | (simp; done) | (simp; omega)) | (simp; done)), (hM2_9.pick [0, 1] (by decide) rfl)⟩
end Go.Proofs.YtfdlmimgooeioaaDoor
