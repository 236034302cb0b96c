/- Own layer: frames as functions, judgments on code and operations, contracts. Plain theorems; no conditions. -/
import Derived.WalkKit
import Derived.Deep.Quiet
import Derived.Maps.AppendAt
import Derived.Laws.CopyOwn
set_option linter.unusedVariables false
set_option linter.unusedSimpArgs false
namespace Go.Px
open Go.RowKit

/-! ### Frames as functions -/
abbrev Sig := Nat → Value

def upd (σ : Sig) (d : Nat) (v : Value) : Sig := fun t => bif Nat.beq t d then v else σ t
def ups : Sig → List (Nat × Value) → Sig
  | σ, [] => σ
  | σ, p :: l => upd (ups σ l) p.1 p.2
def Has (σ : Sig) : List (Nat × Value) → Prop
  | [] => True
  | p :: l => σ p.1 = p.2 ∧ Has σ l

theorem upd_same {σ : Sig} {d : Nat} {v : Value} (h : σ d = v) : upd σ d v = σ := by
  funext t
  unfold upd
  cases hb : Nat.beq t d with
  | true => have := Nat.eq_of_beq_eq_true hb; subst this; exact h.symm
  | false => rfl
theorem ups_has {σ : Sig} : ∀ {l : List (Nat × Value)}, Has σ l → ups σ l = σ
  | [], _ => rfl
  | p :: l, h => by
    show upd (ups σ l) p.1 p.2 = σ
    rw [ups_has h.2]
    exact upd_same h.1

def ev (σ : Sig) : Operand → Value
  | .tmp t => σ t
  | .const v => v
  | .global g => .pointer (some ⟨g, 0, none⟩)
  | .func f => .func (.func f) #[] #[]

structure Agree (n : Nat) (a : Act) (σ : Sig) : Prop where
  size : a.tmps.size = n
  defers : a.defers = []
  get : ∀ t, a.tmps.getD t undef = σ t

theorem Agree.eval {n : Nat} {a : Act} {σ : Sig} (h : Agree n a σ) : a.eval = ev σ := by
  funext x
  cases x with
  | tmp t => exact h.get t
  | const v => rfl
  | global g => rfl
  | func f => rfl

theorem Agree.put {n : Nat} {a : Act} {σ : Sig} (h : Agree n a σ) {d : Nat} (hd : Nat.blt d n = true) (v : Value) : Agree n (a.put (some d) v) (upd σ d v) := by
  have hd' : d < a.tmps.size := by rw [h.size]; simpa [Nat.blt_eq] using hd
  refine ⟨by simp [Act.put, h.size], h.defers, fun t => ?_⟩
  unfold upd
  simp only [Act.put]
  have hg := h.get t
  cases hb : Nat.beq t d with
  | true =>
    have := Nat.eq_of_beq_eq_true hb
    subst this
    simp [Array.getElem?_setIfInBounds, hd']
  | false =>
    have hne : d ≠ t := fun e => by subst e; rw [Nat.beq_refl] at hb; cases hb
    simp only [Array.getD_eq_getD_getElem?] at hg ⊢
    rw [Array.getElem?_setIfInBounds_ne hne]
    exact hg

theorem Agree.put_none {n : Nat} {a : Act} {σ : Sig} (h : Agree n a σ) (v : Value) : Agree n (a.put none v) σ := h

theorem wpQuiet_mono {P : Program} {ops : Array Oper} {Cw : World → Prop} {K K' : Act → Prop} (hK : ∀ a, K a → K' a) : ∀ (l : List Oper) (a : Act), wpQuiet P ops Cw K l a → wpQuiet P ops Cw K' l a
  | [], a, h => hK a h
  | o :: l, a, h => by
    unfold wpQuiet at h ⊢
    split
    · rename_i hw
      rw [if_pos hw] at h
      exact Oper.quiet_mono (fun a => wpQuiet_mono hK l a) h
    · rename_i hw
      rw [if_neg hw] at h
      exact wpQuiet_mono hK l _ h

/-! ### Judgments -/
abbrev Post := Exit → Sig → World → Prop
def lift (n : Nat) (Q : Post) : Exit → Act → World → Prop := fun e a w => ∃ σ, Agree n a σ ∧ Q e σ w

structure C (P : Program) (n : Nat) (c : Code) (Q : Post) (σ : Sig) (w : World) : Prop where
  out : ∀ a, Agree n a σ → c.wp P (lift n Q) a w

structure O (P : Program) (n : Nat) (ops l : List Oper) (Q : Post) (σ : Sig) (w : World) : Prop where
  out : ∀ a, Agree n a σ → wpList P ops.toArray (lift n Q) l a w

def thenQ (K : Sig → World → Prop) (Q : Post) : Post
  | .normal, σ, w => K σ w
  | .exit i, σ, w => Q (.exit i) σ w
  | .goto i, σ, w => Q (.goto i) σ w
  | .ret, σ, w => Q .ret σ w
  | .panic c, σ, w => Q (.panic c) σ w
  | .outgrown, σ, w => Q .outgrown σ w
def blkQ (id : Nat) (Q : Post) : Post
  | .normal, σ, w => Q .normal σ w
  | .exit i, σ, w => bif Nat.beq i id then Q .normal σ w else Q (.exit i) σ w
  | .goto i, σ, w => Q (.goto i) σ w
  | .ret, σ, w => Q .ret σ w
  | .panic c, σ, w => Q (.panic c) σ w
  | .outgrown, σ, w => Q .outgrown σ w

section
variable {P : Program} {n : Nat} {Q : Post} {σ : Sig} {w : World}

theorem C.mono {c : Code} {Q' : Post} (h : C P n c Q σ w) (hq : ∀ e σ w, Q e σ w → Q' e σ w) : C P n c Q' σ w :=
  ⟨fun a ha => wp_mono (h.out a ha) fun e a w ⟨σ, h1, h2⟩ => ⟨σ, h1, hq e σ w h2⟩⟩

theorem C.seq {x y : Code} (h : C P n x (thenQ (C P n y Q) Q) σ w) : C P n (.seq x y) Q σ w :=
  ⟨fun a ha => wp_seq (wp_mono (h.out a ha) fun e a w ⟨σ, h1, h2⟩ => by
    cases e with
    | normal => exact h2.out a h1
    | exit i => exact ⟨σ, h1, h2⟩
    | goto i => exact ⟨σ, h1, h2⟩
    | ret => exact ⟨σ, h1, h2⟩
    | panic c => exact ⟨σ, h1, h2⟩
    | outgrown => exact ⟨σ, h1, h2⟩)⟩

/-- A sequence with an assertion between: what is known of the slots L x, and I x. -/
theorem C.cut {ι : Type} (L : ι → List (Nat × Value)) (I : ι → World → Prop) {x y : Code}
    (h1 : C P n x (thenQ (fun σ w => ∃ i, Has σ (L i) ∧ I i w) Q) σ w)
    (h2 : ∀ i σ w, I i w → C P n y Q (ups σ (L i)) w) : C P n (.seq x y) Q σ w :=
  C.seq (C.mono h1 fun e σ w h => by
    cases e with
    | normal => obtain ⟨i, h3, h4⟩ := h; show C P n y Q σ w; rw [← ups_has h3]; exact h2 i σ w h4
    | exit i => exact h
    | goto i => exact h
    | ret => exact h
    | panic c => exact h
    | outgrown => exact h)

theorem C.skip (h : Q .normal σ w) : C P n .skip Q σ w := ⟨fun a ha => wp_skip ⟨σ, ha, h⟩⟩
theorem C.exit {id : Nat} (h : Q (.exit id) σ w) : C P n (.exit id) Q σ w := ⟨fun a ha => wp_exit ⟨σ, ha, h⟩⟩
theorem C.ret (h : Q .ret σ w) : C P n .ret Q σ w := ⟨fun a ha => wp_ret ⟨σ, ha, h⟩⟩

theorem C.block {id : Nat} {c : Code} (h : C P n c (blkQ id Q) σ w) : C P n (.block id c) Q σ w :=
  ⟨fun a ha => wp_block (wp_mono (h.out a ha) fun e a w ⟨σ, h1, h2⟩ => by
    cases e with
    | normal => exact ⟨σ, h1, h2⟩
    | exit i =>
      simp only [Exit.inBlock]
      by_cases hi : i = id
      · rw [if_pos hi]
        subst hi
        simp only [blkQ, Nat.beq_refl, cond_true] at h2
        exact ⟨σ, h1, h2⟩
      · rw [if_neg hi]
        have hb : Nat.beq i id = false := by
          cases hb : Nat.beq i id with
          | true => exact absurd (Nat.eq_of_beq_eq_true hb) hi
          | false => rfl
        simp only [blkQ, hb, cond_false] at h2
        exact ⟨σ, h1, h2⟩
    | goto i => exact ⟨σ, h1, h2⟩
    | ret => exact ⟨σ, h1, h2⟩
    | panic c => exact ⟨σ, h1, h2⟩
    | outgrown => exact ⟨σ, h1, h2⟩)⟩

theorem C.condb {c : Operand} {x y : Code} {t : Bool} (hc : ev σ c = .bool t) (ht : t = true → C P n x Q σ w) (hf : t = false → C P n y Q σ w) : C P n (.cond c x y) Q σ w :=
  ⟨fun a ha => wp_cond_split (t := t) (by rw [ha.eval]; exact hc) (fun h => (ht h).out a ha) (fun h => (hf h).out a ha)⟩
theorem C.cond {c : Operand} {x y : Code} {p : Prop} [Decidable p] (hc : ev σ c = .bool (decide p)) (ht : p → C P n x Q σ w) (hf : ¬ p → C P n y Q σ w) : C P n (.cond c x y) Q σ w :=
  C.condb hc (fun h => ht (of_decide_eq_true h)) (fun h => hf (of_decide_eq_false h))
theorem C.condn {c : Operand} {x y : Code} {b : Bool} (hc : ev σ c = .bool (!b)) (ht : b = false → C P n x Q σ w) (hf : b = true → C P n y Q σ w) : C P n (.cond c x y) Q σ w :=
  C.condb hc (fun h => ht (by simpa using h)) (fun h => hf (by simpa using h))
theorem C.condnp {c : Operand} {x y : Code} {p : Prop} [Decidable p] (hc : ev σ c = .bool (!decide p)) (ht : ¬ p → C P n x Q σ w) (hf : p → C P n y Q σ w) : C P n (.cond c x y) Q σ w :=
  C.condb hc (fun h => ht (by simpa using h)) (fun h => hf (by simpa using h))
theorem C.condT {c : Operand} {x y : Code} (hc : ev σ c = .bool true) (ht : C P n x Q σ w) : C P n (.cond c x y) Q σ w :=
  C.condb hc (fun _ => ht) (fun h => by cases h)
theorem C.condF {c : Operand} {x y : Code} (hc : ev σ c = .bool false) (hf : C P n y Q σ w) : C P n (.cond c x y) Q σ w :=
  C.condb hc (fun h => by cases h) (fun _ => hf)

/-- Forget all slots but those of L. -/
theorem C.fresh {c : Code} (L : List (Nat × Value)) (h : Has σ L) (hr : ∀ σ, C P n c Q (ups σ L) w) : C P n c Q σ w := by
  rw [← ups_has h]; exact hr σ

def loopQ {ι : Type} (L : ι → List (Nat × Value)) (I : ι → World → Prop) (μ : ι → Nat) (m : Nat) (Q : Post) : Post :=
  thenQ (fun σ w => ∃ x, μ x < m ∧ Has σ (L x) ∧ I x w) Q

theorem least_ex {p : Nat → Prop} : ∀ m, p m → ∃ m, p m ∧ ∀ k, p k → m ≤ k := by
  intro m
  induction m using Nat.strongRecOn with
  | _ m ih =>
    intro hm
    by_cases h : ∃ k, p k ∧ k < m
    · obtain ⟨k, hk, hlt⟩ := h; exact ih k hlt hk
    · exact ⟨m, hm, fun k hk => by
        rcases Nat.lt_or_ge k m with h' | h'
        · exact absurd ⟨k, hk, h'⟩ h
        · exact h'⟩
noncomputable def least (p : Nat → Prop) : Nat := Classical.epsilon fun m => p m ∧ ∀ k, p k → m ≤ k
theorem least_spec {p : Nat → Prop} {m : Nat} (h : p m) : p (least p) ∧ ∀ k, p k → least p ≤ k := Classical.epsilon_spec (least_ex m h)

theorem C.loop {ι : Type} (L : ι → List (Nat × Value)) (I : ι → World → Prop) (μ : ι → Nat) {c : Code} (x0 : ι)
    (hL : Has σ (L x0)) (h0 : I x0 w) (hr : ∀ x σ w, I x w → C P n c (loopQ L I μ (μ x) Q) (ups σ (L x)) w) : C P n (.loop c) Q σ w := by
  refine ⟨fun a ha => ?_⟩
  refine wp_loop (fun a w => ∃ m x σ, Agree n a σ ∧ Has σ (L x) ∧ I x w ∧ μ x = m) (fun a w => least fun m => ∃ x σ, Agree n a σ ∧ Has σ (L x) ∧ I x w ∧ μ x = m) ⟨_, x0, σ, ha, hL, h0, rfl⟩ ?_
  intro a w ⟨m, hm⟩
  obtain ⟨⟨x, σ, h1, h2, h3, h4⟩, _⟩ := least_spec (p := fun m => ∃ x σ, Agree n a σ ∧ Has σ (L x) ∧ I x w ∧ μ x = m) hm
  refine wp_mono ((hr x σ w h3).out a (by rw [ups_has h2]; exact h1)) fun e a' w' ⟨σ', g1, g2⟩ => ?_
  cases e with
  | normal =>
    obtain ⟨x', k1, k2, k3⟩ := g2
    have hp : (fun m => ∃ x σ, Agree n a' σ ∧ Has σ (L x) ∧ I x w' ∧ μ x = m) (μ x') := ⟨x', σ', g1, k2, k3, rfl⟩
    refine ⟨⟨_, hp⟩, ?_⟩
    have := (least_spec (p := fun m => ∃ x σ, Agree n a' σ ∧ Has σ (L x) ∧ I x w' ∧ μ x = m) hp).2 _ hp
    show least _ < least _
    rw [← h4]
    omega
  | exit i => exact ⟨σ', g1, g2⟩
  | goto i => exact ⟨σ', g1, g2⟩
  | ret => exact ⟨σ', g1, g2⟩
  | panic c => exact ⟨σ', g1, g2⟩
  | outgrown => exact ⟨σ', g1, g2⟩

/-! ### Operations -/
def nth : List Oper → Nat → Option Oper
  | [], _ => none
  | o :: _, 0 => some o
  | _ :: l, k + 1 => nth l k
/-- what a guard says: some true: wanted, some false: passed over -/
def gok (ops : List Oper) (σ : Sig) : Option (Nat × Bool) → Bool
  | none => true
  | some (j, want) => match nth ops j with
    | some o => match o.dst with
      | some d => match σ d with
        | .bool b => b == want
        | _ => false
      | none => false
    | none => false
theorem nth_eq : ∀ (l : List Oper) (k : Nat), nth l k = l[k]?
  | [], _ => rfl
  | _ :: _, 0 => rfl
  | _ :: l, k + 1 => by simp [nth, nth_eq l k]

theorem gok_wanted {ops : List Oper} {a : Act} {dst op T pos after g b} (ha : Agree n a σ) (h : gok ops σ g = b) (hb : b = true ∨ ∃ j want o d u, g = some (j, want) ∧ nth ops j = some o ∧ o.dst = some d ∧ σ d = .bool u) :
    Region.wanted ⟨dst, op, T, pos, after, g⟩ (yielded ops.toArray a.tmps) = b := by
  have key : ∀ j o d u, nth ops j = some o → o.dst = some d → σ d = .bool u → yielded ops.toArray a.tmps j = some u := by
    intro j o d u h1 h2 h3
    have hg := ha.get d
    rw [h3] at hg
    have hlt : a.tmps[d]? = some (.bool u) := by
      rw [Array.getD_eq_getD_getElem?] at hg
      cases hx : a.tmps[d]? with
      | none => rw [hx] at hg; simp [undef] at hg
      | some v => rw [hx] at hg; simpa using hg
    unfold yielded
    rw [nth_eq] at h1
    simp [h1, h2, hlt]
  cases g with
  | none => simpa [gok, Region.wanted] using h
  | some g =>
    obtain ⟨j, want⟩ := g
    have : ∃ o d u, nth ops j = some o ∧ o.dst = some d ∧ σ d = .bool u := by
      rcases hb with rfl | ⟨j', want', o, d, u, he, h1, h2, h3⟩
      · simp only [gok] at h
        split at h
        · rename_i o ho
          split at h
          · rename_i d hd
            split at h
            · rename_i u hu; exact ⟨o, d, u, ho, hd, hu⟩
            · cases h
          · cases h
        · cases h
      · cases he; exact ⟨o, d, u, h1, h2, h3⟩
    obtain ⟨o, d, u, h1, h2, h3⟩ := this
    simp only [Region.wanted, key j o d u h1 h2 h3]
    simp only [gok, h1, h2, h3] at h
    simpa using h

/-- what an operation yields -/
def Ru (P : Program) (σ : Sig) (o : Oper) (w : World) (v : Value) : Prop := (execOp (ev σ) o).run P w = .ok (.value v) w
def Rw (P : Program) (σ : Sig) (o : Oper) (w : World) (v : Value) (w' : World) : Prop := (execOp (ev σ) o).run P w = .ok (.value v) w'
def Rs (P : Program) (σ : Sig) (o : Oper) (w w' : World) : Prop := (execOp (ev σ) o).run P w = .ok .skip w'

variable {ops rest : List Oper}
theorem O.nil (h : Q .normal σ w) : O P n ops [] Q σ w := ⟨fun _ ha => ⟨σ, ha, h⟩⟩
theorem C.region {id : Nat} {l : List Oper} (h : O P n l l Q σ w) : C P n (.region id l.toArray false) Q σ w :=
  ⟨fun a ha => wp_region_lit (h.out a ha)⟩

theorem O.valW {d : Nat} {op T pos after g} {v : Value} {w' : World} (hg : gok ops σ g = true) (hv : Rw P σ ⟨some d, op, T, pos, after, g⟩ w v w') (hd : Nat.blt d n = true)
    (h : O P n ops rest Q (upd σ d v) w') : O P n ops (⟨some d, op, T, pos, after, g⟩ :: rest) Q σ w :=
  ⟨fun a ha => by
    show wpList P ops.toArray (lift n Q) (_ :: rest) a w
    unfold wpList
    rw [if_pos (gok_wanted ha hg (.inl rfl))]
    refine .inl ?_
    unfold Oper.wp
    rw [ha.eval, hv]
    exact h.out _ (ha.put hd v)⟩
theorem O.val {d : Nat} {op T pos after g} {v : Value} (hg : gok ops σ g = true) (hv : Ru P σ ⟨some d, op, T, pos, after, g⟩ w v) (hd : Nat.blt d n = true)
    (h : O P n ops rest Q (upd σ d v) w) : O P n ops (⟨some d, op, T, pos, after, g⟩ :: rest) Q σ w := O.valW hg hv hd h
theorem O.st {op T pos after g} {w' : World} (hg : gok ops σ g = true) (hv : Rs P σ ⟨none, op, T, pos, after, g⟩ w w')
    (h : O P n ops rest Q σ w') : O P n ops (⟨none, op, T, pos, after, g⟩ :: rest) Q σ w :=
  ⟨fun a ha => by
    show wpList P ops.toArray (lift n Q) (_ :: rest) a w
    unfold wpList
    rw [if_pos (gok_wanted ha hg (.inl rfl))]
    refine .inl ?_
    unfold Oper.wp
    rw [ha.eval, hv]
    exact h.out _ ha⟩
/-- a value that nobody keeps -/
theorem O.valN {op T pos after g} {v : Value} {w' : World} (hg : gok ops σ g = true) (hv : Rw P σ ⟨none, op, T, pos, after, g⟩ w v w')
    (h : O P n ops rest Q σ w') : O P n ops (⟨none, op, T, pos, after, g⟩ :: rest) Q σ w :=
  ⟨fun a ha => by
    show wpList P ops.toArray (lift n Q) (_ :: rest) a w
    unfold wpList
    rw [if_pos (gok_wanted ha hg (.inl rfl))]
    refine .inl ?_
    unfold Oper.wp
    rw [ha.eval, hv]
    exact h.out _ ha⟩
/-- the guard says no: passed over -/
theorem O.pass {d : Nat} {op T pos after j want o dj u} (h1 : nth ops j = some o) (h2 : o.dst = some dj) (h3 : σ dj = .bool u) (hg : (u == want) = false) (hd : Nat.blt d n = true)
    (h : O P n ops rest Q (upd σ d undef) w) : O P n ops (⟨some d, op, T, pos, after, some (j, want)⟩ :: rest) Q σ w :=
  ⟨fun a ha => by
    show wpList P ops.toArray (lift n Q) (_ :: rest) a w
    unfold wpList
    rw [if_neg (by rw [gok_wanted (b := false) ha (by simpa [gok, h1, h2, h3] using hg) (.inr ⟨j, want, o, dj, u, rfl, h1, h2, h3⟩)]; simp)]
    exact h.out _ (ha.put hd undef)⟩
theorem gok_undef {ops : List Oper} {a : Act} {dst op T pos after j want o d} (ha : Agree n a σ) (h1 : nth ops j = some o) (h2 : o.dst = some d) (h3 : σ d = undef) :
    Region.wanted ⟨dst, op, T, pos, after, some (j, want)⟩ (yielded ops.toArray a.tmps) = false := by
  have hg := ha.get d
  rw [h3] at hg
  have hy : yielded ops.toArray a.tmps j = none := by
    unfold yielded
    rw [nth_eq] at h1
    simp only [List.getElem?_toArray, h1, Option.bind_some, h2]
    rw [Array.getD_eq_getD_getElem?] at hg
    cases hx : a.tmps[d]? with
    | none => rfl
    | some v => rw [hx] at hg; simp at hg; subst hg; rfl
  simp [Region.wanted, hy]
theorem O.passU {d : Nat} {op T pos after j want o dj} (h1 : nth ops j = some o) (h2 : o.dst = some dj) (h3 : σ dj = undef) (hd : Nat.blt d n = true)
    (h : O P n ops rest Q (upd σ d undef) w) : O P n ops (⟨some d, op, T, pos, after, some (j, want)⟩ :: rest) Q σ w :=
  ⟨fun a ha => by
    show wpList P ops.toArray (lift n Q) (_ :: rest) a w
    unfold wpList
    rw [if_neg (by rw [gok_undef ha h1 h2 h3]; simp)]
    exact h.out _ (ha.put hd undef)⟩
/-- part on a bool that stands in a slot -/
theorem O.part {l : List Oper} (d : Nat) (b : Bool) (hb : σ d = .bool b) (ht : b = true → O P n ops l Q (upd σ d (.bool true)) w) (hf : b = false → O P n ops l Q (upd σ d (.bool false)) w) : O P n ops l Q σ w := by
  cases b with
  | true => have := ht rfl; rwa [upd_same hb] at this
  | false => have := hf rfl; rwa [upd_same hb] at this
/-- part on a proposition -/
theorem O.partp {l : List Oper} (d : Nat) (p : Prop) [Decidable p] (hb : σ d = .bool (decide p)) (ht : p → O P n ops l Q (upd σ d (.bool true)) w) (hf : ¬ p → O P n ops l Q (upd σ d (.bool false)) w) : O P n ops l Q σ w :=
  O.part d _ hb (fun h => ht (of_decide_eq_true h)) (fun h => hf (of_decide_eq_false h))

/-! ### Calls -/
structure Does (P : Program) (f : FuncId) (vs : List Value) (w : World) (R : Value → World → Prop) : Prop where
  out : Calls P f vs.toArray w fun e w' => ∃ v, e = .returned v ∧ R v w'

theorem Does.mono {f : FuncId} {vs : List Value} {R R' : Value → World → Prop} (h : Does P f vs w R) (hr : ∀ v w', R v w' → R' v w') : Does P f vs w R' :=
  ⟨h.out.mono fun _ _ ⟨v, he, hR⟩ => ⟨v, he, hr _ _ hR⟩⟩

def evs (σ : Sig) : List Operand → List Value
  | [] => []
  | x :: l => ev σ x :: evs σ l
theorem evs_eq : ∀ (l : List Operand), evs σ l = l.map (ev σ)
  | [] => rfl
  | _ :: l => by simp [evs, evs_eq l]

/-- function number f is entered by a call -/
def Enters (P : Program) (f : FuncId) : Prop := ∀ args w, (callFunc f args).run P w = .ok (.enter f args) w
theorem enters_of {f : FuncId} {fn : Func} (hf : P.funcs[f]? = some fn) (hb : fn.body.isNone = false) (hn : (fn.name == "runtime.NumGoroutine") = false) : Enters P f := by
  intro args w
  have h1 : ¬ ((fn.name == "runtime.NumGoroutine") = true) := by rw [hn]; exact Bool.false_ne_true
  have h2 : ¬ (fn.body.isNone = true) := by rw [hb]; exact Bool.false_ne_true
  simp only [callFunc, Sem.run_bind, run_program, Result.andThen_ok, hf]
  rw [if_neg h1, if_neg h2]
  rfl

theorem O.callg {d : Nat} {f : FuncId} {args ts T pos after g} (vs : List Value) {R : Value → World → Prop} (hg : gok ops σ g = true) (hen : Enters P f) (hvs : evs σ args = vs) (hd : Nat.blt d n = true)
    (hc : Does P f vs w R) (h : ∀ v w', R v w' → O P n ops rest Q (upd σ d v) w') :
    O P n ops (⟨some d, .call ⟨.value (.func f), args.toArray, ts⟩, T, pos, after, g⟩ :: rest) Q σ w :=
  ⟨fun a ha => by
    show wpList P ops.toArray (lift n Q) (_ :: rest) a w
    unfold wpList
    rw [if_pos (gok_wanted ha hg (.inl rfl))]
    refine .inl ?_
    unfold Oper.wp
    rw [ha.eval]
    have : (execOp (ev σ) ⟨some d, .call ⟨.value (.func f), args.toArray, ts⟩, T, pos, after, g⟩).run P w = .ok (.enter f vs.toArray) w := by
      subst hvs
      simp [execOp, resolve, ev, Deferred.ofValue, invoke, evs_eq, hen _ _]
    rw [this]
    refine hc.out.mono fun e w' ⟨v, he, hR⟩ => ?_
    subst he
    exact (h v w' hR).out _ (ha.put hd v)⟩
theorem O.call {d : Nat} {f : FuncId} {args ts T pos after} (vs : List Value) {R : Value → World → Prop} (hen : Enters P f) (hvs : evs σ args = vs) (hd : Nat.blt d n = true)
    (hc : Does P f vs w R) (h : ∀ v w', R v w' → O P n ops rest Q (upd σ d v) w') :
    O P n ops (⟨some d, .call ⟨.value (.func f), args.toArray, ts⟩, T, pos, after, none⟩ :: rest) Q σ w := O.callg vs rfl hen hvs hd hc h

/-! ### Entering a function, leaving it -/
def arg (vs : List Value) : Sig := fun t => vs.getD t undef
structure Ret1 (t : Nat) (R : Value → World → Prop) (σ : Sig) (w : World) : Prop where
  out : R (σ t) w
structure Ret2 (t u : Nat) (R : Value → World → Prop) (σ : Sig) (w : World) : Prop where
  out : R (.tuple #[σ t, σ u]) w
structure Ret0 (R : Value → World → Prop) (w : World) : Prop where
  out : R (.tuple #[]) w
def post1 (t : Nat) (R : Value → World → Prop) : Post
  | .normal, σ, w => Ret1 t R σ w
  | .ret, σ, w => Ret1 t R σ w
  | _, _, _ => False
def post0 (R : Value → World → Prop) : Post
  | .normal, _, w => Ret0 R w
  | .ret, _, w => Ret0 R w
  | _, _, _ => False
def post2 (t u : Nat) (R : Value → World → Prop) : Post
  | .normal, σ, w => Ret2 t u R σ w
  | .ret, σ, w => Ret2 t u R σ w
  | _, _, _ => False

theorem arg_agree {n : Nat} {vs : List Value} (h : vs.length ≤ n) : Agree n { tmps := vs.toArray ++ Array.replicate (n - vs.toArray.size) undef, defers := [] } (arg vs) := by
  refine ⟨by simp; omega, rfl, fun t => ?_⟩
  simp only [arg, Array.getD_eq_getD_getElem?, List.getD_eq_getElem?_getD]
  rw [Array.getElem?_append]
  by_cases ht : t < vs.length
  · simp [ht]
  · simp [ht, Array.getElem?_replicate]
    split <;> rfl

theorem Does.enter1 {f : FuncId} {fn : Func} {c : Code} {t : Nat} {vs : List Value} {R : Value → World → Prop} (hf : P.funcs[f]? = some fn) (hb : fn.body = some c) (hr : fn.results = #[.tmp t]) (hn : fn.ntmps = n) (hl : Nat.ble vs.length n = true)
    (h : C P n c (post1 t R) (arg vs) w) : Does P f vs w R := by
  subst hn
  refine ⟨calls_of_wp hf hb (wp_mono (h.out _ (arg_agree (by simpa using hl))) fun e a w ⟨σ, ha, hq⟩ => ?_)⟩
  have hR : e = .normal ∨ e = .ret → R (σ t) w := by
    intro he; rcases he with rfl | rfl <;> exact hq.out
  cases e with
  | normal => exact ⟨ha.defers, _, results_tmp hr _ _ _, _, rfl, by rw [ha.get t]; exact hR (.inl rfl)⟩
  | ret => exact ⟨ha.defers, _, results_tmp hr _ _ _, _, rfl, by rw [ha.get t]; exact hR (.inr rfl)⟩
  | exit i => exact hq
  | goto i => exact hq
  | panic c => exact hq.elim
  | outgrown => exact hq.elim
theorem Does.enter2 {f : FuncId} {fn : Func} {c : Code} {t u : Nat} {vs : List Value} {R : Value → World → Prop} (hf : P.funcs[f]? = some fn) (hb : fn.body = some c) (hr : fn.results = #[.tmp t, .tmp u]) (hn : fn.ntmps = n) (hl : Nat.ble vs.length n = true)
    (h : C P n c (post2 t u R) (arg vs) w) : Does P f vs w R := by
  subst hn
  refine ⟨calls_of_wp hf hb (wp_mono (h.out _ (arg_agree (by simpa using hl))) fun e a w ⟨σ, ha, hq⟩ => ?_)⟩
  have hR : e = .normal ∨ e = .ret → R (.tuple #[σ t, σ u]) w := by
    intro he; rcases he with rfl | rfl <;> exact hq.out
  cases e with
  | normal => exact ⟨ha.defers, _, results_tmp2 hr _ _ _, _, rfl, by rw [ha.get t, ha.get u]; exact hR (.inl rfl)⟩
  | ret => exact ⟨ha.defers, _, results_tmp2 hr _ _ _, _, rfl, by rw [ha.get t, ha.get u]; exact hR (.inr rfl)⟩
  | exit i => exact hq
  | goto i => exact hq
  | panic c => exact hq.elim
  | outgrown => exact hq.elim
theorem Does.enter0 {f : FuncId} {fn : Func} {c : Code} {vs : List Value} {R : Value → World → Prop} (hf : P.funcs[f]? = some fn) (hb : fn.body = some c) (hr : fn.results = #[]) (hn : fn.ntmps = n) (hl : Nat.ble vs.length n = true)
    (h : C P n c (post0 R) (arg vs) w) : Does P f vs w R := by
  subst hn
  refine ⟨calls_of_wp hf hb (wp_mono (h.out _ (arg_agree (by simpa using hl))) fun e a w ⟨σ, ha, hq⟩ => ?_)⟩
  have hR : e = .normal ∨ e = .ret → R (.tuple #[]) w := by
    intro he; rcases he with rfl | rfl <;> exact hq.out
  cases e with
  | normal => exact ⟨ha.defers, _, results_none hr _ _ _, _, rfl, hR (.inl rfl)⟩
  | ret => exact ⟨ha.defers, _, results_none hr _ _ _, _, rfl, hR (.inr rfl)⟩
  | exit i => exact hq
  | goto i => exact hq
  | panic c => exact hq.elim
  | outgrown => exact hq.elim
theorem P1 {t : Nat} {R : Value → World → Prop} {v : Value} (hv : σ t = v) (h : R v w) : Ret1 t R σ w := ⟨by rw [hv]; exact h⟩
theorem P2 {t u : Nat} {R : Value → World → Prop} {v v' : Value} (hv : σ t = v) (hv' : σ u = v') (h : R (.tuple #[v, v']) w) : Ret2 t u R σ w := ⟨by rw [hv, hv']; exact h⟩
theorem P0 {R : Value → World → Prop} (h : R (.tuple #[]) w) : Ret0 R w := ⟨h⟩

/-! ### Regions that draw their order: quiet operations -/
structure QO (P : Program) (n : Nat) (ops : List Oper) (Cw : World → Prop) (K : Sig → Prop) (l : List Oper) (σ : Sig) : Prop where
  out : ∀ a, Agree n a σ → wpQuiet P ops.toArray Cw (fun a' => ∃ σ', Agree n a' σ' ∧ K σ') l a

variable {Cw : World → Prop} {K : Sig → Prop}
theorem QO.nil (h : K σ) : QO P n ops Cw K [] σ := ⟨fun _ ha => ⟨σ, ha, h⟩⟩
theorem QO.val {d : Nat} {op T pos after g} {v : Value} (hg : gok ops σ g = true) (hv : ∀ w, Cw w → Ru P σ ⟨some d, op, T, pos, after, g⟩ w v) (hd : Nat.blt d n = true)
    (h : QO P n ops Cw K rest (upd σ d v)) : QO P n ops Cw K (⟨some d, op, T, pos, after, g⟩ :: rest) σ :=
  ⟨fun a ha => by
    unfold wpQuiet
    rw [if_pos (gok_wanted ha hg (.inl rfl))]
    refine ⟨v, fun w hw => ?_, h.out _ (ha.put hd v)⟩
    unfold Oper.quietAt
    rw [ha.eval, hv w hw]
    exact ⟨rfl, rfl⟩⟩
theorem QO.pass {d : Nat} {op T pos after j want o dj u} (h1 : nth ops j = some o) (h2 : o.dst = some dj) (h3 : σ dj = .bool u) (hg : (u == want) = false) (hd : Nat.blt d n = true)
    (h : QO P n ops Cw K rest (upd σ d undef)) : QO P n ops Cw K (⟨some d, op, T, pos, after, some (j, want)⟩ :: rest) σ :=
  ⟨fun a ha => by
    unfold wpQuiet
    rw [if_neg (by rw [gok_wanted (b := false) ha (by simpa [gok, h1, h2, h3] using hg) (.inr ⟨j, want, o, dj, u, rfl, h1, h2, h3⟩)]; simp)]
    exact h.out _ (ha.put hd undef)⟩
theorem QO.passU {d : Nat} {op T pos after j want o dj} (h1 : nth ops j = some o) (h2 : o.dst = some dj) (h3 : σ dj = undef) (hd : Nat.blt d n = true)
    (h : QO P n ops Cw K rest (upd σ d undef)) : QO P n ops Cw K (⟨some d, op, T, pos, after, some (j, want)⟩ :: rest) σ :=
  ⟨fun a ha => by
    unfold wpQuiet
    rw [if_neg (by rw [gok_undef ha h1 h2 h3]; simp)]
    exact h.out _ (ha.put hd undef)⟩
theorem QO.part {l : List Oper} (d : Nat) (b : Bool) (hb : σ d = .bool b) (ht : b = true → QO P n ops Cw K l (upd σ d (.bool true))) (hf : b = false → QO P n ops Cw K l (upd σ d (.bool false))) : QO P n ops Cw K l σ := by
  cases b with
  | true => have := ht rfl; rwa [upd_same hb] at this
  | false => have := hf rfl; rwa [upd_same hb] at this
theorem QO.partp {l : List Oper} (d : Nat) (p : Prop) [Decidable p] (hb : σ d = .bool (decide p)) (ht : p → QO P n ops Cw K l (upd σ d (.bool true))) (hf : ¬ p → QO P n ops Cw K l (upd σ d (.bool false))) : QO P n ops Cw K l σ :=
  QO.part d _ hb (fun h => ht (of_decide_eq_true h)) (fun h => hf (of_decide_eq_false h))
theorem QO.callg {d : Nat} {f : FuncId} {args ts T pos after g} (vs : List Value) {v : Value} (hg : gok ops σ g = true) (hen : Enters P f) (hvs : evs σ args = vs) (hd : Nat.blt d n = true)
    (hc : ∀ w, Cw w → Does P f vs w fun u w' => u = v ∧ Cw w') (h : QO P n ops Cw K rest (upd σ d v)) :
    QO P n ops Cw K (⟨some d, .call ⟨.value (.func f), args.toArray, ts⟩, T, pos, after, g⟩ :: rest) σ :=
  ⟨fun a ha => by
    unfold wpQuiet
    rw [if_pos (gok_wanted ha hg (.inl rfl))]
    refine ⟨v, fun w hw => ?_, h.out _ (ha.put hd v)⟩
    unfold Oper.quietAt
    rw [ha.eval]
    have : (execOp (ev σ) ⟨some d, .call ⟨.value (.func f), args.toArray, ts⟩, T, pos, after, g⟩).run P w = .ok (.enter f vs.toArray) w := by
      subst hvs
      simp [execOp, resolve, ev, Deferred.ofValue, invoke, evs_eq, hen _ _]
    rw [this]
    exact ⟨rfl, (hc w hw).out.mono fun e w' ⟨u, he, hu, hC⟩ => ⟨by rw [he, hu], hC⟩⟩⟩

theorem C.draws {id : Nat} {l : List Oper} (Cw : World → Prop) (hm : P.follows .mixedOrders = true) (hB : Region.lexB .any l.toArray = true) (hC : Cw { w with drawn := w.drawn + 1 })
    (h : QO P n l Cw (fun σ' => ∀ w', Cw w' → Q .normal σ' w') l σ) : C P n (.region id l.toArray true) Q σ w :=
  ⟨fun a ha => wp_region_quiet hm hB hC (by
    have := h.out a ha
    refine wpQuiet_mono ?_ l a this
    intro a' ⟨σ', h1, h2⟩ w' hw'
    exact ⟨σ', h1, h2 w' hw'⟩)⟩
end
end Go.Px
