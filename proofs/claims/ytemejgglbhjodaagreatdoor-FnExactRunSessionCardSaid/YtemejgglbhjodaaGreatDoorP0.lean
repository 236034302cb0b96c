/- Own layer, part 1: plain theorems on the walk of this program's functions and on what they compute; no conditions. -/
import Derived.WalkKit
import Derived.Deep.Quiet
import Derived.Maps.AppendAt
import Derived.Laws.CopyOwn
import Derived.Lib.UnsafeStr
import Derived.Laws.StructEq
import Derived.ProofKit
import Derived.OpenShut
import Derived.ShutString
import Derived.ChangeOld
import Derived.SliceStrings
import Derived.Deep.Slices
import Derived.Deep.Fields
import Derived.ChangeSame
import Derived.OrdersHeld
import Derived.Lib.Zigzag
import Derived.Lib.AppendZerosOnto
import Derived.Lib.Overlaps
import Derived.Laws.IdiomCopy
set_option linter.unusedVariables false
set_option linter.unusedSimpArgs false
section
namespace Go.Px
theorem aA : type_of% @List.length_append := @List.length_append
theorem aB : type_of% @List.length_take := @List.length_take
theorem aC : type_of% @List.getElem_mem := @List.getElem_mem
theorem aD : type_of% @List.getD_eq_getElem?_getD := @List.getD_eq_getElem?_getD
theorem aE : type_of% @List.take_of_length_le := @List.take_of_length_le
theorem aG : type_of% @List.length_cons := @List.length_cons
theorem aI : type_of% @List.length_drop := @List.length_drop
theorem aJ : type_of% @List.getElem_of_mem := @List.getElem_of_mem
theorem aK : type_of% @List.flatMap_cons := @List.flatMap_cons
theorem aL : type_of% @List.getElem?_eq_getElem := @List.getElem?_eq_getElem
theorem aP : type_of% @List.eq_nil_of_length_eq_zero := @List.eq_nil_of_length_eq_zero
theorem aU : type_of% @List.mem_singleton := @List.mem_singleton
theorem aW : type_of% @Bool.and_eq_true := @Bool.and_eq_true
theorem aZ : type_of% @List.mem_flatMap := @List.mem_flatMap
theorem bA : type_of% @List.length_nil := @List.length_nil
theorem bC : type_of% @List.length_map := @List.length_map
theorem bD : type_of% @List.flatMap_append := @List.flatMap_append
theorem bE : type_of% @List.mem_append := @List.mem_append
theorem bI : type_of% @Nat.zero_le := @Nat.zero_le
theorem bJ : type_of% @List.mem_cons_of_mem := @List.mem_cons_of_mem
theorem bK : type_of% @Nat.mul_le_mul_right := @Nat.mul_le_mul_right
theorem bM : type_of% @Nat.add_mul := @Nat.add_mul
theorem bO : type_of% @List.append_assoc := @List.append_assoc
theorem bP : type_of% @List.nodup_append := @List.nodup_append
theorem bT : type_of% @List.take_append_drop := @List.take_append_drop
theorem bU : type_of% @List.mem_map := @List.mem_map
theorem bV : type_of% @List.mem_cons := @List.mem_cons
theorem bY : type_of% @List.set_eq_take_append_cons_drop := @List.set_eq_take_append_cons_drop
theorem cB : type_of% @List.drop_eq_getElem_cons := @List.drop_eq_getElem_cons
theorem cC : type_of% @List.getElem?_eq_some_iff := @List.getElem?_eq_some_iff
theorem cE : type_of% @List.mem_of_getElem? := @List.mem_of_getElem?
theorem cI : type_of% @List.getElem_map := @List.getElem_map
theorem cK : type_of% @List.nodup_cons := @List.nodup_cons
theorem cN : type_of% @List.mem_of_mem_take := @List.mem_of_mem_take
theorem cO : type_of% @List.pairwise_append := @List.pairwise_append
theorem cR : type_of% @Nat.le_trans := @Nat.le_trans
theorem cS : type_of% @List.append_nil := @List.append_nil
theorem cX : type_of% @Bool.and_false := @Bool.and_false
theorem cZ : type_of% @List.flatten_cons := @List.flatten_cons
theorem dB : type_of% @List.getElem_cons_zero := @List.getElem_cons_zero
theorem dC : type_of% @List.mem_of_mem_drop := @List.mem_of_mem_drop
theorem dD : type_of% @Nat.le_refl := @Nat.le_refl
theorem dG : type_of% @List.mem_cons_self := @List.mem_cons_self
theorem dH : type_of% @List.mem_take_iff_getElem := @List.mem_take_iff_getElem
theorem dJ : type_of% @List.perm_iff_count := @List.perm_iff_count
theorem dK : type_of% @List.drop_of_length_le := @List.drop_of_length_le
theorem dM : type_of% @List.mem_flatten := @List.mem_flatten
theorem dS : type_of% @List.mem_drop_iff_getElem := @List.mem_drop_iff_getElem
theorem dT : type_of% @List.pairwise_iff_getElem := @List.pairwise_iff_getElem
theorem dU : type_of% @Bool.eq_iff_iff := @Bool.eq_iff_iff
theorem dV : type_of% @List.all_eq_true := @List.all_eq_true
theorem dW : type_of% @List.map_append := @List.map_append
theorem dX : type_of% @Nat.min_eq_left := @Nat.min_eq_left
theorem dZ : type_of% @List.mem_append_left := @List.mem_append_left
theorem eQ : type_of% @List.mem_append_right := @List.mem_append_right
theorem eS : type_of% @Int.toNat_natCast := @Int.toNat_natCast
theorem eU : type_of% @Nat.add_sub_cancel := @Nat.add_sub_cancel
theorem eW : type_of% @List.length_set := @List.length_set
theorem eX : type_of% @List.mem_filter := @List.mem_filter
theorem fB : type_of% @Nat.lt_or_ge := @Nat.lt_or_ge
theorem fC : type_of% @Option.getD_some := @Option.getD_some
theorem fR : type_of% @List.pairwise_cons := @List.pairwise_cons
theorem fS : type_of% @Nat.lt_of_lt_of_le := @Nat.lt_of_lt_of_le
theorem gE : type_of% @List.getElem?_append_right := @List.getElem?_append_right
theorem gG : type_of% @List.map_congr_left := @List.map_congr_left
theorem gO : type_of% @List.getElem?_append_left := @List.getElem?_append_left
theorem gX : type_of% @List.getElem_range := @List.getElem_range
theorem iJ : type_of% @List.getElem_take := @List.getElem_take
theorem iR : type_of% @List.getElem_cons_succ := @List.getElem_cons_succ
theorem iU : type_of% @List.ext_getElem := @List.ext_getElem
theorem jB : type_of% @List.pairwise_flatten := @List.pairwise_flatten
theorem jC : type_of% @List.perm_append_comm := @List.perm_append_comm
theorem jD : type_of% @List.set_getElem_self := @List.set_getElem_self
theorem jE : type_of% @Nat.eq_of_beq_eq_true := @Nat.eq_of_beq_eq_true
theorem jN : type_of% @List.count_append := @List.count_append
theorem jO : type_of% @List.take_succ_eq_append_getElem := @List.take_succ_eq_append_getElem
theorem jP : type_of% @Nat.zero_add := @Nat.zero_add
theorem jT : type_of% @List.idxOf_lt_length_iff := @List.idxOf_lt_length_iff
theorem kF : type_of% @List.replicate_succ := @List.replicate_succ
theorem kQ : type_of% @List.take_append_of_le_length := @List.take_append_of_le_length
theorem kR : type_of% @List.filter_append := @List.filter_append
theorem kS : type_of% @List.getElem?_set_self := @List.getElem?_set_self
theorem kT : type_of% @Nat.eq_or_lt_of_le := @Nat.eq_or_lt_of_le
theorem kU : type_of% @Nat.pow_succ := @Nat.pow_succ
theorem lC : type_of% @Option.map_some := @Option.map_some
theorem lL : type_of% @Bool.and_eq_false_iff := @Bool.and_eq_false_iff
theorem lM : type_of% @List.set_append_right := @List.set_append_right
theorem lN : type_of% @List.getElem_drop := @List.getElem_drop
theorem lU : type_of% @List.take_take := @List.take_take
theorem mH : type_of% @List.getD_cons_succ := @List.getD_cons_succ
theorem mN : type_of% @List.map_cons := @List.map_cons
theorem mQ : type_of% @List.count_cons := @List.count_cons
theorem mV : type_of% @List.getElem?_drop := @List.getElem?_drop
theorem nQ : type_of% @List.drop_sublist := @List.drop_sublist
theorem nR : type_of% @List.map_map := @List.map_map
theorem nS : type_of% @Nat.sub_self := @Nat.sub_self
theorem t1 {p : Prop} (h : p := by omega) : p := h
theorem t2 {p : Prop} (h : p := by first | rfl | simp | (simp; omega)) : p := h
theorem t3 {p : Prop} (h : p := by first | omega | (simp; omega)) : p := h
theorem t4 {p : Prop} (h : p := by first | omega | (simp only [aA, eW, aG, bA]; omega)) : p := h
theorem t5 {p : Prop} (h : p := by first | omega | (simp only [aA, aG, bA]; omega)) : p := h
theorem t6 {p : Prop} (h : p := by first | rfl | (simp; done) | omega | (simp; omega)) : p := h
theorem t7 {p : Prop} (h : p := by (try dsimp only); omega) : p := h
theorem t8 {p : Prop} (h : p := by first | omega | (simp; done) | (simp; omega)) : p := h
theorem t9 {p : Prop} (h : p := by exact (by (try dsimp only); omega)) : p := h
theorem t10 {p : Prop} (h : p := by first | rfl | omega | (simp; omega) | simp) : p := h
theorem t11 {p : Prop} (h : p := by simp) : p := h
theorem t12 {p : Prop} (h : p := by exact trivial) : p := h
theorem t13 {p : Prop} (h : p := by simp; omega) : p := h
theorem t14 {p : Prop} (h : p := by first | omega | (simp only [eW]; omega)) : p := h
theorem t15 {p : Prop} (h : p := by (try dsimp only); simp) : p := h
theorem t16 {p : Prop} (h : p := by first | omega | (simp only [aB, aI]; omega)) : p := h
theorem t17 {p : Prop} (h : p := by first | omega | (simp only [aK, List.flatMap_nil, aA, aG, bA]; omega)) : p := h
theorem t18 {p : Prop} (h : p := by first | omega | (simp only [aA]; omega)) : p := h
theorem t19 {p : Prop} (h : p := by decide) : p := h
theorem t20 {p : Prop} (h : p := by (try dsimp only); simp only [aA, aG, bA]; omega) : p := h
theorem t21 {p : Prop} (h : p := by simp only [aA, aG, bA]; omega) : p := h
theorem t22 {p : Prop} (h : p := by (try dsimp only); simp; omega) : p := h
theorem t23 {p : Prop} (h : p := by simp only [bC]; omega) : p := h
theorem t24 {p : Prop} (h : p := by simp only [eW]; omega) : p := h
theorem t25 {p : Prop} (h : p := by assumption) : p := h
end Go.Px
end
section
namespace Go.Px
open Go.RowKit
abbrev Sig := Nat -> Value
def upd (σ : Sig) (d : Nat) (v : Value) : Sig := λ t => bif Nat.beq t d then v else σ t
def ups : Sig -> List (Nat × Value) -> Sig
 | σ, [] => σ
 | σ, p :: l => upd (ups σ l) p.1 p.2
def Has (σ : Sig) : List (Nat × Value) -> Prop
 | [] => True
 | p :: l => σ p.1 = p.2 /\ Has σ l
theorem qP {σ : Sig} {d : Nat} {v : Value} (h : σ d = v) : upd σ d v = σ := by
 funext t
 unfold upd
 cases hb : Nat.beq t d with
 | true => have := jE hb; subst this; exact h.symm
 | false => rfl
theorem mG {σ : Sig} : ∀ {l : List (Nat × Value)}, Has σ l -> ups σ l = σ
 | [], _ => rfl
 | p :: l, h => by
  show upd (ups σ l) p.1 p.2 = σ
  rw [mG h.2]
  exact qP h.1
def ev (σ : Sig) : Operand -> Value
 | .tmp t => σ t
 | .const v => v
 | .global g => .pointer (some ⟨g, 0, none⟩)
 | .func f => .func (.func f) #[] #[]
structure lO (n : Nat) (a : Act) (σ : Sig) : Prop where
 size : a.tmps.size = n
 defers : a.defers = []
 get : ∀ t, a.tmps.getD t undef = σ t
theorem lO.eval {n : Nat} {a : Act} {σ : Sig} (h : lO n a σ) : a.eval = ev σ := by
 funext x
 cases x with
 | tmp t => exact h.get t
 | const v => rfl
 | global g => rfl
 | func f => rfl
theorem lO.put {n : Nat} {a : Act} {σ : Sig} (h : lO n a σ) {d : Nat} (hd : Nat.blt d n = true) (v : Value) : lO n (a.put (some d) v) (upd σ d v) := by
 have hd' : d < a.tmps.size := by rw [h.size]; simpa [Nat.blt_eq] using hd
 refine ⟨by simp [Act.put, h.size], h.defers, λ t => ?_⟩
 unfold upd
 simp only [Act.put]
 have hg := h.get t
 cases hb : Nat.beq t d with
 | true =>
  have := jE hb
  subst this
  simp [Array.getElem?_setIfInBounds, hd']
 | false =>
  have hne : d ≠ t := λ e => by subst e; rw [Nat.beq_refl] at hb; cases hb
  simp only [Array.getD_eq_getD_getElem?] at hg ⊢
  rw [Array.getElem?_setIfInBounds_ne hne]
  exact hg
theorem pS {P : Program} {ops : Array Oper} {Cw : World -> Prop} {K K' : Act -> Prop} (hK : ∀ a, K a -> K' a) : ∀ (l : List Oper) (a : Act), wpQuiet P ops Cw K l a -> wpQuiet P ops Cw K' l a
 | [], a, h => hK a h
 | o :: l, a, h => by
  unfold wpQuiet at h ⊢
  split
  ·rename_i hw
   rw [if_pos hw] at h
   exact Oper.quiet_mono (λ a => pS hK l a) h
  rename_i hw
  rw [if_neg hw] at h
  exact pS hK l _ h
abbrev Post := Exit -> Sig -> World -> Prop
def qI (n : Nat) (Q : Post) : Exit -> Act -> World -> Prop := λ e a w => ∃ σ, lO n a σ /\ Q e σ w
structure C (P : Program) (n : Nat) (c : Code) (Q : Post) (σ : Sig) (w : World) : Prop where
 out : ∀ a, lO n a σ -> c.wp P (qI n Q) a w
structure O (P : Program) (n : Nat) (ops l : List Oper) (Q : Post) (σ : Sig) (w : World) : Prop where
 out : ∀ a, lO n a σ -> wpList P ops.toArray (qI n Q) l a w
def aGp (K : Sig -> World -> Prop) (Q : Post) : Post
 | .normal, σ, w => K σ w
 | .exit i, σ, w => Q (.exit i) σ w
 | .goto i, σ, w => Q (.goto i) σ w
 | .ret, σ, w => Q .ret σ w
 | .panic c, σ, w => Q (.panic c) σ w
 | .outgrown, σ, w => Q .outgrown σ w
def blkQ (id : Nat) (Q : Post) : Post
 | .normal, σ, w => Q .normal σ w
 | .exit i, σ, w => bif Nat.beq i id then Q .normal σ w else Q (.exit i) σ w
 | .goto i, σ, w => Q (.goto i) σ w
 | .ret, σ, w => Q .ret σ w
 | .panic c, σ, w => Q (.panic c) σ w
 | .outgrown, σ, w => Q .outgrown σ w
section
variable {P : Program} {n : Nat} {Q : Post} {σ : Sig} {w : World}
theorem C.mono {c : Code} {Q' : Post} (h : C P n c Q σ w) (hq : ∀ e σ w, Q e σ w -> Q' e σ w) : C P n c Q' σ w :=
 ⟨λ a ha => wp_mono (h.out a ha) λ e a w ⟨σ, h1, h2⟩ => ⟨σ, h1, hq e σ w h2⟩⟩
theorem C.seq {x y : Code} (h : C P n x (aGp (C P n y Q) Q) σ w) : C P n (.seq x y) Q σ w :=
 ⟨λ a ha => wp_seq (wp_mono (h.out a ha) λ e a w ⟨σ, h1, h2⟩ => by
  cases e with
  | normal => exact h2.out a h1
  | exit i => exact ⟨σ, h1, h2⟩
  | goto i => exact ⟨σ, h1, h2⟩
  | ret => exact ⟨σ, h1, h2⟩
  | panic c => exact ⟨σ, h1, h2⟩
  | outgrown => exact ⟨σ, h1, h2⟩)⟩
theorem C.cut {ι : Type} (L : ι -> List (Nat × Value)) (I : ι -> World -> Prop) {x y : Code}
  (h1 : C P n x (aGp (λ σ w => ∃ i, Has σ (L i) /\ I i w) Q) σ w)
  (h2 : ∀ i σ w, I i w -> C P n y Q (ups σ (L i)) w) : C P n (.seq x y) Q σ w :=
 C.seq (C.mono h1 λ e σ w h => by
  cases e with
  | normal => obtain ⟨i, h3, h4⟩ := h; show C P n y Q σ w; rw [<- mG h3]; exact h2 i σ w h4
  | exit i => exact h
  | goto i => exact h
  | ret => exact h
  | panic c => exact h
  | outgrown => exact h)
theorem C.skip (h : Q .normal σ w) : C P n .skip Q σ w := ⟨λ a ha => wp_skip ⟨σ, ha, h⟩⟩
theorem C.exit {id : Nat} (h : Q (.exit id) σ w) : C P n (.exit id) Q σ w := ⟨λ a ha => wp_exit ⟨σ, ha, h⟩⟩
theorem C.ret (h : Q .ret σ w) : C P n .ret Q σ w := ⟨λ a ha => wp_ret ⟨σ, ha, h⟩⟩
theorem C.block {id : Nat} {c : Code} (h : C P n c (blkQ id Q) σ w) : C P n (.block id c) Q σ w :=
 ⟨λ a ha => wp_block (wp_mono (h.out a ha) λ e a w ⟨σ, h1, h2⟩ => by
  cases e with
  | normal => exact ⟨σ, h1, h2⟩
  | exit i =>
   simp only [Exit.inBlock]
   by_cases hi : i = id
   ·rw [if_pos hi]
    subst hi
    simp only [blkQ, Nat.beq_refl, cond_true] at h2
    exact ⟨σ, h1, h2⟩
   rw [if_neg hi]
   have hb : Nat.beq i id = false := by
    cases hb : Nat.beq i id with
    | true => exact absurd (jE hb) hi
    | false => rfl
   simp only [blkQ, hb, cond_false] at h2
   exact ⟨σ, h1, h2⟩
  | goto i => exact ⟨σ, h1, h2⟩
  | ret => exact ⟨σ, h1, h2⟩
  | panic c => exact ⟨σ, h1, h2⟩
  | outgrown => exact ⟨σ, h1, h2⟩)⟩
theorem C.condb {c : Operand} {x y : Code} {t : Bool} (hc : ev σ c = .bool t) (ht : t = true -> C P n x Q σ w) (hf : t = false -> C P n y Q σ w) : C P n (.cond c x y) Q σ w :=
 ⟨λ a ha => wp_cond_split (t := t) (by rw [ha.eval]; exact hc) (λ h => (ht h).out a ha) (λ h => (hf h).out a ha)⟩
theorem C.cond {c : Operand} {x y : Code} {p : Prop} [Decidable p] (hc : ev σ c = .bool (decide p)) (ht : p -> C P n x Q σ w) (hf : ¬ p -> C P n y Q σ w) : C P n (.cond c x y) Q σ w :=
 C.condb hc (λ h => ht (of_decide_eq_true h)) (λ h => hf (of_decide_eq_false h))
theorem C.condn {c : Operand} {x y : Code} {b : Bool} (hc : ev σ c = .bool (!b)) (ht : b = false -> C P n x Q σ w) (hf : b = true -> C P n y Q σ w) : C P n (.cond c x y) Q σ w :=
 C.condb hc (λ h => ht (by simpa using h)) (λ h => hf (by simpa using h))
theorem C.condT {c : Operand} {x y : Code} (hc : ev σ c = .bool true) (ht : C P n x Q σ w) : C P n (.cond c x y) Q σ w :=
 C.condb hc (λ _ => ht) (λ h => by cases h)
theorem C.condF {c : Operand} {x y : Code} (hc : ev σ c = .bool false) (hf : C P n y Q σ w) : C P n (.cond c x y) Q σ w :=
 C.condb hc (λ h => by cases h) (λ _ => hf)
def loopQ {ι : Type} (L : ι -> List (Nat × Value)) (I : ι -> World -> Prop) (μ : ι -> Nat) (m : Nat) (Q : Post) : Post :=
 aGp (λ σ w => ∃ x, μ x < m /\ Has σ (L x) /\ I x w) Q
theorem aOe {p : Nat -> Prop} : ∀ m, p m -> ∃ m, p m /\ ∀ k, p k -> m <= k := by
 intro m
 induction m using Nat.strongRecOn with
 | _ m ih =>
  intro hm
  by_cases h : ∃ k, p k /\ k < m
  ·obtain ⟨k, hk, hlt⟩ := h; exact ih k hlt hk
  exact ⟨m, hm, λ k hk => by
   rcases fB k m with h' | h'
   ·exact absurd ⟨k, hk, h'⟩ h
   exact h'⟩
noncomputable def least (p : Nat -> Prop) : Nat := Classical.epsilon λ m => p m /\ ∀ k, p k -> m <= k
theorem yH {p : Nat -> Prop} {m : Nat} (h : p m) : p (least p) /\ ∀ k, p k -> least p <= k := Classical.epsilon_spec (aOe m h)
theorem C.loop {ι : Type} (L : ι -> List (Nat × Value)) (I : ι -> World -> Prop) (μ : ι -> Nat) {c : Code} (x0 : ι)
  (hL : Has σ (L x0)) (h0 : I x0 w) (hr : ∀ x σ w, I x w -> C P n c (loopQ L I μ (μ x) Q) (ups σ (L x)) w) : C P n (.loop c) Q σ w := by
 refine ⟨λ a ha => ?_⟩
 refine wp_loop (λ a w => ∃ m x σ, lO n a σ /\ Has σ (L x) /\ I x w /\ μ x = m) (λ a w => least λ m => ∃ x σ, lO n a σ /\ Has σ (L x) /\ I x w /\ μ x = m) ⟨_, x0, σ, ha, hL, h0, rfl⟩ ?_
 intro a w ⟨m, hm⟩
 obtain ⟨⟨x, σ, h1, h2, h3, h4⟩, _⟩ := yH (p := λ m => ∃ x σ, lO n a σ /\ Has σ (L x) /\ I x w /\ μ x = m) hm
 refine wp_mono ((hr x σ w h3).out a (by rw [mG h2]; exact h1)) λ e a' w' ⟨σ', g1, g2⟩ => ?_
 cases e with
 | normal =>
  obtain ⟨x', k1, k2, k3⟩ := g2
  have hp : (λ m => ∃ x σ, lO n a' σ /\ Has σ (L x) /\ I x w' /\ μ x = m) (μ x') := ⟨x', σ', g1, k2, k3, rfl⟩
  refine ⟨⟨_, hp⟩, ?_⟩
  have := (yH (p := λ m => ∃ x σ, lO n a' σ /\ Has σ (L x) /\ I x w' /\ μ x = m) hp).2 _ hp
  show least _ < least _
  rw [<- h4]
  omega
 | exit i => exact ⟨σ', g1, g2⟩
 | goto i => exact ⟨σ', g1, g2⟩
 | ret => exact ⟨σ', g1, g2⟩
 | panic c => exact ⟨σ', g1, g2⟩
 | outgrown => exact ⟨σ', g1, g2⟩
def nth : List Oper -> Nat -> Option Oper
 | [], _ => none
 | o :: _, 0 => some o
 | _ :: l, k + 1 => nth l k
def gok (ops : List Oper) (σ : Sig) : Option (Nat × Bool) -> Bool
 | none => true
 | some (j, want) => match nth ops j with
  | some o => match o.dst with
   | some d => match σ d with
    | .bool b => b == want
    | _ => false
   | none => false
  | none => false
theorem aHx : ∀ (l : List Oper) (k : Nat), nth l k = l[k]?
 | [], _ => rfl
 | _ :: _, 0 => rfl
 | _ :: l, k + 1 => by simp [nth, aHx l k]
theorem iB {ops : List Oper} {a : Act} {dst op T pos after g b} (ha : lO n a σ) (h : gok ops σ g = b) (hb : b = true \/ ∃ j want o d u, g = some (j, want) /\ nth ops j = some o /\ o.dst = some d /\ σ d = .bool u) :
  Region.wanted ⟨dst, op, T, pos, after, g⟩ (yielded ops.toArray a.tmps) = b := by
 have key : ∀ j o d u, nth ops j = some o -> o.dst = some d -> σ d = .bool u -> yielded ops.toArray a.tmps j = some u := by
  intro j o d u h1 h2 h3
  have hg := ha.get d
  rw [h3] at hg
  have hlt : a.tmps[d]? = some (.bool u) := by
   rw [Array.getD_eq_getD_getElem?] at hg
   cases hx : a.tmps[d]? with
   | none => rw [hx] at hg; simp [undef] at hg
   | some v => rw [hx] at hg; simpa using hg
  unfold yielded
  rw [aHx] at h1
  simp [h1, h2, hlt]
 cases g with
 | none => simpa [gok, Region.wanted] using h
 | some g =>
  obtain ⟨j, want⟩ := g
  have : ∃ o d u, nth ops j = some o /\ o.dst = some d /\ σ d = .bool u := by
   rcases hb with rfl | ⟨j', want', o, d, u, he, h1, h2, h3⟩
   ·simp only [gok] at h
    split at h
    ·rename_i o ho
     split at h
     ·rename_i d hd
      split at h
      ·rename_i u hu; exact ⟨o, d, u, ho, hd, hu⟩
      cases h
     cases h
    cases h
   cases he; exact ⟨o, d, u, h1, h2, h3⟩
  obtain ⟨o, d, u, h1, h2, h3⟩ := this
  simp only [Region.wanted, key j o d u h1 h2 h3]
  simp only [gok, h1, h2, h3] at h
  simpa using h
def Ru (P : Program) (σ : Sig) (o : Oper) (w : World) (v : Value) : Prop := (execOp (ev σ) o).run P w = .ok (.value v) w
def Rw (P : Program) (σ : Sig) (o : Oper) (w : World) (v : Value) (w' : World) : Prop := (execOp (ev σ) o).run P w = .ok (.value v) w'
def Rs (P : Program) (σ : Sig) (o : Oper) (w w' : World) : Prop := (execOp (ev σ) o).run P w = .ok .skip w'
variable {ops rest : List Oper}
theorem O.nil (h : Q .normal σ w) : O P n ops [] Q σ w := ⟨λ _ ha => ⟨σ, ha, h⟩⟩
theorem C.region {id : Nat} {l : List Oper} (h : O P n l l Q σ w) : C P n (.region id l.toArray false) Q σ w :=
 ⟨λ a ha => wp_region_lit (h.out a ha)⟩
theorem O.valW {d : Nat} {op T pos after g} {v : Value} {w' : World} (hg : gok ops σ g = true) (hv : Rw P σ ⟨some d, op, T, pos, after, g⟩ w v w') (hd : Nat.blt d n = true)
  (h : O P n ops rest Q (upd σ d v) w') : O P n ops (⟨some d, op, T, pos, after, g⟩ :: rest) Q σ w :=
 ⟨λ a ha => by
  show wpList P ops.toArray (qI n Q) (_ :: rest) a w
  unfold wpList
  rw [if_pos (iB ha hg (.inl rfl))]
  refine .inl ?_
  unfold Oper.wp
  rw [ha.eval, hv]
  exact h.out _ (ha.put hd v)⟩
theorem O.val {d : Nat} {op T pos after g} {v : Value} (hg : gok ops σ g = true) (hv : Ru P σ ⟨some d, op, T, pos, after, g⟩ w v) (hd : Nat.blt d n = true)
  (h : O P n ops rest Q (upd σ d v) w) : O P n ops (⟨some d, op, T, pos, after, g⟩ :: rest) Q σ w := O.valW hg hv hd h
theorem O.st {op T pos after g} {w' : World} (hg : gok ops σ g = true) (hv : Rs P σ ⟨none, op, T, pos, after, g⟩ w w')
  (h : O P n ops rest Q σ w') : O P n ops (⟨none, op, T, pos, after, g⟩ :: rest) Q σ w :=
 ⟨λ a ha => by
  show wpList P ops.toArray (qI n Q) (_ :: rest) a w
  unfold wpList
  rw [if_pos (iB ha hg (.inl rfl))]
  refine .inl ?_
  unfold Oper.wp
  rw [ha.eval, hv]
  exact h.out _ ha⟩
theorem O.valN {op T pos after g} {v : Value} {w' : World} (hg : gok ops σ g = true) (hv : Rw P σ ⟨none, op, T, pos, after, g⟩ w v w')
  (h : O P n ops rest Q σ w') : O P n ops (⟨none, op, T, pos, after, g⟩ :: rest) Q σ w :=
 ⟨λ a ha => by
  show wpList P ops.toArray (qI n Q) (_ :: rest) a w
  unfold wpList
  rw [if_pos (iB ha hg (.inl rfl))]
  refine .inl ?_
  unfold Oper.wp
  rw [ha.eval, hv]
  exact h.out _ ha⟩
theorem O.pass {d : Nat} {op T pos after j want o dj u} (h1 : nth ops j = some o) (h2 : o.dst = some dj) (h3 : σ dj = .bool u) (hg : (u == want) = false) (hd : Nat.blt d n = true)
  (h : O P n ops rest Q (upd σ d undef) w) : O P n ops (⟨some d, op, T, pos, after, some (j, want)⟩ :: rest) Q σ w :=
 ⟨λ a ha => by
  show wpList P ops.toArray (qI n Q) (_ :: rest) a w
  unfold wpList
  rw [if_neg (by rw [iB (b := false) ha (by simpa [gok, h1, h2, h3] using hg) (.inr ⟨j, want, o, dj, u, rfl, h1, h2, h3⟩)]; simp)]
  exact h.out _ (ha.put hd undef)⟩
theorem vE {ops : List Oper} {a : Act} {dst op T pos after j want o d} (ha : lO n a σ) (h1 : nth ops j = some o) (h2 : o.dst = some d) (h3 : σ d = undef) :
  Region.wanted ⟨dst, op, T, pos, after, some (j, want)⟩ (yielded ops.toArray a.tmps) = false := by
 have hg := ha.get d
 rw [h3] at hg
 have hy : yielded ops.toArray a.tmps j = none := by
  unfold yielded
  rw [aHx] at h1
  simp only [List.getElem?_toArray, h1, Option.bind_some, h2]
  rw [Array.getD_eq_getD_getElem?] at hg
  cases hx : a.tmps[d]? with
  | none => rfl
  | some v => rw [hx] at hg; simp at hg; subst hg; rfl
 simp [Region.wanted, hy]
theorem O.passU {d : Nat} {op T pos after j want o dj} (h1 : nth ops j = some o) (h2 : o.dst = some dj) (h3 : σ dj = undef) (hd : Nat.blt d n = true)
  (h : O P n ops rest Q (upd σ d undef) w) : O P n ops (⟨some d, op, T, pos, after, some (j, want)⟩ :: rest) Q σ w :=
 ⟨λ a ha => by
  show wpList P ops.toArray (qI n Q) (_ :: rest) a w
  unfold wpList
  rw [if_neg (by rw [vE ha h1 h2 h3]; simp)]
  exact h.out _ (ha.put hd undef)⟩
theorem O.part {l : List Oper} (d : Nat) (b : Bool) (hb : σ d = .bool b) (ht : b = true -> O P n ops l Q (upd σ d (.bool true)) w) (hf : b = false -> O P n ops l Q (upd σ d (.bool false)) w) : O P n ops l Q σ w := by
 cases b with
 | true => have := ht rfl; rwa [qP hb] at this
 | false => have := hf rfl; rwa [qP hb] at this
theorem O.partp {l : List Oper} (d : Nat) (p : Prop) [Decidable p] (hb : σ d = .bool (decide p)) (ht : p -> O P n ops l Q (upd σ d (.bool true)) w) (hf : ¬ p -> O P n ops l Q (upd σ d (.bool false)) w) : O P n ops l Q σ w :=
 O.part d _ hb (λ h => ht (of_decide_eq_true h)) (λ h => hf (of_decide_eq_false h))
structure aR (P : Program) (f : FuncId) (vs : List Value) (w : World) (R : Value -> World -> Prop) : Prop where
 out : Calls P f vs.toArray w λ e w' => ∃ v, e = .returned v /\ R v w'
theorem aR.mono {f : FuncId} {vs : List Value} {R R' : Value -> World -> Prop} (h : aR P f vs w R) (hr : ∀ v w', R v w' -> R' v w') : aR P f vs w R' :=
 ⟨h.out.mono λ _ _ ⟨v, he, hR⟩ => ⟨v, he, hr _ _ hR⟩⟩
def evs (σ : Sig) : List Operand -> List Value
 | [] => []
 | x :: l => ev σ x :: evs σ l
theorem vB : ∀ (l : List Operand), evs σ l = l.map (ev σ)
 | [] => rfl
 | _ :: l => by simp [evs, vB l]
def bB (P : Program) (f : FuncId) : Prop := ∀ args w, (callFunc f args).run P w = .ok (.enter f args) w
theorem enters_of {f : FuncId} {fn : Func} (hf : P.funcs[f]? = some fn) (hb : fn.body.isNone = false) (hn : (fn.name == "runtime.NumGoroutine") = false) : bB P f := by
 intro args w
 have h1 : ¬ ((fn.name == "runtime.NumGoroutine") = true) := by rw [hn]; exact Bool.false_ne_true
 have h2 : ¬ (fn.body.isNone = true) := by rw [hb]; exact Bool.false_ne_true
 simp only [callFunc, Sem.run_bind, run_program, Result.andThen_ok, hf]
 rw [if_neg h1, if_neg h2]
 rfl
theorem O.callg {d : Nat} {f : FuncId} {args ts T pos after g} (vs : List Value) {R : Value -> World -> Prop} (hg : gok ops σ g = true) (hen : bB P f) (hvs : evs σ args = vs) (hd : Nat.blt d n = true)
  (hc : aR P f vs w R) (h : ∀ v w', R v w' -> O P n ops rest Q (upd σ d v) w') :
  O P n ops (⟨some d, .call ⟨.value (.func f), args.toArray, ts⟩, T, pos, after, g⟩ :: rest) Q σ w :=
 ⟨λ a ha => by
  show wpList P ops.toArray (qI n Q) (_ :: rest) a w
  unfold wpList
  rw [if_pos (iB ha hg (.inl rfl))]
  refine .inl ?_
  unfold Oper.wp
  rw [ha.eval]
  have : (execOp (ev σ) ⟨some d, .call ⟨.value (.func f), args.toArray, ts⟩, T, pos, after, g⟩).run P w = .ok (.enter f vs.toArray) w := by
   subst hvs
   simp [execOp, resolve, ev, Deferred.ofValue, invoke, vB, hen _ _]
  rw [this]
  refine hc.out.mono λ e w' ⟨v, he, hR⟩ => ?_
  subst he
  exact (h v w' hR).out _ (ha.put hd v)⟩
def arg (vs : List Value) : Sig := λ t => vs.getD t undef
structure Ret1 (t : Nat) (R : Value -> World -> Prop) (σ : Sig) (w : World) : Prop where
 out : R (σ t) w
structure Ret2 (t u : Nat) (R : Value -> World -> Prop) (σ : Sig) (w : World) : Prop where
 out : R (.tuple #[σ t, σ u]) w
structure Ret0 (R : Value -> World -> Prop) (w : World) : Prop where
 out : R (.tuple #[]) w
def post1 (t : Nat) (R : Value -> World -> Prop) : Post
 | .normal, σ, w => Ret1 t R σ w
 | .ret, σ, w => Ret1 t R σ w
 | _, _, _ => False
def post0 (R : Value -> World -> Prop) : Post
 | .normal, _, w => Ret0 R w
 | .ret, _, w => Ret0 R w
 | _, _, _ => False
def post2 (t u : Nat) (R : Value -> World -> Prop) : Post
 | .normal, σ, w => Ret2 t u R σ w
 | .ret, σ, w => Ret2 t u R σ w
 | _, _, _ => False
theorem qT {n : Nat} {vs : List Value} (h : vs.length <= n) : lO n { tmps := vs.toArray ++ Array.replicate (n - vs.toArray.size) undef, defers := [] } (arg vs) := by
 refine ⟨by simp; omega, rfl, λ t => ?_⟩
 simp only [arg, Array.getD_eq_getD_getElem?, aD]
 rw [Array.getElem?_append]
 by_cases ht : t < vs.length
 ·simp [ht]
 simp [ht, Array.getElem?_replicate]
 split <;> rfl
theorem aR.enter1 {f : FuncId} {fn : Func} {c : Code} {t : Nat} {vs : List Value} {R : Value -> World -> Prop} (hf : P.funcs[f]? = some fn) (hb : fn.body = some c) (hr : fn.results = #[.tmp t]) (hn : fn.ntmps = n) (hl : Nat.ble vs.length n = true)
  (h : C P n c (post1 t R) (arg vs) w) : aR P f vs w R := by
 subst hn
 refine ⟨calls_of_wp hf hb (wp_mono (h.out _ (qT (by simpa using hl))) λ e a w ⟨σ, ha, hq⟩ => ?_)⟩
 have hR : e = .normal \/ e = .ret -> R (σ t) w := by
  intro he; rcases he with rfl | rfl <;> exact hq.out
 cases e with
 | normal => exact ⟨ha.defers, _, results_tmp hr _ _ _, _, rfl, by rw [ha.get t]; exact hR (.inl rfl)⟩
 | ret => exact ⟨ha.defers, _, results_tmp hr _ _ _, _, rfl, by rw [ha.get t]; exact hR (.inr rfl)⟩
 | exit i => exact hq
 | goto i => exact hq
 | panic c => exact hq.elim
 | outgrown => exact hq.elim
theorem aR.enter2 {f : FuncId} {fn : Func} {c : Code} {t u : Nat} {vs : List Value} {R : Value -> World -> Prop} (hf : P.funcs[f]? = some fn) (hb : fn.body = some c) (hr : fn.results = #[.tmp t, .tmp u]) (hn : fn.ntmps = n) (hl : Nat.ble vs.length n = true)
  (h : C P n c (post2 t u R) (arg vs) w) : aR P f vs w R := by
 subst hn
 refine ⟨calls_of_wp hf hb (wp_mono (h.out _ (qT (by simpa using hl))) λ e a w ⟨σ, ha, hq⟩ => ?_)⟩
 have hR : e = .normal \/ e = .ret -> R (.tuple #[σ t, σ u]) w := by
  intro he; rcases he with rfl | rfl <;> exact hq.out
 cases e with
 | normal => exact ⟨ha.defers, _, results_tmp2 hr _ _ _, _, rfl, by rw [ha.get t, ha.get u]; exact hR (.inl rfl)⟩
 | ret => exact ⟨ha.defers, _, results_tmp2 hr _ _ _, _, rfl, by rw [ha.get t, ha.get u]; exact hR (.inr rfl)⟩
 | exit i => exact hq
 | goto i => exact hq
 | panic c => exact hq.elim
 | outgrown => exact hq.elim
theorem aR.enter0 {f : FuncId} {fn : Func} {c : Code} {vs : List Value} {R : Value -> World -> Prop} (hf : P.funcs[f]? = some fn) (hb : fn.body = some c) (hr : fn.results = #[]) (hn : fn.ntmps = n) (hl : Nat.ble vs.length n = true)
  (h : C P n c (post0 R) (arg vs) w) : aR P f vs w R := by
 subst hn
 refine ⟨calls_of_wp hf hb (wp_mono (h.out _ (qT (by simpa using hl))) λ e a w ⟨σ, ha, hq⟩ => ?_)⟩
 have hR : e = .normal \/ e = .ret -> R (.tuple #[]) w := by
  intro he; rcases he with rfl | rfl <;> exact hq.out
 cases e with
 | normal => exact ⟨ha.defers, _, results_none hr _ _ _, _, rfl, hR (.inl rfl)⟩
 | ret => exact ⟨ha.defers, _, results_none hr _ _ _, _, rfl, hR (.inr rfl)⟩
 | exit i => exact hq
 | goto i => exact hq
 | panic c => exact hq.elim
 | outgrown => exact hq.elim
theorem P1 {t : Nat} {R : Value -> World -> Prop} {v : Value} (hv : σ t = v) (h : R v w) : Ret1 t R σ w := ⟨by rw [hv]; exact h⟩
theorem P2 {t u : Nat} {R : Value -> World -> Prop} {v v' : Value} (hv : σ t = v) (hv' : σ u = v') (h : R (.tuple #[v, v']) w) : Ret2 t u R σ w := ⟨by rw [hv, hv']; exact h⟩
theorem P0 {R : Value -> World -> Prop} (h : R (.tuple #[]) w) : Ret0 R w := ⟨h⟩
structure QO (P : Program) (n : Nat) (ops : List Oper) (Cw : World -> Prop) (K : Sig -> Prop) (l : List Oper) (σ : Sig) : Prop where
 out : ∀ a, lO n a σ -> wpQuiet P ops.toArray Cw (λ a' => ∃ σ', lO n a' σ' /\ K σ') l a
variable {Cw : World -> Prop} {K : Sig -> Prop}
theorem QO.nil (h : K σ) : QO P n ops Cw K [] σ := ⟨λ _ ha => ⟨σ, ha, h⟩⟩
theorem QO.val {d : Nat} {op T pos after g} {v : Value} (hg : gok ops σ g = true) (hv : ∀ w, Cw w -> Ru P σ ⟨some d, op, T, pos, after, g⟩ w v) (hd : Nat.blt d n = true)
  (h : QO P n ops Cw K rest (upd σ d v)) : QO P n ops Cw K (⟨some d, op, T, pos, after, g⟩ :: rest) σ :=
 ⟨λ a ha => by
  unfold wpQuiet
  rw [if_pos (iB ha hg (.inl rfl))]
  refine ⟨v, λ w hw => ?_, h.out _ (ha.put hd v)⟩
  unfold Oper.quietAt
  rw [ha.eval, hv w hw]
  exact ⟨rfl, rfl⟩⟩
theorem QO.pass {d : Nat} {op T pos after j want o dj u} (h1 : nth ops j = some o) (h2 : o.dst = some dj) (h3 : σ dj = .bool u) (hg : (u == want) = false) (hd : Nat.blt d n = true)
  (h : QO P n ops Cw K rest (upd σ d undef)) : QO P n ops Cw K (⟨some d, op, T, pos, after, some (j, want)⟩ :: rest) σ :=
 ⟨λ a ha => by
  unfold wpQuiet
  rw [if_neg (by rw [iB (b := false) ha (by simpa [gok, h1, h2, h3] using hg) (.inr ⟨j, want, o, dj, u, rfl, h1, h2, h3⟩)]; simp)]
  exact h.out _ (ha.put hd undef)⟩
theorem QO.passU {d : Nat} {op T pos after j want o dj} (h1 : nth ops j = some o) (h2 : o.dst = some dj) (h3 : σ dj = undef) (hd : Nat.blt d n = true)
  (h : QO P n ops Cw K rest (upd σ d undef)) : QO P n ops Cw K (⟨some d, op, T, pos, after, some (j, want)⟩ :: rest) σ :=
 ⟨λ a ha => by
  unfold wpQuiet
  rw [if_neg (by rw [vE ha h1 h2 h3]; simp)]
  exact h.out _ (ha.put hd undef)⟩
theorem QO.part {l : List Oper} (d : Nat) (b : Bool) (hb : σ d = .bool b) (ht : b = true -> QO P n ops Cw K l (upd σ d (.bool true))) (hf : b = false -> QO P n ops Cw K l (upd σ d (.bool false))) : QO P n ops Cw K l σ := by
 cases b with
 | true => have := ht rfl; rwa [qP hb] at this
 | false => have := hf rfl; rwa [qP hb] at this
theorem QO.partp {l : List Oper} (d : Nat) (p : Prop) [Decidable p] (hb : σ d = .bool (decide p)) (ht : p -> QO P n ops Cw K l (upd σ d (.bool true))) (hf : ¬ p -> QO P n ops Cw K l (upd σ d (.bool false))) : QO P n ops Cw K l σ :=
 QO.part d _ hb (λ h => ht (of_decide_eq_true h)) (λ h => hf (of_decide_eq_false h))
theorem QO.callg {d : Nat} {f : FuncId} {args ts T pos after g} (vs : List Value) {v : Value} (hg : gok ops σ g = true) (hen : bB P f) (hvs : evs σ args = vs) (hd : Nat.blt d n = true)
  (hc : ∀ w, Cw w -> aR P f vs w λ u w' => u = v /\ Cw w') (h : QO P n ops Cw K rest (upd σ d v)) :
  QO P n ops Cw K (⟨some d, .call ⟨.value (.func f), args.toArray, ts⟩, T, pos, after, g⟩ :: rest) σ :=
 ⟨λ a ha => by
  unfold wpQuiet
  rw [if_pos (iB ha hg (.inl rfl))]
  refine ⟨v, λ w hw => ?_, h.out _ (ha.put hd v)⟩
  unfold Oper.quietAt
  rw [ha.eval]
  have : (execOp (ev σ) ⟨some d, .call ⟨.value (.func f), args.toArray, ts⟩, T, pos, after, g⟩).run P w = .ok (.enter f vs.toArray) w := by
   subst hvs
   simp [execOp, resolve, ev, Deferred.ofValue, invoke, vB, hen _ _]
  rw [this]
  exact ⟨rfl, (hc w hw).out.mono λ e w' ⟨u, he, hu, hC⟩ => ⟨by rw [he, hu], hC⟩⟩⟩
theorem C.draws {id : Nat} {l : List Oper} (Cw : World -> Prop) (hm : P.follows .mixedOrders = true) (hB : Region.lexB .any l.toArray = true) (hC : Cw { w with drawn := w.drawn + 1 })
  (h : QO P n l Cw (λ σ' => ∀ w', Cw w' -> Q .normal σ' w') l σ) : C P n (.region id l.toArray true) Q σ w :=
 ⟨λ a ha => wp_region_quiet hm hB hC (by
  have := h.out a ha
  refine pS ?_ l a this
  intro a' ⟨σ', h1, h2⟩ w' hw'
  exact ⟨σ', h1, h2 w' hw'⟩)⟩
end
end Go.Px
end
section
namespace Go.Px
open Go.RowKit
abbrev Str := List UInt8
def S (l : Str) : Value := .string ⟨l.toArray⟩
abbrev I (x : Int) : Value := .int .i64 x
abbrev blt : Str -> Str -> Bool := Op.bytesLess
@[simp] theorem size_S (l : Str) : (⟨l.toArray⟩ : ByteArray).size = l.length := by simp [ByteArray.size]
section
variable {P : Program} {σ : Sig} {w : World} {dst : Option Tmp} {T U T' : TypeId} {pos : String} {after : Array Edge} {g : Option (Nat × Bool)} {x y z : Operand}
theorem Ru.congr {o : Oper} {v v' : Value} (h : Ru P σ o w v) (e : v = v') : Ru P σ o w v' := e ▸ h
theorem Ru.move {v : Value} (hx : ev σ x = v) : Ru P σ ⟨dst, .move x, T, pos, after, g⟩ w v := by subst hx; rfl
theorem Ru.assign {v : Value} (hx : ev σ x = v) : Ru P σ ⟨dst, .assign x, T, pos, after, g⟩ w v := by subst hx; rfl
theorem Ru.pickT {v : Value} (hc : ev σ x = .bool true) (hy : ev σ y = v) : Ru P σ ⟨dst, .pick x y z, T, pos, after, g⟩ w v := by
 subst hy; simp [Ru, execOp, hc, asBool]
theorem Ru.pickF {v : Value} (hc : ev σ x = .bool false) (hz : ev σ z = v) : Ru P σ ⟨dst, .pick x y z, T, pos, after, g⟩ w v := by
 subst hz; simp [Ru, execOp, hc, asBool]
theorem Ru.not {b : Bool} (hx : ev σ x = .bool b) : Ru P σ ⟨dst, .unOp .not T x, T', pos, after, g⟩ w (.bool (!b)) := by
 simp [Ru, execOp, hx, Op.unary]
theorem Ru.notp {p : Prop} [Decidable p] (hx : ev σ x = .bool (decide p)) : Ru P σ ⟨dst, .unOp .not T x, T', pos, after, g⟩ w (.bool (decide (¬ p))) := by
 simp [Ru, execOp, hx, Op.unary]
theorem Ru.neg {a : Int} (hx : ev σ x = I a) (h : -9223372036854775808 < a /\ a <= 9223372036854775807) : Ru P σ ⟨dst, .unOp .neg T x, T', pos, after, g⟩ w (I (-a)) := by
 simp [Ru, execOp, hx, Op.unary, Op.intArith]
 rw [IntKind.wrap_i64]; omega
section ints
variable {a b : Int}
theorem Ru.add (hx : ev σ x = I a) (hy : ev σ y = I b) (h : -9223372036854775808 <= a + b /\ a + b <= 9223372036854775807) : Ru P σ ⟨dst, .binOp .add T x y U, T', pos, after, g⟩ w (I (a + b)) := by
 simp [Ru, execOp, hx, hy, eqGuard, binOp, Op.intArith]; rw [IntKind.wrap_i64]; omega
theorem Ru.sub (hx : ev σ x = I a) (hy : ev σ y = I b) (h : -9223372036854775808 <= a - b /\ a - b <= 9223372036854775807) : Ru P σ ⟨dst, .binOp .sub T x y U, T', pos, after, g⟩ w (I (a - b)) := by
 simp [Ru, execOp, hx, hy, eqGuard, binOp, Op.intArith]; rw [IntKind.wrap_i64]; omega
theorem Ru.mul (hx : ev σ x = I a) (hy : ev σ y = I b) (h : -9223372036854775808 <= a * b /\ a * b <= 9223372036854775807) : Ru P σ ⟨dst, .binOp .mul T x y U, T', pos, after, g⟩ w (I (a * b)) := by
 simp [Ru, execOp, hx, hy, eqGuard, binOp, Op.intArith]; rw [IntKind.wrap_i64]; omega
theorem Ru.quo (hx : ev σ x = I a) (hy : ev σ y = I b) (h : 0 <= a /\ a <= 9223372036854775807 /\ 1 <= b) : Ru P σ ⟨dst, .binOp .quo T x y U, T', pos, after, g⟩ w (I (a / b)) := by
 have hb : ¬ b = 0 := by omega
 simp [Ru, execOp, hx, hy, eqGuard, binOp, Op.intDiv, hb]
 exact IntWalk.i64_quo a b h
theorem Ru.rem (hx : ev σ x = I a) (hy : ev σ y = I b) (h : 0 <= a /\ 1 <= b) : Ru P σ ⟨dst, .binOp .rem T x y U, T', pos, after, g⟩ w (I (a % b)) := by
 have hb : ¬ b = 0 := by omega
 simp [Ru, execOp, hx, hy, eqGuard, binOp, Op.intDiv, hb]
 exact IntWalk.rem_in a b h.1
theorem Ru.eql {k : IntKind} (hx : ev σ x = .int k a) (hy : ev σ y = .int k b) : Ru P σ ⟨dst, .binOp .eql T x y U, T', pos, after, g⟩ w (.bool (decide (a = b))) := by
 simp [Ru, execOp, hx, hy, go_sem, eqGuard, binOp, Op.intCmp]
 by_cases h : a = b <;> simp [h]
theorem Ru.neq {k : IntKind} (hx : ev σ x = .int k a) (hy : ev σ y = .int k b) : Ru P σ ⟨dst, .binOp .neq T x y U, T', pos, after, g⟩ w (.bool (decide (a ≠ b))) := by
 simp [Ru, execOp, hx, hy, go_sem, eqGuard, binOp, Op.intCmp]
 by_cases h : a = b <;> simp [h]
theorem Ru.lss {k : IntKind} (hx : ev σ x = .int k a) (hy : ev σ y = .int k b) : Ru P σ ⟨dst, .binOp .lss T x y U, T', pos, after, g⟩ w (.bool (decide (a < b))) := by
 simp [Ru, execOp, hx, hy, eqGuard, binOp, Op.intCmp]
theorem Ru.leq {k : IntKind} (hx : ev σ x = .int k a) (hy : ev σ y = .int k b) : Ru P σ ⟨dst, .binOp .leq T x y U, T', pos, after, g⟩ w (.bool (decide (a <= b))) := by
 simp [Ru, execOp, hx, hy, eqGuard, binOp, Op.intCmp]
theorem Ru.gtr {k : IntKind} (hx : ev σ x = .int k a) (hy : ev σ y = .int k b) : Ru P σ ⟨dst, .binOp .gtr T x y U, T', pos, after, g⟩ w (.bool (decide (a > b))) := by
 simp [Ru, execOp, hx, hy, eqGuard, binOp, Op.intCmp]
theorem Ru.geq {k : IntKind} (hx : ev σ x = .int k a) (hy : ev σ y = .int k b) : Ru P σ ⟨dst, .binOp .geq T x y U, T', pos, after, g⟩ w (.bool (decide (a >= b))) := by
 simp [Ru, execOp, hx, hy, eqGuard, binOp, Op.intCmp]
theorem Ru.conv {k k' : IntKind} {c : Int} {d : TypeDesc} (hs : P.underlying T = some d) (hd : P.underlying U = some (.int k')) (hx : ev σ x = .int k a) (hc : k'.wrap a = c) : Ru P σ ⟨dst, .convert T U x, T', pos, after, g⟩ w (.int k' c) := by
 subst hc
 simp only [Ru, execOp, hx, convert]
 simp [run_underlying hs, run_underlying hd]
 cases d <;> rfl
end ints
section strs
variable {a b : Str}
theorem Ru.seql (hx : ev σ x = S a) (hy : ev σ y = S b) : Ru P σ ⟨dst, .binOp .eql T x y U, T', pos, after, g⟩ w (.bool (decide (a = b))) := by
 simp [Ru, execOp, hx, hy, S, go_sem, binOp, Op.stringOp]
 by_cases h : a = b <;> simp [h]
theorem Ru.sneq (hx : ev σ x = S a) (hy : ev σ y = S b) : Ru P σ ⟨dst, .binOp .neq T x y U, T', pos, after, g⟩ w (.bool (decide (a ≠ b))) := by
 simp [Ru, execOp, hx, hy, S, go_sem, binOp, Op.stringOp]
 by_cases h : a = b <;> simp [h]
theorem Ru.sadd (hx : ev σ x = S a) (hy : ev σ y = S b) (h : a.length + b.length <= 9223372036854775807) : Ru P σ ⟨dst, .binOp .add T x y U, T', pos, after, g⟩ w (S (a ++ b)) := by
 have h' : ¬ ((9223372036854775807 : Int) < (a.length : Int) + (b.length : Int)) := by omega
 simp [Ru, execOp, hx, hy, S, eqGuard, binOp, Op.stringOp, h']
 apply ByteArray.ext
 simp
theorem Ru.slen {t : TypeId} (ht : P.underlying t = some .string) (hx : ev σ x = S a) : Ru P σ ⟨dst, .call ⟨.builtin .len, #[x], #[t]⟩, T, pos, after, g⟩ w (I a.length) := by
 simp [Ru, execOp, resolve, invoke, builtin, hx, S, Builtin.len_, run_underlying ht, goInt]
theorem Ru.sindex {k : IntKind} {i : Int} (j : Nat) (hj : j < a.length) (ht : P.underlying T = some .string) (hx : ev σ x = S a) (hy : ev σ y = .int k i) (hi : i.toNat = j) (h0 : 0 <= i) : Ru P σ ⟨dst, .index T x y, T', pos, after, g⟩ w (.int .u8 (a[j]'hj).toNat) := by
 subst hi
 have : (⟨a.toArray⟩ : ByteArray)[i.toNat]? = some (a[i.toNat]'hj) := by
  rw [ByteArray.getElem?_lt' _ _ (by simpa using hj)]; rfl
 simp [Ru, execOp, hx, hy, S, Instr.index, asIntOf, run_underlying ht, h0, this]
end strs
theorem Ru.blenSlice {A : Option Addr} {n c : Nat} {t e : TypeId} (ht : P.underlying t = some (.slice e)) (hx : ev σ x = .slice A n c) : Ru P σ ⟨dst, .call ⟨.builtin .len, #[x], #[t]⟩, T, pos, after, g⟩ w (I n) := by
 simp [Ru, execOp, resolve, invoke, builtin, hx, Builtin.len_, run_underlying ht, goInt]
theorem Ru.extract {vs : Array Value} {k : Nat} {v : Value} (hx : ev σ x = .tuple vs) (hv : vs[k]? = some v) : Ru P σ ⟨dst, .extract x k, T, pos, after, g⟩ w v := by
 simp [Ru, execOp, hx, Instr.extract, hv]
end
end Go.Px
end
section
namespace Go.Px
open Go.RowKit
def Blk (w : World) (g : Nat) (t : TypeId) (l : List Value) : Prop := w.heap[g]? = some (.cells l.toArray t (0, 0))
def ofs (A : Option Addr) (k : Nat) : Option Addr := A.map (·.add k)
def Ld (w : World) (A : Option Addr) (k : Nat) (v : Value) : Prop := ∃ a, A = some a /\ w.cell? (a.add k) = some v
def Rd (w : World) (A : Option Addr) (l : List Value) : Prop := l = [] \/ ∃ b o, A = some ⟨b, o, none⟩ /\ b < w.heap.size /\ ∀ j u, l[j]? = some u -> w.cell? ⟨b, o + j, none⟩ = some u
abbrev bl (g : Nat) : Option Addr := some ⟨g, 0, none⟩
def Fr (B : Nat) (A : Option Addr) : Prop := ∀ a, A = some a -> B <= a.block
theorem aBq (a : Addr) (i j : Nat) : (a.add i).add j = a.add (i + j) := by
 unfold Addr.add
 by_cases hi : i = 0 <;> by_cases hj : j = 0 <;> simp [hi, hj, Nat.add_assoc]
theorem jF (b o k : Nat) : (⟨b, o, none⟩ : Addr).add k = ⟨b, o + k, none⟩ := by unfold Addr.add; split <;> simp_all
section
variable {w w' w'' : World} {A : Option Addr} {l : List Value} {t : TypeId} {k : Nat} {row : Option Nat}
theorem Blk.cell {g : Nat} (h : Blk w g t l) (i : Nat) : w.cell? ⟨g, i, none⟩ = l[i]? := by
 rw [cell_of_row w g i _ t (0, 0) h]; simp
theorem Blk.ld {g : Nat} {v : Value} (h : Blk w g t l) (hv : l[k]? = some v) : Ld w (bl g) k v := ⟨_, rfl, by rw [jF, jP, h.cell, hv]⟩
theorem Rd.nil : Rd w A [] := .inl rfl
theorem Rd.kp (h : Rd w A l) (hk : w.grownBy w' row) (hg : ∀ a, A = some a -> some a.block ≠ row) : Rd w' A l := by
 rcases h with h | ⟨b, o, hA, hb, hc⟩
 ·exact .inl h
 exact .inr ⟨b, o, hA, fS hb hk.size, λ j u hu => (World.cell?_of_block (hk.block b hb (hg _ hA))).trans (hc j u hu)⟩
theorem Rd.ext (h : Rd w A l) (hk : w.grownBy w' none) : Rd w' A l := h.kp hk (λ _ _ => by simp)
theorem Rd.ld {v : Value} (h : Rd w A l) (hv : l[k]? = some v) : Ld w A k v := by
 rcases h with rfl | ⟨b, o, hA, _, hc⟩
 ·simp at hv
 exact ⟨_, hA, by rw [jF]; exact hc k v hv⟩
theorem Rd.some {v : Value} (h : Rd w A l) (hv : l[k]? = some v) : A.isSome = true := by
 obtain ⟨a, ha, _⟩ := h.ld hv; rw [ha]; rfl
theorem Rd.drop (h : Rd w A l) (m : Nat) (hm : m < l.length) : Rd w (ofs A m) (l.drop m) := by
 rcases h with rfl | ⟨b, o, hA, hb, hc⟩
 ·simp at hm
 exact .inr ⟨b, o + m, by rw [hA]; simp [ofs, jF], hb, λ j u hu => by rw [Nat.add_assoc]; exact hc _ u (by rw [<- hu, mV])⟩
theorem Rd.take (h : Rd w A l) (m : Nat) : Rd w A (l.take m) := by
 rcases h with rfl | ⟨b, o, hA, hb, hc⟩
 ·exact .inl t11
 exact .inr ⟨b, o, hA, hb, λ j u hu => hc j u (by
  rw [List.getElem?_take] at hu
  split at hu
  ·exact hu
  cases hu)⟩
theorem aJh (w : World) (row : Option Nat) : w.grownBy w row := ⟨rfl, rfl, rfl, dD _, λ _ _ _ => rfl⟩
theorem aOd (w : World) : w.grownBy { w with drawn := w.drawn + 1 } none := ⟨rfl, rfl, rfl, dD _, λ _ _ _ => rfl⟩
theorem yD (w : World) (o : Obj) : w.grownBy (w.alloc o) none := World.grownBy_alloc w o none
end
def aHm : TypeDesc -> Bool
 | .struct _ => true
 | .array _ _ => true
 | _ => false
structure ElT (P : Program) (e : TypeId) (zs : List Value) (bytes : Nat) (agg : Bool) : Prop where
 info : ∃ i z, P.info? e = some i /\ i.zero = some z /\ z.cells = zs.toArray /\ i.size = zs.length /\ i.bytes = bytes
 und : ∃ d, P.underlying e = some d /\ aHm d = agg
theorem ElT.of {P : Program} {e : TypeId} {zs : List Value} {bytes : Nat} {agg : Bool} {z : Value} (h1 : (P.info? e).map (λ i => (i.zero, i.size, i.bytes)) = some (some z, zs.length, bytes)) (hz : z.cells = zs.toArray)
  (h2 : (P.underlying e).map aHm = some agg) : ElT P e zs bytes agg := by
 refine ⟨?_, ?_⟩
 ·cases hi : P.info? e with
  | none => rw [hi] at h1; cases h1
  | some i =>
   rw [hi] at h1
   simp only [lC, Option.some.injEq, Prod.mk.injEq] at h1
   exact ⟨i, z, rfl, h1.1, hz, h1.2.1, h1.2.2⟩
 cases hd : P.underlying e with
 | none => rw [hd] at h2; cases h2
 | some d => rw [hd] at h2; exact ⟨d, rfl, by simpa using h2⟩
def FlT (P : Program) (T : TypeId) (f off : Nat) : Prop := ∃ fs fd, P.underlying T = some (.struct fs) /\ fs[f]? = some fd /\ fd.offset = off /\ ∃ i, P.info? fd.type = some i /\ i.size ≠ 0
def flq (P : Program) (T : TypeId) (f : Nat) : Option (Nat × Bool) :=
 match P.underlying T with
 | some (.struct fs) => match fs[f]? with
  | some fd => match P.info? fd.type with
   | some i => some (fd.offset, i.size == 0)
   | none => none
  | none => none
 | _ => none
theorem FlT.of {P : Program} {T : TypeId} {f off : Nat} (h : flq P T f = some (off, false)) : FlT P T f off := by
 unfold flq at h
 split at h
 ·rename_i fs hu
  split at h
  ·rename_i fd hf
   split at h
   ·rename_i i hi
    simp only [Option.some.injEq, Prod.mk.injEq] at h
    exact ⟨fs, fd, hu, hf, h.1, i, hi, by simpa using h.2⟩
   cases h
  cases h
 cases h
theorem I_congr {a b : Int} (h : a = b) : I a = I b := by rw [h]
theorem Has.nil {σ : Sig} : Has σ [] := trivial
theorem Has.cons {σ : Sig} {d : Nat} {v : Value} {l : List (Nat × Value)} (h : σ d = v) (t : Has σ l) : Has σ ((d, v) :: l) := ⟨h, t⟩
theorem wrap_u8 (n : Int) (h : 0 <= n /\ n <= 255) : IntKind.i64.wrap n = n := by rw [IntKind.wrap_i64]; omega
theorem u8_le (b : UInt8) : 0 <= (b.toNat : Int) /\ (b.toNat : Int) <= 255 := by have := b.toNat_lt; omega
section
variable {P : Program} {σ : Sig} {w : World} {dst : Option Tmp} {T U T' e : TypeId} {pos : String} {after : Array Edge} {g : Option (Nat × Bool)} {x y z : Operand}
variable {A : Option Addr} {zs : List Value} {bytes : Nat} {agg : Bool}
theorem iD {w : World} (h : ElT P e zs bytes agg) : (sizeOf e).run P w = .ok zs.length w := by
 obtain ⟨i, z, hi, _, _, hs, _⟩ := h.info
 simp [sizeOf, typeInfo, hi, hs]
theorem wV {w : World} (h : ElT P e zs bytes agg) : (isAgg e).run P w = .ok agg w := by
 obtain ⟨d, hd, ha⟩ := h.und
 unfold isAgg
 rw [Sem.run_bind, run_underlying hd w]
 cases d <;> simp_all [aHm] <;> rfl
theorem Ru.nilc (hx : ev σ x = .pointer A) (hA : A.isSome = true) : Ru P σ ⟨dst, .nilCheck x, T, pos, after, g⟩ w (.pointer A) := by
 cases A with
 | none => cases hA
 | some a => simp [Ru, execOp, hx]
theorem Ru.fieldA {f off k : Nat} (hf : FlT P T f off) (hx : ev σ x = .pointer (ofs A k)) (hA : A.isSome = true) : Ru P σ ⟨dst, .fieldAddr T x f, T', pos, after, g⟩ w (.pointer (ofs A (k + off))) := by
 obtain ⟨fs, fd, hu, hfd, ho, i, hi, hn⟩ := hf
 cases A with
 | none => cases hA
 | some a =>
  subst ho
  simp [Ru, execOp, hx, ofs, Instr.fieldAt, run_underlying hu, hfd, Instr.sureAddr, fieldPlace, sizeOf, typeInfo, hi, hn, aBq]
theorem Ru.indexA {k : IntKind} {i : Int} {j n c : Nat} (ht : P.underlying T = some (.slice e)) (he : ElT P e zs bytes agg) (hx : ev σ x = .slice A n c) (hy : ev σ y = .int k i) (hA : A.isSome = true)
  (hi : i.toNat = j) (h0 : 0 <= i /\ i < n) : Ru P σ ⟨dst, .indexAddr T x y, T', pos, after, g⟩ w (.pointer (ofs A (j * zs.length))) := by
 cases A with
 | none => cases hA
 | some a =>
  subst hi
  simp [Ru, execOp, hx, hy, Instr.indexAt, asIntOf, run_underlying ht, h0.1, h0.2, iD he, ofs]
theorem Ru.load1 {k : Nat} {v : Value} (he : ElT P T zs bytes false) (hx : ev σ x = .pointer (ofs A k)) (hl : Ld w A k v) : Ru P σ ⟨dst, .load T x, T', pos, after, g⟩ w v := by
 obtain ⟨a, rfl, hc⟩ := hl
 simp [Ru, execOp, hx, ofs, Instr.loadAt, Instr.sureAddr, loadVar, wV he, hc]
theorem Ru.loadN {k : Nat} {vs : List Value} (he : ElT P T zs bytes true) (hx : ev σ x = .pointer (ofs A k)) (hz : vs.length = zs.length) (hA : A.isSome = true) (hl : ∀ j u, vs[j]? = some u -> Ld w A (k + j) u) : Ru P σ ⟨dst, .load T x, T', pos, after, g⟩ w (.agg vs.toArray) := by
 cases A with
 | none => cases hA
 | some a =>
  have h := run_loadCells_list (P := P) w (a.add k) vs (λ j u hu => by
   obtain ⟨a', ha, hc⟩ := hl j u hu
   cases ha
   rw [aBq]; exact hc)
  simp [Ru, execOp, hx, ofs, Instr.loadAt, Instr.sureAddr, loadVar, wV he, iD he, <- hz, h]
theorem Ru.field1 {k : Nat} {f : Nat} {cs : Array Value} {v : Value} {fs : Array Field} {fd : Field} (hu : P.underlying T = some (.struct fs)) (hf : fs[f]? = some fd) (he : ElT P fd.type zs bytes false) (ho : fd.offset = k) (hx : ev σ x = .agg cs) (hv : cs[k]? = some v) :
  Ru P σ ⟨dst, .field T x f, T', pos, after, g⟩ w v := by
 subst ho
 simp [Ru, execOp, hx, Instr.field, run_underlying hu, hf, asAgg, part, wV he, hv]
theorem Ru.sslice {a : Str} {lo hi : Int} {l h : Nat} (ht : P.underlying T = some .string) (hx : ev σ x = S a) (hlo : ev σ y = I lo) (hhi : ev σ z = I hi) (hl : lo.toNat = l) (hh : hi.toNat = h) (hb : 0 <= lo /\ lo <= hi /\ hi <= a.length) :
  Ru P σ ⟨dst, .slice T x (some y) (some z) none, T', pos, after, g⟩ w (S ((a.drop l).take (h - l))) := by
 subst hl hh
 have h1 : 0 <= hi := by omega
 have h2 : lo <= max hi 0 := by omega
 have hq : (IntKind.i64 = IntKind.i64) := rfl
 simp [Ru, execOp, hx, hlo, hhi, S, Instr.sliceAt, run_underlying ht, Instr.slice, Instr.sliceBounds, Instr.sliceBound, asIntOf, h1, h2, hb.1, hb.2.2]
 apply ByteArray.ext
 simp [ByteArray.data_extract, List.extract_eq_take_drop]
theorem Ru.ssliceTo {a : Str} {hi : Int} {h : Nat} (ht : P.underlying T = some .string) (hx : ev σ x = S a) (hhi : ev σ z = I hi) (hh : hi.toNat = h) (hb : 0 <= hi /\ hi <= a.length) :
  Ru P σ ⟨dst, .slice T x none (some z) none, T', pos, after, g⟩ w (S (a.take h)) := by
 subst hh
 simp [Ru, execOp, hx, hhi, S, Instr.sliceAt, run_underlying ht, Instr.slice, Instr.sliceBounds, Instr.sliceBound, asIntOf, hb.1, hb.2]
 apply ByteArray.ext
 simp [ByteArray.data_extract, List.extract_eq_take_drop]
theorem Ru.ssliceFrom {a : Str} {lo : Int} {l : Nat} (ht : P.underlying T = some .string) (hx : ev σ x = S a) (hlo : ev σ y = I lo) (hl : lo.toNat = l) (hb : 0 <= lo /\ lo <= a.length) :
  Ru P σ ⟨dst, .slice T x (some y) none none, T', pos, after, g⟩ w (S (a.drop l)) := by
 subst hl
 simp [Ru, execOp, hx, hlo, S, Instr.sliceAt, run_underlying ht, Instr.slice, Instr.sliceBounds, Instr.sliceBound, asIntOf, hb.1, hb.2]
 apply ByteArray.ext
 simp [ByteArray.data_extract, List.extract_eq_take_drop]
 rw [aE t11]
theorem Ru.lslice {n c : Nat} {lo hi : Int} {l h : Nat} (ht : P.underlying T = some (.slice e)) (he : ElT P e zs bytes agg) (hx : ev σ x = .slice A n c) (hlo : ev σ y = I lo) (hhi : ev σ z = I hi) (hl : lo.toNat = l) (hh : hi.toNat = h) (hb : 0 <= lo /\ lo <= hi /\ hi <= c) :
  Ru P σ ⟨dst, .slice T x (some y) (some z) none, T', pos, after, g⟩ w (.slice (if c = l then A else ofs A (l * zs.length)) (h - l) (c - l)) := by
 subst hl hh
 have h1 : 0 <= hi := by omega
 have h2 : lo <= max hi 0 := by omega
 simp [Ru, execOp, hx, hlo, hhi, Instr.sliceAt, run_underlying ht, Instr.slice, Instr.sliceBounds, Instr.sliceBound, asIntOf, h1, h2, hb.1, hb.2.2, iD he]
 rfl
theorem Ru.lsliceTo {n c : Nat} {hi : Int} {h : Nat} (ht : P.underlying T = some (.slice e)) (he : ElT P e zs bytes agg) (hx : ev σ x = .slice A n c) (hhi : ev σ z = I hi) (hh : hi.toNat = h) (hb : 0 <= hi /\ hi <= c) :
  Ru P σ ⟨dst, .slice T x none (some z) none, T', pos, after, g⟩ w (.slice A h c) := by
 subst hh
 simp [Ru, execOp, hx, hhi, Instr.sliceAt, run_underlying ht, Instr.slice, Instr.sliceBounds, Instr.sliceBound, asIntOf, hb.1, hb.2, iD he]
 intro _
 cases A <;> simp [Addr.add]
theorem Ru.lsliceFrom {n c : Nat} {lo : Int} {l : Nat} (ht : P.underlying T = some (.slice e)) (he : ElT P e zs bytes agg) (hx : ev σ x = .slice A n c) (hlo : ev σ y = I lo) (hl : lo.toNat = l) (hb : 0 <= lo /\ lo <= n) :
  Ru P σ ⟨dst, .slice T x (some y) none none, T', pos, after, g⟩ w (.slice (if c = l then A else ofs A (l * zs.length)) (n - l) (c - l)) := by
 subst hl
 simp [Ru, execOp, hx, hlo, Instr.sliceAt, run_underlying ht, Instr.slice, Instr.sliceBounds, Instr.sliceBound, asIntOf, hb.1, hb.2, iD he]
 rfl
def evp (σ : Sig) : List (Nat × Operand) -> List (Nat × Value)
 | [] => []
 | p :: l => (p.1, ev σ p.2) :: evp σ l
theorem sG : ∀ l : List (Nat × Operand), evp σ l = l.map λ p => (p.1, ev σ p.2)
 | [] => rfl
 | _ :: l => by simp [evp, sG l]
def aGg (zs : List Value) : List (Nat × Value) -> List Value
 | [] => zs
 | p :: l => aGg (zs.set p.1 p.2) l
def one (v : Value) : Bool := v.oneCell'
def oD (P : Program) (T : TypeId) (zs : List Value) : Prop :=
 ∃ it z fs, P.info? T = some it /\ it.zero = some z /\ z.cells = zs.toArray /\ P.underlying T = some (.struct fs) /\ fs.toList.mapM (λ f => (P.info? f.type).map λ i => (f.offset, i.size)) = some ((List.range zs.length).map λ k => (k, 1))
def oneq (P : Program) (T : TypeId) : Option (List (Nat × Nat)) :=
 match P.underlying T with
 | some (.struct fs) => fs.toList.mapM (λ f => (P.info? f.type).map λ i => (f.offset, i.size))
 | _ => none
theorem oD.of {P : Program} {T : TypeId} {zs : List Value} {z : Value} (h1 : (P.info? T).map (·.zero) = some (some z)) (hz : z.cells = zs.toArray) (h2 : oneq P T = some ((List.range zs.length).map λ k => (k, 1))) : oD P T zs := by
 unfold oneq at h2
 cases hi : P.info? T with
 | none => rw [hi] at h1; cases h1
 | some it =>
  rw [hi] at h1
  split at h2
  ·rename_i fs hu
   exact ⟨it, z, fs, hi, by simpa using h1, hz, hu, h2⟩
  cases h2
theorem aAj : ∀ (ps : List (Nat × Value)) (zs : List Value), (∀ p ∈ ps, p.1 < zs.length /\ one p.2 = true) ->
  Instr.fill (((List.range zs.length).map λ k => (k, 1)).toArray[·]?) zs.toArray ps = some (aGg zs ps).toArray
 | [], zs, _ => rfl
 | (i, v) :: ps, zs, h => by
  have h0 := h (i, v) t11
  have hv : v.cells = #[v] := by
   cases v <;> first | rfl | exact absurd h0.2 (by simp [one, Value.oneCell'])
  have hl : i < zs.length := h0.1
  have ih := aAj ps (zs.set i v) (λ p hp => by have := h p (by simp [hp]); simpa using this)
  have hle : ¬ (i + 1 > zs.length) := by omega
  simp only [Instr.fill, hv]
  simp only [List.getElem?_toArray, List.getElem?_map, List.getElem?_range hl, lC]
  simp only [eW] at ih
  simp [hle, aGg]
  simpa using ih
theorem Ru.build {parts : List (Nat × Operand)} {ps : List (Nat × Value)} {cs : List Value} (hT : oD P T zs) (hp : evp σ parts = ps) (ho : (ps.all λ p => Nat.blt p.1 zs.length && one p.2) = true) (hc : aGg zs ps = cs) : Ru P σ ⟨dst, .build T parts.toArray, T', pos, after, g⟩ w (.agg cs.toArray) := by
 subst hp hc
 obtain ⟨it, z, fs, hi, hz, hzc, hu, hm⟩ := hT
 have hb : P.built T (evp σ parts) = some (aGg zs (evp σ parts)).toArray := by
  unfold Program.built
  simp only [hi, hu, hz, hm, hzc]
  refine aAj _ _ λ p hp => ?_
  have := (dV.1 ho) p hp
  simpa [Nat.blt_eq] using this
 have := run_build (P := P) w T ((evp σ parts).toArray) _ (by simpa using hb)
 rw [sG] at this
 simp only [Ru, execOp, List.map_toArray]
 simp [this, sG]
variable {n : Nat} {Q : Post} {ops rest : List Oper}
theorem O.box {d : Nat} {vs : List Value} {v : Value} (hg : gok ops σ g = true) (hx : ev σ x = v) (hv : v.cells = vs.toArray) (hd : Nat.blt d n = true)
  (h : ∀ w' b, b = w.heap.size -> w.grownBy w' none -> Blk w' b T vs -> O P n ops rest Q (upd σ d (.pointer (ofs (bl b) 0))) w') : O P n ops (⟨some d, .box T x, T', pos, after, g⟩ :: rest) Q σ w := by
 refine O.valW hg (v := .pointer (ofs (bl w.heap.size) 0)) (w' := w.alloc (.cells vs.toArray T)) ?_ hd (h _ _ rfl (yD _ _) (heap_alloc_new w _))
 simp [Rw, execOp, hx, Instr.box, newVar, newRow, hv, ofs, Addr.add]
theorem O.alloc {d : Nat} (hg : gok ops σ g = true) (hd : Nat.blt d n = true) (he : ElT P T zs bytes agg)
  (h : ∀ w' b, b = w.heap.size -> w.grownBy w' none -> Blk w' b T zs -> O P n ops rest Q (upd σ d (.pointer (ofs (bl b) 0))) w') : O P n ops (⟨some d, .alloc T, T', pos, after, g⟩ :: rest) Q σ w := by
 obtain ⟨i, z, hi, hz, hzc, _, _⟩ := he.info
 refine O.valW hg (v := .pointer (ofs (bl w.heap.size) 0)) (w' := w.alloc (.cells zs.toArray T)) ?_ hd (h _ _ rfl (yD _ _) (heap_alloc_new w _))
 simp [Rw, execOp, Instr.alloc, zeroValue, typeInfo, hi, hz, newVar, newRow, hzc, ofs, Addr.add]
def zer (zs : List Value) (n : Nat) : List Value := (madeCells zs.toArray (n * zs.length)).toList
theorem O.make {d k : Nat} (hg : gok ops σ g = true) (hT : P.underlying T = some (.slice e)) (he : ElT P e zs bytes agg) (hx : ev σ x = I k) (hy : ev σ y = I k) (hd : Nat.blt d n = true) (hk : bytes * k <= 281474976710656) (hm : k <= 9223372036854775807)
  (h : ∀ w' b, b = w.heap.size -> w.grownBy w' none -> Blk w' b e (zer zs k) -> O P n ops rest Q (upd σ d (.slice (bl b) k k)) w') : O P n ops (⟨some d, .makeSlice T x y, T', pos, after, g⟩ :: rest) Q σ w := by
 obtain ⟨i, z, hi, hz, hzc, hs, hb⟩ := he.info
 have hb' : (i.bytes : Int) * (k : Int) <= 281474976710656 := by
  rw [hb, <- Int.natCast_mul]; omega
 have hr := run_make (P := P) w T e i z hT hi hz .i64 .i64 k k t1 (Int.le_refl _) hb' t1
 simp only [eS] at hr
 refine O.valW hg (v := .slice (bl w.heap.size) k k) (w' := w.alloc (.cells (madeCells z.cells (k * i.size)) e)) ?_ hd (h _ _ rfl (yD _ _) ?_)
 ·simp [Rw, execOp, hx, hy, hr]
 rw [hzc, hs]
 show (w.alloc _).heap[w.heap.size]? = _
 rw [heap_alloc_new]
 simp [zer]
def aEh (zs : List Value) (len : Nat) (ps : List (Nat × Value)) : Option (Array Value) := Instr.fill (λ i => some (i * zs.length, zs.length)) ((Array.range (len * zs.length)).map (zs.toArray[· % zs.length]!)) ps
theorem O.lit {d len : Nat} {parts : List (Nat × Operand)} {ps : List (Nat × Value)} {cs : List Value} (hg : gok ops σ g = true) (hT : P.underlying T = some (.slice e)) (he : ElT P e zs bytes agg) (hp : evp σ parts = ps) (hd : Nat.blt d n = true) (hsm : Nat.ble (len * zs.length) 16777216 = true)
  (hc : aEh zs len ps = some cs.toArray)
  (h : ∀ w' b, b = w.heap.size -> w.grownBy w' none -> Blk w' b e cs -> O P n ops rest Q (upd σ d (.slice (bl b) len len)) w') : O P n ops (⟨some d, .buildSlice T len parts.toArray, T', pos, after, g⟩ :: rest) Q σ w := by
 subst hp
 obtain ⟨i, z, hi, hz, hzc, hs, hb⟩ := he.info
 refine O.valW hg (v := .slice (bl w.heap.size) len len) (w' := w.alloc (.cells cs.toArray e)) ?_ hd (h _ _ rfl (yD _ _) (heap_alloc_new w _))
 have hsm' : ¬ (16777216 < len * zs.length) := by have := Nat.le_of_ble_eq_true hsm; omega
 by_cases h0 : len * zs.length = 0
 ·have hc' := hc
  simp only [aEh, h0, Array.range_zero', List.map_toArray, Array.map_empty] at hc'
  simp only [sG, List.map_nil] at hc'
  simp [Rw, execOp, Instr.buildSlice, run_underlying hT, iD he, h0, List.map_toArray, Array.range_zero', hc', newRow]
 have hc' := hc
 simp only [aEh, sG] at hc'
 simp [Rw, execOp, Instr.buildSlice, run_underlying hT, iD he, h0, hsm', zeroValue, typeInfo, hi, hz, hzc, newRow]
 simp at hc'
 simp [hc']
def spl (l : List Value) (k : Nat) (vs : List Value) : List Value := l.take k ++ vs ++ l.drop (k + vs.length)
theorem kC {l vs : List Value} {k : Nat} (h : k + vs.length <= l.length) : (spl l k vs).length = l.length := by simp [spl]; omega
theorem spl_one {l : List Value} {k : Nat} {v : Value} (h : k < l.length) : spl l k [v] = l.set k v := by
 simp [spl, bY, h]
theorem O.store {b k : Nat} {t : TypeId} {l vs : List Value} {v : Value} (hg : gok ops σ g = true) (he : ElT P T zs bytes agg) (hx : ev σ x = .pointer (ofs (bl b) k)) (hy : ev σ y = v) (hv : v.cells = vs.toArray) (hl : vs.length = zs.length) (h1 : (vs.all one) = true)
  (hb : Blk w b t l) (hk : k + vs.length <= l.length)
  (h : ∀ w', w.grownBy w' (some b) -> w'.heap.size = w.heap.size -> Blk w' b t (spl l k vs) -> O P n ops rest Q σ w') : O P n ops (⟨none, .store T x y, T', pos, after, g⟩ :: rest) Q σ w := by
 have hst := run_storeCells_at P b k t vs 0 l.toArray w hb (by simpa using hk) (λ v hv => (dV.1 h1) v hv)
 refine O.st hg (w' := w.setRow b (spl l k vs).toArray) ?_ (h _ ⟨rfl, rfl, rfl, t11, λ j _ hne => setRow_other w b j _ (λ e => hne (by rw [e]))⟩ t11 (setRow_heap w b _ _ t _ hb))
 simp only [Nat.add_zero] at hst
 simp only [Rs, execOp, hx, hy, ofs, lC, jF, jP, Instr.storeAt, Instr.sureAddr, storeVar]
 simp [iD he, hv, hl, hst, spl]
abbrev own (w : World) (B : Nat) (e : TypeId) (sz : Nat) (v : Value) (m : Nat) (xs : List Value) : Prop := w.ownsRow B e sz v m xs
theorem nH {B sz m : Nat} {v : Value} {xs : List Value} (h : own w B e sz v m xs) : ∃ A c, v = .slice A m c /\ m <= c /\ c <= maxLen /\ Rd w A xs /\ Fr B A /\ xs.length = m * sz := by
 obtain ⟨hl, ⟨rfl, rfl⟩ | ⟨b, c, cur, rfl, hb, hh, hn, hc, hs, ht⟩⟩ := h
 ·exact ⟨none, 0, rfl, dD _, bI _, .inl (aP (by simpa using hl)), (λ a h => by cases h), hl⟩
 have hlt : b < w.heap.size := (Array.getElem?_eq_some_iff.1 hh).1
 refine ⟨_, c, rfl, hn, hc, .inr ⟨b, 0, rfl, hlt, λ j u hu => ?_⟩, by rintro a ⟨⟩; exact hb, hl⟩
 rw [jP, cell_of_row w b j cur e (0, 0) hh]
 subst ht
 rw [List.getElem?_take] at hu
 split at hu
 ·simpa using hu
 cases hu
theorem own_new {b m sz B : Nat} {xs : List Value} (h : Blk w b e xs) (hB : B <= b) (hl : xs.length = m * sz) (hm : m <= maxLen) : own w B e sz (.slice (bl b) m m) m xs :=
 ⟨hl, .inr ⟨b, m, xs.toArray, rfl, hB, h, dD _, hm, by simpa using hl, by simp [<- hl]⟩⟩
theorem wI (t ty : TypeId) (ht : P.underlying t = some (.slice e)) (he : ElT P e zs bytes agg) {B m : Nat} {v : Value} {xs : List Value} (hown : own w B e zs.length v m xs) (A : Option Addr) (c : Nat) :
  ∃ c', (Builtin.append_ #[t, t] ty #[v, .slice A 0 c]).run P w = .ok v w /\ c' = c := by
 refine ⟨c, ?_, rfl⟩
 obtain ⟨i, z, hi, hz, hzc, hs, hb⟩ := he.info
 rcases hown.2 with ⟨rfl, rfl⟩ | ⟨b, cap, cur, rfl, _, _, hnc, _⟩
 ·cases A <;> simp [Builtin.append_, run_underlying ht, sizeOf, typeInfo, hi, Builtin.lenOf, Builtin.firstCells, loadCells, loadCellsFrom]
 cases A <;> simp [Builtin.append_, run_underlying ht, sizeOf, typeInfo, hi, Builtin.lenOf, Builtin.firstCells, loadCells, loadCellsFrom, hnc, storeCells]
theorem O.append {d : Nat} {t : TypeId} {B m k c : Nat} {v : Value} {xs news : List Value} (hg : gok ops σ g = true) (ht : P.underlying t = some (.slice e)) (he : ElT P e zs bytes agg) (hz : 0 < zs.length) (hx : ev σ x = v) (hy : ev σ y = .slice A k c) (hd : Nat.blt d n = true)
  (hown : own w B e zs.length v m xs) (hr : Rd w A news) (hl : news.length = k * zs.length) (h1 : (news.all one) = true) (hn : m + k <= 9223372036854775807) (hby : (m + k) * bytes <= 140737488355328) (hB : B <= w.heap.size)
  (h : ∀ w' v', own w' B e zs.length v' (m + k) (xs ++ news) -> w.grownBy w' v.ownBlock -> (v'.ownBlock = v.ownBlock \/ v'.ownBlock = some w.heap.size) -> O P n ops rest Q (upd σ d v') w') :
  O P n ops (⟨some d, .call ⟨.builtin .append, #[x, y], #[t, t]⟩, T', pos, after, g⟩ :: rest) Q σ w := by
 have key : ∃ v' w', (Builtin.append_ #[t, t] T' #[v, .slice A k c]).run P w = .ok v' w' /\ own w' B e zs.length v' (m + k) (xs ++ news) /\ w.grownBy w' v.ownBlock /\ (v'.ownBlock = v.ownBlock \/ v'.ownBlock = some w.heap.size) := by
  by_cases hk : news = []
  ·subst hk
   have hk0 : k = 0 := by
    rcases Nat.eq_zero_or_pos k with h0 | h0
    ·exact h0
    have := Nat.mul_pos h0 hz; simp at hl; omega
   subst hk0
   obtain ⟨_, hrun, _⟩ := wI t T' ht he hown A c
   exact ⟨v, w, hrun, by simpa using hown, aJh w _, .inl rfl⟩
  rcases hr with hr | ⟨b, o, rfl, hb, hc⟩
  ·exact absurd hr hk
  obtain ⟨i, z, hi, hz', hzc, hs, hb'⟩ := he.info
  obtain ⟨v', w', hrun, h2, h3, _, h5⟩ := run_append_own_at (P := P) w B t T' e i z zs.length bytes ht hi hz' hs hb' (by simp [hzc]) hz v m xs hown ⟨b, o, none⟩ k c news hl (λ j u hu => by rw [jF]; exact hc j u hu) (λ u hu => (dV.1 h1) u hu) (by simp only [maxLen]; omega) hby hB
  exact ⟨v', w', hrun, h2, h3, h5⟩
 obtain ⟨v', w', hrun, h2, h3, h4⟩ := key
 refine O.valW hg (v := v') (w' := w') ?_ hd (h w' v' h2 h3 h4)
 simp [Rw, execOp, resolve, invoke, builtin, hx, hy, hrun]
end
section
variable {w w' w'' : World} {A : Option Addr} {t e : TypeId} {k : Nat}
theorem Blk.lds {g : Nat} {l vs : List Value} (h : Blk w g t l) (hv : (l.drop k).take vs.length = vs) : ∀ j u, vs[j]? = some u -> Ld w (bl g) (k + j) u := λ j u hu => h.ld (by
 rw [<- hv, List.getElem?_take] at hu
 split at hu
 ·rwa [mV] at hu
 cases hu)
theorem ldm {α : Type} {f : α -> Value} {l : List α} (h : Rd w A (l.map f)) (hk : k < l.length) : Ld w A (k * 1) (f l[k]) := by
 rw [Nat.mul_one]; exact h.ld (by simp [hk])
theorem smm {α : Type} {f : α -> Value} {l : List α} (h : Rd w A (l.map f)) (hk : k < l.length) : A.isSome = true := h.some (k := k) (v := f l[k]) (by simp [hk])
theorem aEn {α : Type} {enc : α -> List Value} {n : Nat} (hn : ∀ a, (enc a).length = n) : ∀ (l : List α) (k : Nat) (hk : k < l.length) (f : Nat), f < n -> (l.flatMap enc)[k * n + f]? = (enc l[k])[f]?
 | a :: l, 0, hk, f, hf => by
  simp only [aK, Nat.zero_mul, jP, dB]
  rw [gO (by rw [hn]; exact hf)]
 | a :: l, k + 1, hk, f, hf => by
  simp only [aK, iR]
  have he : (k + 1) * n + f = (enc a).length + (k * n + f) := by rw [hn, Nat.succ_mul]; omega
  rw [he, gE t1, Nat.add_sub_cancel_left]
  exact aEn hn l k (by simpa using hk) f hf
theorem ldf {α : Type} {enc : α -> List Value} {n : Nat} {l : List α} {f : Nat} {v : Value} (hn : ∀ a, (enc a).length = n) (h : Rd w A (l.flatMap enc)) (hk : k < l.length) (hv : (enc l[k])[f]? = some v) : Ld w A (k * n + f) v := by
 have hf : f < n := by rw [<- hn l[k]]; exact (cC.1 hv).1
 exact h.ld (by rw [aEn hn l k hk f hf, hv])
theorem ldn {α : Type} {enc : α -> List Value} {n : Nat} {l : List α} (hn : ∀ a, (enc a).length = n) (h : Rd w A (l.flatMap enc)) (hk : k < l.length) : ∀ j u, (enc l[k])[j]? = some u -> Ld w A (k * n + j) u := λ _ _ hu => ldf hn h hk hu
theorem smf {α : Type} {enc : α -> List Value} {n : Nat} {l : List α} {v : Value} (hn : ∀ a, (enc a).length = n) (h : Rd w A (l.flatMap enc)) (hk : k < l.length) (hv : (enc l[k])[0]? = some v) : A.isSome = true := by
 obtain ⟨a, ha, _⟩ := ldf hn h hk hv; rw [ha]; rfl
end
end Go.Px
end
section
namespace Go.Px
open Go.RowKit
theorem dO {α : Type} {l : List α} {k : Nat} (hk : k < l.length) : l.take (k + 1) = l.take k ++ [l[k]] := jO hk
theorem aJw {α : Type} (zs : List α) : ∀ (n i : Nat), i < n * zs.length -> ((List.replicate n zs).flatten)[i]? = zs[i % zs.length]?
 | 0, i, h => by simp at h
 | n + 1, i, h => by
  rw [kF, cZ]
  by_cases hi : i < zs.length
  ·rw [gO hi, Nat.mod_eq_of_lt hi]
  rw [gE t1, aJw zs n (i - zs.length) (by rw [Nat.succ_mul] at h; omega), <- Nat.mod_eq_sub_mod t1]
theorem aIp (zs : List Value) (n : Nat) : zer zs n = (List.replicate n zs).flatten := by
 apply List.ext_getElem?
 intro i
 unfold zer madeCells
 by_cases hi : i < n * zs.length
 ·have h0 : 0 < zs.length := by
   rcases Nat.eq_zero_or_pos zs.length with h | h
   ·rw [h] at hi; simp at hi
   exact h
  have hm : i % zs.length < zs.length := Nat.mod_lt _ h0
  rw [aJw zs n i hi]
  simp [hi, hm]
 have hl : ((List.replicate n zs).flatten).length = n * zs.length := by simp
 rw [List.getElem?_eq_none t13, List.getElem?_eq_none (by rw [hl]; omega)]
theorem zer_one (z : Value) (n : Nat) : zer [z] n = List.replicate n z := by
 rw [aIp]
 induction n with
 | zero => rfl
 | succ n ih => rw [kF, cZ, ih]; rfl
theorem kE (zs : List Value) (n : Nat) : (zer zs n).length = n * zs.length := by simp [zer, size_madeCells]
theorem Blk.cast {w : World} {g : Nat} {t : TypeId} {l l' : List Value} (h : Blk w g t l) (e : l = l') : Blk w g t l' := e ▸ h
theorem jU {α : Type} {f : α -> Value} (hf : ∀ a, one (f a) = true) (l : List α) : ((l.map f).all one) = true := by simp [hf]
theorem jG {α : Type} {enc : α -> List Value} (hf : ∀ a, (enc a).all one = true) (l : List α) : ((l.flatMap enc).all one) = true := by
 induction l with
 | nil => rfl
 | cons a l ih => simp only [aK, List.all_append, hf a, ih]; rfl
def byteV (b : UInt8) : Value := .int .u8 (b.toNat : Int)
section
variable {P : Program} {σ : Sig} {w : World} {dst : Option Tmp} {T U T' e : TypeId} {pos : String} {after : Array Edge} {g : Option (Nat × Bool)} {x y z : Operand}
variable {A : Option Addr} {zs : List Value} {bytes : Nat} {agg : Bool} {n : Nat} {Q : Post} {ops rest : List Oper}
theorem Ru.b2s {l : List UInt8} {c : Nat} (hs : P.underlying T = some (.slice e)) (he : P.underlying e = some (.int .u8)) (hd : P.underlying U = some .string) (hx : ev σ x = .slice A l.length c) (hr : Rd w A (l.map byteV)) :
  Ru P σ ⟨dst, .convert T U x, T', pos, after, g⟩ w (S l) := by
 have hf : ∀ (l : List UInt8) (s : ByteArray), ((l.map λ b => (b.toNat : Int)).foldl (λ r n => r.push (UInt8.ofNat n.toNat)) s) = ⟨s.data ++ l.toArray⟩ := by
  intro l
  induction l with
  | nil => intro s; simp
  | cons b l ih =>
   intro s
   simp only [mN, List.foldl_cons, ih]
   apply ByteArray.ext
   simp [ByteArray.push]
 have hconv := run_convert_bytes_string (P := P) w T U e A l.length c hs he hd
 have key : (Conv.bytesToString (.slice A l.length c)).run P w = .ok (S l) w := by
  rcases hr with hr | ⟨b, o, rfl, _, hc⟩
  ·have : l = [] := by simpa using hr
   subst this
   cases A with
   | none => rfl
   | some a =>
    have := run_bytesToString (P := P) w a 0 c [] (by simp [loadCells, loadCellsFrom])
    rw [show S [] = .string ByteArray.empty from rfl]
    simpa using this
  have hl := run_loadCells_list (P := P) w ⟨b, o, none⟩ (l.map byteV) (λ j u hu => by rw [jF]; exact hc j u hu)
  have := run_bytesToString (P := P) w ⟨b, o, none⟩ l.length c (l.map λ b => (b.toNat : Int)) (by
   simp only [bC] at hl
   rw [hl]
   simp [byteV, Function.comp_def])
  rw [this, hf]
  show Result.ok (Value.string ⟨#[] ++ l.toArray⟩) w = _
  simp [S]
 simp [Ru, execOp, hx, hconv, key]
theorem IntKind.wrap_u8_of (n : Int) (h : 0 <= n /\ n <= 255) : IntKind.u8.wrap n = n := IntWalk.u8_in n h
end
end Go.Px
end
section
namespace Go.Px
open Go.RowKit Go.ChangeShapes Go.WideShapes Go.Deep
section
variable {H : Type} {eh : TypeId × Value -> H} {P : Program} {w : World} {base : Nat} {spare : Nat -> Bool} {held : Bool}
theorem aJb {α : Type} {f : α -> List Value} {c : Nat} (hc : ∀ a, (f a).length = c) : ∀ (l : List α) (j : Nat) (u : Value), (l.flatMap f)[j]? = some u -> ∃ i r, ∃ h : i < l.length, r < c /\ j = i * c + r /\ (f l[i])[r]? = some u
 | [], j, u, h => by simp at h
 | a :: l, j, u, h => by
  rw [aK] at h
  by_cases hj : j < c
  ·rw [gO (by rw [hc]; exact hj)] at h
   exact ⟨0, j, t11, hj, t11, h⟩
  rw [gE (by rw [hc]; omega), hc] at h
  obtain ⟨i, r, hi, hr, e, hu⟩ := aJb hc l _ u h
  exact ⟨i + 1, r, by simp; omega, hr, by rw [bM]; omega, hu⟩
theorem tN {α : Type} {f : α -> Value} (l : List α) : l.flatMap (λ a => [f a]) = l.map f := by induction l <;> simp_all
theorem uJ {α : Type} [Inhabited α] {t e : TypeId} {fuel : Nat} {A : Option Addr} {len cap c : Nat} {x : DataW H × List MemPlace} {f : α -> List Value} {ok : α -> Prop}
  (ht : P.underlying t = some (.slice e)) (hp : P.cellsOf e = c) (hc : ∀ a, (f a).length = c)
  (hel : ∀ n cs y, DataW.trod eh P w base spare held n e cs = some y -> ∃ a, cs = f a /\ ok a)
  (h : DataW.trod eh P w base spare held fuel t [.slice A len cap] = some x) :
  ∃ l : List α, len = l.length /\ l.length <= 9223372036854775807 /\ l.length <= cap /\ (∀ a ∈ l, ok a) /\ Rd w A (l.flatMap f) := by
 rcases open_slice ht h with ⟨h0, _⟩ | ⟨a, len', cap', m, n, D, Pl, h0, hb, hl, hm, hmm, hx, hi⟩
 ·simp at h0; obtain ⟨_, rfl, rfl⟩ := h0; exact ⟨[], rfl, t11, t11, t11, Rd.nil⟩
 simp at h0; obtain ⟨rfl, rfl, rfl⟩ := h0
 have hlm : len <= m := by rw [hmm]; split <;> omega
 obtain ⟨g, hg⟩ := choose_lt (α := α) (n := len) (p := λ i y => ok y /\ ∀ r, r < c -> w.cell? ((a.add (i * c)).add r) = (f y)[r]?) (λ i hil => by
  obtain ⟨cs, h1, h2⟩ := hi i t1
  obtain ⟨y, rfl, hy⟩ := hel _ _ _ h2
  rw [hp] at h1
  obtain ⟨_, _, h3⟩ := World.cells?_some h1
  exact ⟨y, hy, h3⟩)
 have hM : len <= 9223372036854775807 := by unfold maxLen at hm; omega
 refine ⟨(List.range len).map g, t11, by simpa using hM, by simpa using hl, by simp; intro i hil; exact (hg i hil).1, ?_⟩
 by_cases hz : 0 < len /\ 0 < c
 ·have h00 := (hg 0 hz.1).2 0 hz.2
  have hs : ∃ v, (f (g 0))[0]? = some v := ⟨_, aL (by rw [hc]; exact hz.2)⟩
  obtain ⟨v, hv⟩ := hs
  rw [hv, Nat.zero_mul] at h00
  have e0 : (a.add 0).add 0 = a := by simp [Addr.add]
  rw [e0] at h00
  obtain ⟨b, o, s⟩ := a
  have hsp : s = none := by
   unfold World.cell? at h00
   cases s with
   | none => rfl
   | some s => simp at h00; split at h00 <;> simp at h00
  subst hsp
  refine .inr ⟨b, o, rfl, ?_, λ j u hu => ?_⟩
  ·rcases fB b w.heap.size with hlt | hge
   ·exact hlt
   unfold World.cell? at h00; rw [Array.getElem?_eq_none hge] at h00; cases h00
  obtain ⟨i, r, hil, hr, rfl, hv'⟩ := aJb hc _ _ _ hu
  simp at hil
  rw [cI, gX] at hv'
  have := (hg i hil).2 r hr
  rw [jF, jF, hv'] at this
  rw [Nat.add_assoc] at this; exact this
 left
 rcases Nat.eq_zero_or_pos len with h0 | h0
 ·subst h0; rfl
 have hc0 : c = 0 := by omega
 simp; intro i _; exact aP (by rw [hc, hc0])
theorem wN {t : TypeId} (ht : P.underlying t = some (.int .u8)) : ∀ n cs y, DataW.trod eh P w base spare held n t cs = some y -> ∃ a : UInt8, cs = [Value.int .u8 (a.toNat : Int)] /\ True := λ n cs y h => by
 obtain ⟨m, rfl, _, hw⟩ := DataW.trod_int ht h
 have hm : 0 <= m /\ m <= 255 := by simp only [Lit.wf, aW, decide_eq_true_eq] at hw; exact hw
 refine ⟨UInt8.ofNat m.toNat, ?_, trivial⟩
 rw [UInt8.toNat_ofNat']
 congr 2
 omega
end
end Go.Px
end
section
namespace Go.Px
open Go.RowKit
def bX (P : Program) (σ : Sig) (w : World) : List ResultVar -> List Value -> Prop
 | [], vs => vs = []
 | .tmp t :: r, vs => ∃ vs', vs = σ t :: vs' /\ bX P σ w r vs'
 | .cell t T :: r, vs => ∃ b ty l zs bytes vs', σ t = .pointer (ofs (bl b) 0) /\ Blk w b ty l /\ ElT P T zs bytes true /\ l.length = zs.length /\ vs = .agg l.toArray :: vs' /\ bX P σ w r vs'
def pack : List Value -> Value
 | [v] => v
 | vs => .tuple vs.toArray
section
variable {P : Program} {σ : Sig} {w : World} {n : Nat}
theorem bX.nil : bX P σ w [] [] := rfl
theorem bX.tmp {t : Nat} {v : Value} {r : List ResultVar} {vs : List Value} (hv : σ t = v) (h : bX P σ w r vs) : bX P σ w (.tmp t :: r) (v :: vs) := ⟨vs, by rw [hv], h⟩
theorem bX.cell {t b : Nat} {T ty : TypeId} {l zs : List Value} {bytes : Nat} {r : List ResultVar} {vs : List Value} (hv : σ t = .pointer (ofs (bl b) 0)) (hb : Blk w b ty l) (he : ElT P T zs bytes true) (hl : l.length = zs.length) (h : bX P σ w r vs) :
  bX P σ w (.cell t T :: r) (.agg l.toArray :: vs) := ⟨b, ty, l, zs, bytes, vs, hv, hb, he, hl, rfl, h⟩
theorem yZ {tmps : Array Value} (hget : ∀ t, tmps.getD t undef = σ t) (f : ResultVar -> Sem Value) (hf1 : ∀ t, f (.tmp t) = pure (tmps.getD t undef)) (hf2 : ∀ a t, f (.cell a t) = (asAddr (tmps.getD a undef) >>= λ x => loadVar t x)) : ∀ (rs : List ResultVar) (vs : List Value), bX P σ w rs vs ->
  (rs.mapM f).run P w = .ok vs w
 | [], vs, h => by cases h; rfl
 | .tmp t :: r, vs, ⟨vs', he, h⟩ => by
  subst he
  have ih := yZ hget f hf1 hf2 r vs' h
  simp only [List.mapM_cons, Sem.run_bind, hf1, Sem.run_pure, Result.andThen_ok, ih, hget]
 | .cell t T :: r, vs, ⟨b, ty, l, zs, bytes, vs', hv, hb, he, hl, hvs, h⟩ => by
  subst hvs
  have hld : (loadVar T ⟨b, 0, none⟩).run P w = .ok (.agg l.toArray) w := by
   have h := run_loadCells_list (P := P) w ⟨b, 0, none⟩ l (λ j u hu => by rw [jF, jP, hb.cell, hu])
   simp [loadVar, wV he, iD he, <- hl, h]
  have ha : (asAddr (tmps.getD t undef)).run P w = .ok ⟨b, 0, none⟩ w := by
   rw [hget, hv]; rfl
  have ih := yZ hget f hf1 hf2 r vs' h
  simp only [List.mapM_cons, Sem.run_bind, hf2, Sem.run_pure, Result.andThen_ok, ha, hld, ih]
structure RetG (P : Program) (rs : List ResultVar) (R : Value -> World -> Prop) (σ : Sig) (w : World) : Prop where
 out : ∃ vs, bX P σ w rs vs /\ R (pack vs) w
def postG (P : Program) (rs : List ResultVar) (R : Value -> World -> Prop) : Post
 | .normal, σ, w => RetG P rs R σ w
 | .ret, σ, w => RetG P rs R σ w
 | _, _, _ => False
theorem PG {rs : List ResultVar} {R : Value -> World -> Prop} {vs : List Value} (hv : bX P σ w rs vs) (h : R (pack vs) w) : RetG P rs R σ w := ⟨vs, hv, h⟩
theorem aMc {fn : Func} {rs : List ResultVar} {vs : List Value} {tmps : Array Value} (hr : fn.results = rs.toArray) (hget : ∀ t, tmps.getD t undef = σ t) (h : bX P σ w rs vs) : (results fn tmps).run P w = .ok (pack vs) w := by
 unfold results
 simp only [hr, Array.mapM_eq_mapM_toList, Sem.run_bind, Sem.run_map]
 rw [yZ (P := P) hget _ (λ _ => rfl) (λ _ _ => rfl) rs vs h]
 cases vs with
 | nil => rfl
 | cons v vs => cases vs <;> rfl
theorem aR.enterG {f : FuncId} {fn : Func} {c : Code} {rs : List ResultVar} {vs : List Value} {R : Value -> World -> Prop} (hf : P.funcs[f]? = some fn) (hb : fn.body = some c) (hr : fn.results = rs.toArray) (hn : fn.ntmps = n) (hl : Nat.ble vs.length n = true)
  (h : C P n c (postG P rs R) (arg vs) w) : aR P f vs w R := by
 subst hn
 refine ⟨calls_of_wp hf hb (wp_mono (h.out _ (qT (by simpa using hl))) λ e a w ⟨σ, ha, hq⟩ => ?_)⟩
 have hR : e = .normal \/ e = .ret -> ∃ v, (results fn a.tmps).run P w = .ok v w /\ R v w := by
  intro he
  have : RetG P rs R σ w := by rcases he with rfl | rfl <;> exact hq
  obtain ⟨us, h1, h2⟩ := this.out
  exact ⟨_, aMc hr ha.get h1, h2⟩
 cases e with
 | normal => obtain ⟨v, h1, h2⟩ := hR (.inl rfl); exact ⟨ha.defers, v, h1, v, rfl, h2⟩
 | ret => obtain ⟨v, h1, h2⟩ := hR (.inr rfl); exact ⟨ha.defers, v, h1, v, rfl, h2⟩
 | exit i => exact hq
 | goto i => exact hq
 | panic c => exact hq.elim
 | outgrown => exact hq.elim
end
end Go.Px
end
section
namespace Go.Px
open Go.RowKit
variable {P : Program} {n : Nat} {ops rest : List Oper} {Q : Post} {σ : Sig} {w : World} {S : World -> Prop} {K : Sig -> World -> Prop}
def lS (K : Sig -> World -> Prop) : Post
 | .normal, σ, w => K σ w
 | _, _, _ => False
theorem aLz {K K' : Sig -> World -> Prop} {e : Exit} (he : e ≠ .normal) {a : Act} {w : World} (h : qI n (lS K) e a w) : qI n (lS K') e a w := by
 obtain ⟨σ, _, h⟩ := h
 cases e <;> first | exact absurd rfl he | exact h.elim
theorem aLy {Q : Post} {e : Exit} {a : Act} {w : World} (h : qI n (lS λ σ w => Q .normal σ w) e a w) : qI n Q e a w := by
 obtain ⟨σ, ha, h⟩ := h
 cases e <;> first | exact ⟨σ, ha, h⟩ | exact h.elim
theorem aPu {o : Oper} {a : Act} {w : World} {Q Q' : Exit -> Act -> World -> Prop} {K K' : Act -> World -> Prop} (h : ∀ a w, K a w -> K' a w) (hq : ∀ e a w, e ≠ .normal -> Q e a w -> Q' e a w)
  (hh : o.wp P a w K Q) : o.wp P a w K' Q' := by
 unfold Oper.wp at *
 generalize (execOp a.eval o).run P w = r at *
 have hl : LetsOut Q -> LetsOut Q' := λ ⟨a, w, h⟩ => ⟨a, w, hq _ _ _ t11 h⟩
 cases r with
 | ok n w' =>
  cases n <;> simp only [Oper.upon] at hh ⊢ <;>
   first
    | exact h _ _ hh
    | exact Calls.mono hh (λ e w'' he => by cases e <;> first | exact h _ _ he | exact hq _ _ _ t11 he | exact hl he)
    | exact Rows.mono hh (λ _ _ he => h _ _ he)
 | halt x w' => cases x <;> simp only [Oper.upon] at hh ⊢ <;> first | exact hq _ _ _ t11 hh | exact hh
structure AO (P : Program) (n : Nat) (ops : List Oper) (S : World -> Prop) (K : Sig -> World -> Prop) (fuel : Nat) (ls : List Bool) (σ : Sig) (w : World) : Prop where
 out : S w -> ∀ a, lO n a σ -> wpAnyH P .any ops.toArray (qI n (lS K)) S fuel ls.toArray a w
theorem C.any {id : Nat} {l : List Oper} {f : Nat} {ls : List Bool} (S : World -> Prop) (hm : P.follows .mixedOrders = true) (hf : l.length = f) (hl : List.replicate f false = ls) (hS : ∀ w1, w.grownBy w1 none -> S w1)
  (h : ∀ w1, w.grownBy w1 none -> AO P n l S (λ σ w => Q .normal σ w) f ls σ w1) : C P n (.region id l.toArray true) Q σ w :=
 ⟨λ a ha => by
  have hg := aOd w
  refine wp_mono (Q := qI n (lS λ σ w => Q .normal σ w)) (wp_region_held (S := S) hm ?_) (λ e a w h => aLy h)
  have := (h _ hg).out (hS _ hg) a ha
  subst hf hl
  simpa using this⟩
theorem AO.nil {f : Nat} {ls : List Bool} (hr : Region.ready .any ops.toArray ls.toArray = []) (h : K σ w) : AO P n ops S K f ls σ w :=
 ⟨λ _ a ha => wpAnyH_done hr ⟨σ, ha, h⟩ f⟩
def wB (ops : List Oper) (ls : List Bool) (i : Nat) : Bool := Region.noSelect ops.toArray && Region.free .any ops.toArray ls.toArray i && (Region.ready .any ops.toArray ls.toArray).contains i
theorem sP {ls : List Bool} {i : Nat} (h : wB ops ls i = true) : Region.noSelect ops.toArray = true /\ Region.free .any ops.toArray ls.toArray i = true /\ (Region.ready .any ops.toArray ls.toArray).contains i = true := by
 simp only [wB, aW] at h
 exact ⟨h.1.1, h.1.2, h.2⟩
theorem wR {l : List Oper} {i : Nat} {o : Oper} (h : nth l i = some o) : l.toArray[i]? = some o := by
 rw [List.getElem?_toArray]
 induction l generalizing i with
 | nil => cases h
 | cons a l ih => cases i with
  | zero => exact h
  | succ i => exact ih h
theorem AO.val (i : Nat) {f d : Nat} {ls ls' : List Bool} {op T pos after g} {v : Value} (hi : nth ops i = some ⟨some d, op, T, pos, after, g⟩) (hb : wB ops ls i = true) (hl : ls.set i true = ls')
  (hg : gok ops σ g = true) (hv : ∀ w, S w -> Ru P σ ⟨some d, op, T, pos, after, g⟩ w v) (hd : Nat.blt d n = true) (h : AO P n ops S K f ls' (upd σ d v) w) : AO P n ops S K (f + 1) ls σ w :=
 ⟨λ hS a ha => by
  obtain ⟨h1, h2, h3⟩ := sP hb
  refine wpAnyH_take (v := v) (wR hi) h1 h2 h3 (λ c a w h => ?_) (.inl ⟨iB ha hg (.inl rfl), λ w hw => by rw [ha.eval]; exact hv w hw⟩) hS ?_
  ·obtain ⟨_, _, h⟩ := h; exact h.elim
  subst hl
  have := h.out hS _ (ha.put hd v)
  simpa using this⟩
theorem AO.pass (i : Nat) {f d : Nat} {ls ls' : List Bool} {op T pos after j want o dj u} (hi : nth ops i = some ⟨some d, op, T, pos, after, some (j, want)⟩) (hb : wB ops ls i = true) (hl : ls.set i true = ls')
  (h1 : nth ops j = some o) (h2 : o.dst = some dj) (h3 : σ dj = .bool u) (hg : (u == want) = false) (hd : Nat.blt d n = true)
  (h : AO P n ops S K f ls' (upd σ d undef) w) : AO P n ops S K (f + 1) ls σ w :=
 ⟨λ hS a ha => by
  obtain ⟨b1, b2, b3⟩ := sP hb
  refine wpAnyH_take (v := undef) (wR hi) b1 b2 b3 (λ c a w h => ?_) (.inr ⟨iB (b := false) ha (by simpa [gok, h1, h2, h3] using hg) (.inr ⟨j, want, o, dj, u, rfl, h1, h2, h3⟩), rfl⟩) hS ?_
  ·obtain ⟨_, _, h⟩ := h; exact h.elim
  subst hl
  have := h.out hS _ (ha.put hd undef)
  simpa using this⟩
theorem AO.passU (i : Nat) {f d : Nat} {ls ls' : List Bool} {op T pos after j want o dj} (hi : nth ops i = some ⟨some d, op, T, pos, after, some (j, want)⟩) (hb : wB ops ls i = true) (hl : ls.set i true = ls')
  (h1 : nth ops j = some o) (h2 : o.dst = some dj) (h3 : σ dj = undef) (hd : Nat.blt d n = true)
  (h : AO P n ops S K f ls' (upd σ d undef) w) : AO P n ops S K (f + 1) ls σ w :=
 ⟨λ hS a ha => by
  obtain ⟨b1, b2, b3⟩ := sP hb
  refine wpAnyH_take (v := undef) (wR hi) b1 b2 b3 (λ c a w h => ?_) (.inr ⟨vE ha h1 h2 h3, rfl⟩) hS ?_
  ·obtain ⟨_, _, h⟩ := h; exact h.elim
  subst hl
  have := h.out hS _ (ha.put hd undef)
  simpa using this⟩
def xG (P : Program) (n : Nat) (ops : List Oper) (S : World -> Prop) (K : Sig -> World -> Prop) (f : Nat) (ls : List Bool) (σ : Sig) (w : World) (i : Nat) : Prop :=
 ∃ o, nth ops i = some o /\ O P n ops [o] (lS λ σ' w' => S w' /\ AO P n ops S K f (ls.set i true) σ' w') σ w
theorem AO.all {f : Nat} {ls : List Bool} (rs : List Nat) (hr : Region.ready .any ops.toArray ls.toArray = rs) (hne : rs ≠ []) (h : ∀ i ∈ rs, xG P n ops S K f ls σ w i) : AO P n ops S K (f + 1) ls σ w :=
 ⟨λ hS a ha => wpAnyH_all hr hne λ i hi => by
  obtain ⟨o, ho, h⟩ := h i hi
  have h := h.out a ha
  unfold wpOp
  rw [wR ho]
  unfold wpList at h
  show (if _ then _ else _)
  have key : ∀ a' w', qI n (lS λ σ' w' => S w' /\ AO P n ops S K f (ls.set i true) σ' w') .normal a' w' -> S w' /\ wpAnyH P .any ops.toArray (qI n (lS K)) S f (ls.toArray.setIfInBounds i true) a' w' := by
   rintro a' w' ⟨σ', ha', hS', hA⟩
   refine ⟨hS', ?_⟩
   have := hA.out hS' a' ha'
   simpa using this
  split at h
  ·rename_i hw
   rw [if_pos hw]
   rcases h with h | ⟨_, a, w, σ, _, h⟩
   ·exact .inl (aPu (λ a' w' hk => key a' w' (by simpa [wpList] using hk)) (λ e a w he h => aLz he h) h)
   exact h.elim
  rename_i hw
  rw [if_neg hw]
  exact key _ _ (by simpa [wpList] using h)⟩
theorem AO.one {f : Nat} {ls : List Bool} (i : Nat) (hr : Region.ready .any ops.toArray ls.toArray = [i]) (h : xG P n ops S K f ls σ w i) : AO P n ops S K (f + 1) ls σ w :=
 .all [i] hr t11 (by simpa using h)
theorem AO.two {f : Nat} {ls : List Bool} (i j : Nat) (hr : Region.ready .any ops.toArray ls.toArray = [i, j]) (h : xG P n ops S K f ls σ w i) (h' : xG P n ops S K f ls σ w j) : AO P n ops S K (f + 1) ls σ w :=
 .all [i, j] hr t11 (by simpa using ⟨h, h'⟩)
theorem AO.three {f : Nat} {ls : List Bool} (i j k : Nat) (hr : Region.ready .any ops.toArray ls.toArray = [i, j, k]) (h : xG P n ops S K f ls σ w i) (h' : xG P n ops S K f ls σ w j) (h'' : xG P n ops S K f ls σ w k) : AO P n ops S K (f + 1) ls σ w :=
 .all [i, j, k] hr t11 (by simpa using ⟨h, h', h''⟩)
theorem Ru.xor {x y : Operand} {T U T' : TypeId} {dst pos after g} {a b : Int} (hx : ev σ x = I a) (hy : ev σ y = I b) (ha : 0 <= a /\ a <= 9223372036854775807) (hb : 0 <= b /\ b <= 9223372036854775807) :
  Ru P σ ⟨dst, .binOp .xor T x y U, T', pos, after, g⟩ w (I ((a.toNat ^^^ b.toNat : Nat) : Int)) := by
 obtain ⟨m, rfl⟩ := Int.eq_ofNat_of_zero_le ha.1
 obtain ⟨k, rfl⟩ := Int.eq_ofNat_of_zero_le hb.1
 have hk : (m ^^^ k) < 2 ^ 63 := Nat.xor_lt_two_pow t1 t1
 have e1 : m % 2 ^ IntKind.i64.bits = m := by show m % 2 ^ 64 = m; exact Nat.mod_eq_of_lt t1
 have e2 : k % 2 ^ IntKind.i64.bits = k := by show k % 2 ^ 64 = k; exact Nat.mod_eq_of_lt t1
 simp only [Ru, execOp, hx, hy]
 simp [eqGuard, binOp, Op.intBits]
 rw [e1, e2, IntKind.wrap_i64]
 omega
def Ng (A : Option Addr) (g : Nat) : Prop := ∀ a, A = some a -> a.block ≠ g
section
variable {e : TypeId} {A : Option Addr} {w' : World}
theorem pM {B sz m m' c : Nat} {xs : List Value} (h : own w B e sz (.slice A m c) m' xs) : Rd w A xs := by
 obtain ⟨A', c', he, _, _, hA, _, _⟩ := nH h
 cases he; exact hA
def Dj (u v : Value) : Prop := ∀ k, u.ownBlock = some k -> v.ownBlock ≠ some k
theorem Dj.symm {u v : Value} (h : Dj u v) : Dj v u := λ k h1 h2 => h k h2 h1
theorem aGj {l vs : List Value} {k n : Nat} (h : k + vs.length <= n) : (spl l k vs).take n = spl (l.take n) k vs := by
 unfold spl
 rw [lU, dX t1, bO, bO]
 by_cases hk : k <= l.length
 ·have e1 : (l.take k).length = k := by simp; omega
  rw [List.take_append, e1, lU, Nat.min_eq_right t1]
  congr 1
  rw [List.take_append, aE t1, List.drop_take, show n - k - vs.length = n - (k + vs.length) by omega]
 rw [dK t1, dK t13, cS]
 rw [aE]
 simp; omega
theorem O.storeRow {P : Program} {ops rest : List Oper} {σ : Sig} {Q : Post} {T T' : TypeId} {x y : Operand} {pos : String} {after : Array Edge} {g : Option (Nat × Bool)} {zs : List Value} {bytes : Nat} {agg : Bool} {B m c k sz : Nat} {v : Value} {vs xs : List Value} (hg : gok ops σ g = true) (he : ElT P T zs bytes agg) (hx : ev σ x = .pointer (ofs A k)) (hy : ev σ y = v) (hv : v.cells = vs.toArray) (hvl : vs.length = zs.length) (h1 : (vs.all one) = true)
  (ho : own w B e sz (.slice A m c) m xs) (hk : k + vs.length <= xs.length) (h0 : 0 < vs.length)
  (h : ∀ w', w.grownBy w' (Value.slice A m c).ownBlock -> w'.heap.size = w.heap.size -> own w' B e sz (.slice A m c) m (spl xs k vs) -> O P n ops rest Q σ w') : O P n ops (⟨none, .store T x y, T', pos, after, g⟩ :: rest) Q σ w := by
 obtain ⟨hl, ⟨h1', h2⟩ | ⟨b, c', cur, h1', hB, hh, hn, hc, hs, ht⟩⟩ := ho
 ·have h3 : xs.length = 0 := by rw [hl, h2, Nat.zero_mul]
  omega
 cases h1'
 have hcl : xs.length <= cur.size := by rw [<- ht]; simp; omega
 have hb : Blk w b e cur.toList := by unfold Blk; simpa using hh
 refine O.store (vs := vs) hg he hx hy hv hvl h1 hb t13 ?_
 intro w' hE hsz hb'
 refine h w' (by simpa [Value.ownBlock] using hE) hsz ⟨(kC hk).trans hl, .inr ⟨b, c, (spl cur.toList k vs).toArray, rfl, hB, hb', hn, hc, ?_, ?_⟩⟩
 ·have e2 : (spl cur.toList k vs).length = cur.toList.length := kC t13
  rw [List.size_toArray, e2]; simpa using hs
 have e1 := aGj (l := cur.toList) (vs := vs) (k := k) (n := m * sz) t1
 rw [List.toList_toArray, e1, ht]
theorem fK {α : Type} {f : α -> Value} {l : List α} {k c : Nat} (h : Rd w A (l.map f)) (hk : k <= l.length) (hc : l.length <= c) : Rd w (if c = k then A else ofs A (k * 1)) ((l.drop k).map f) := by
 split
 ·rw [dK t1]; exact Rd.nil
 rw [List.map_drop]
 rcases fB k l.length with h1 | h1
 ·rw [Nat.mul_one]; exact h.drop k (by simpa using h1)
 rw [dK (by simpa using h1)]; exact Rd.nil
theorem fE {α : Type} {f : α -> Value} {l : List α} {k : Nat} (h : Rd w A (l.map f)) : Rd w A ((l.take k).map f) := by
 rw [List.map_take]; exact h.take k
theorem qV {α : Type} {f : α -> List Value} {n : Nat} (hn : ∀ a, (f a).length = n) : ∀ (l : List α) (k : Nat), (l.drop k).flatMap f = (l.flatMap f).drop (k * n)
 | l, 0 => by simp
 | [], k + 1 => by simp
 | a :: l, k + 1 => by
  rw [List.drop_succ_cons, qV hn l k, aK, bM, Nat.one_mul, Nat.add_comm, <- List.drop_drop, <- hn a, List.drop_left]
theorem kX {α : Type} {f : α -> List Value} {n : Nat} (hn : ∀ a, (f a).length = n) : ∀ (l : List α), (l.flatMap f).length = l.length * n
 | [] => by simp
 | a :: l => by rw [aK, aA, hn, kX hn l, aG, bM]; omega
theorem oQ {α : Type} {f : α -> List Value} {n : Nat} (hn : ∀ a, (f a).length = n) : ∀ (l : List α) (k : Nat), (l.take k).flatMap f = (l.flatMap f).take (k * n)
 | l, 0 => by simp
 | [], k + 1 => by simp
 | a :: l, k + 1 => by
  have e1 : (k + 1) * n - n = k * n := by rw [bM]; omega
  have e2 : (f a).take ((k + 1) * n) = f a := aE (by rw [hn, bM]; omega)
  rw [List.take_succ_cons, aK, aK, oQ hn l k, List.take_append, hn, e1, e2]
theorem kY {α : Type} {f : α -> List Value} {n : Nat} (hn : ∀ a, (f a).length = n) {l : List α} {k c : Nat} (h : Rd w A (l.flatMap f)) (hk : k <= l.length) (hc : l.length <= c) : Rd w (if c = k then A else ofs A (k * n)) ((l.drop k).flatMap f) := by
 split
 ·rw [dK t1]; exact Rd.nil
 rw [qV hn]
 rcases fB (k * n) (l.length * n) with h1 | h1
 ·exact h.drop (k * n) (by rw [kX hn]; exact h1)
 rw [dK (by rw [kX hn]; exact h1)]; exact Rd.nil
theorem nK {α : Type} {f : α -> List Value} {n : Nat} (hn : ∀ a, (f a).length = n) {l : List α} {k : Nat} (h : Rd w A (l.flatMap f)) : Rd w A ((l.take k).flatMap f) := by
 rw [oQ hn]; exact h.take _
end
end Go.Px
end
section
namespace Go.Px
open Go.RowKit
def boV (b : Bool) : Value := .bool b
theorem sl_congr {A : Option Addr} {n n' c : Nat} (h : n = n') : Value.slice A n c = .slice A n' c := by rw [h]
theorem qO {α : Type} {l : List α} {k : Nat} (h : l.length <= k) : l.take k = l := aE h
structure FE where
 v : Value
 e : TypeId
 sz : Nat
 m : Nat
 xs : List Value
def FE.own (w : World) (x : FE) : Prop := Px.own w 0 x.e x.sz x.v x.m x.xs
def FE.blk (x : FE) : Option Nat := x.v.ownBlock
def rU (x y : FE) : Prop := Dj x.v y.v
theorem rU.symm {x y : FE} (h : rU x y) : rU y x := Dj.symm h
structure iS (w0 w : World) (R : List (Option Nat)) (L : List FE) : Prop where
 os : w.os = w0.os
 tape : w.tape = w0.tape
 output : w.output = w0.output
 size : w0.heap.size <= w.heap.size
 block : ∀ k, k < w0.heap.size -> some k ∉ R -> w.heap[k]? = w0.heap[k]?
 own : ∀ x ∈ L, x.own w
 apart : L.Pairwise rU
 born : ∀ x ∈ L, ∀ k, x.blk = some k -> w0.heap.size <= k \/ some k ∈ R
abbrev Mem (w0 w : World) (R : List (Option Nat)) (M : List (List FE)) : Prop := iS w0 w R M.flatten
section
variable {w0 w w' w1 : World} {R : List (Option Nat)} {L L' : List FE} {M M' : List (List FE)}
theorem FE.own.lt {x : FE} (h : x.own w) {k : Nat} (hk : x.blk = some k) : k < w.heap.size := (World.ownsRow.lt h k hk).2
theorem iS.refl : iS w w R [] := ⟨rfl, rfl, rfl, dD _, λ _ _ _ => rfl, t11, .nil, t11⟩
theorem Mem.refl : Mem w w R [] := iS.refl
theorem FE.own.kp {x : FE} {r : Option Nat} (h : x.own w) (hk : w.grownBy w' r) (hr : x.blk = none \/ x.blk ≠ r) : x.own w' := World.ownsRow.kept h hk hr
theorem FE.own.ext {x : FE} (h : x.own w) (hk : w.grownBy w' none) : x.own w' := by
 refine h.kp hk ?_
 cases x.blk <;> simp
theorem iS.ext (h : iS w0 w R L) (hk : w.grownBy w' none) : iS w0 w' R L :=
 ⟨hk.os.trans h.os, hk.tape.trans h.tape, hk.output.trans h.output, cR h.size hk.size, λ k h1 h2 => (hk.block k (fS h1 h.size) t11).trans (h.block k h1 h2), λ x hx => (h.own x hx).ext hk, h.apart, h.born⟩
theorem Mem.grown (h : iS w0 w [] L) : w0.grownBy w none := ⟨h.os, h.tape, h.output, h.size, λ k hk _ => h.block k hk t11⟩
theorem Rd.at {A : Option Addr} {l : List Value} (h : Rd w0 A l) (hM : iS w0 w [] L) : Rd w A l := h.ext (Mem.grown hM)
def Off (A : Option Addr) (l : List Value) (R : List (Option Nat)) : Prop := l = [] \/ ∀ a, A = some a -> some a.block ∉ R
theorem Rd.atR {A : Option Addr} {l : List Value} (h : Rd w0 A l) (hM : iS w0 w R L) (hn : Off A l R) : Rd w A l := by
 rcases hn with rfl | hn
 ·exact Rd.nil
 rcases h with h | ⟨b, o, hA, hb, hc⟩
 ·exact .inl h
 exact .inr ⟨b, o, hA, fS hb hM.size, λ j u hu => (World.cell?_of_block (hM.block b hb (by have := hn _ hA; simpa using this))).trans (hc j u hu)⟩
theorem Off.nil {A : Option Addr} {l : List Value} : Off A l [] := .inr (λ _ _ => by simp)
def pick (M : List (List FE)) : List Nat -> List (List FE)
 | [] => []
 | i :: r => (M[i]?).getD [] :: pick M r
def Grp (x y : List FE) : Prop := ∀ a ∈ x, ∀ b ∈ y, rU a b
theorem grp_get : ∀ {M : List (List FE)} (h : M.Pairwise Grp) {i j : Nat} {x y : List FE}, M[i]? = some x -> M[j]? = some y -> i ≠ j -> Grp x y
 | [], _, i, j, x, y, h1, _, _ => by simp at h1
 | g :: M, h, 0, 0, x, y, _, _, hne => absurd rfl hne
 | g :: M, h, 0, j + 1, x, y, h1, h2, _ => by
  simp at h1 h2; subst h1
  obtain ⟨hj, rfl⟩ := cC.1 h2
  exact (fR.1 h).1 _ (aC hj)
 | g :: M, h, i + 1, 0, x, y, h1, h2, _ => by
  simp at h1 h2; subst h2
  obtain ⟨hj, rfl⟩ := cC.1 h1
  exact λ a ha b hb => ((fR.1 h).1 _ (aC hj) b hb a ha).symm
 | g :: M, h, i + 1, j + 1, x, y, h1, h2, hne => grp_get (fR.1 h).2 (by simpa using h1) (by simpa using h2) t1
theorem uC : ∀ (idx : List Nat) (g : List FE), g ∈ pick M idx -> g = [] \/ ∃ i ∈ idx, M[i]? = some g
 | [], g, h => by simp [pick] at h
 | i :: r, g, h => by
  simp only [pick, bV] at h
  rcases h with h | h
  ·cases hM : M[i]? with
   | none => left; simpa [hM] using h
   | some y => right; exact ⟨i, t11, by rw [hM, h, hM]; rfl⟩
  rcases uC r g h with h | ⟨j, hj, h⟩
  ·exact .inl h
  exact .inr ⟨j, by simp [hj], h⟩
theorem aAw (h : M.Pairwise Grp) : ∀ (idx : List Nat), idx.Nodup -> (pick M idx).Pairwise Grp
 | [], _ => .nil
 | i :: r, hn => by
  simp only [cK] at hn
  refine fR.2 ⟨λ g hg => ?_, aAw h r hn.2⟩
  rcases uC r g hg with rfl | ⟨j, hj, hM⟩
  ·intro a _ b hb; simp at hb
  cases hi : M[i]? with
  | none => intro a ha; simp at ha
  | some x => exact grp_get h hi hM (λ e => hn.1 (e ▸ hj))
theorem Mem.pick (h : Mem w0 w R M) (idx : List Nat) (hn : idx.Nodup) (hM : Px.pick M idx = M') : Mem w0 w R M' := by
 subst hM
 have hp := jB.1 h.apart
 have hsub : ∀ x ∈ (Px.pick M idx).flatten, x ∈ M.flatten := by
  intro x hx
  obtain ⟨g, hg, hx⟩ := dM.1 hx
  rcases uC idx g hg with rfl | ⟨i, _, hi⟩
  ·simp at hx
  exact dM.2 ⟨g, cE hi, hx⟩
 refine ⟨h.os, h.tape, h.output, h.size, h.block, λ x hx => h.own x (hsub x hx), jB.2 ⟨λ g hg => ?_, aAw hp.2 idx hn⟩, λ x hx => h.born x (hsub x hx)⟩
 rcases uC idx g hg with rfl | ⟨i, _, hi⟩
 ·exact .nil
 exact hp.1 g (cE hi)
theorem Mem.none (h : iS w0 w R L) : Mem w0 w R [] := ⟨h.os, h.tape, h.output, h.size, h.block, t11, .nil, t11⟩
theorem Mem.cast (h : Mem w0 w R M) (e : M = M') : Mem w0 w R M' := e ▸ h
theorem Mem.relen (h : Mem w0 w R M) (i : Nat) {A : Option Addr} {n n' c sz : Nat} {e : TypeId} {xs xs' : List Value} (hi : M[i]? = some [⟨.slice A n c, e, sz, n, xs⟩]) (hn : n = n') (hx : xs = xs') (hM' : M.set i [⟨.slice A n' c, e, sz, n', xs'⟩] = M') : Mem w0 w R M' := by
 subst hn hx hM'
 obtain ⟨hlt, he⟩ := cC.1 hi
 rw [<- he, jD]
 exact h
theorem Mem.get (h : Mem w0 w R M) {i j : Nat} {g : List FE} {x : FE} (hi : M[i]? = some g) (hj : g[j]? = some x) : x.own w := h.own x (dM.2 ⟨g, cE hi, cE hj⟩)
theorem Mem.rd (h : Mem w0 w R M) (i : Nat) {A : Option Addr} {n c m sz : Nat} {e : TypeId} {xs : List Value} {g : List FE} (hi : M[i]? = some (⟨.slice A n c, e, sz, m, xs⟩ :: g)) : Rd w A xs := pM (h.get (j := 0) hi rfl)
theorem Mem.cap (h : Mem w0 w R M) (i : Nat) {A : Option Addr} {n c sz : Nat} {e : TypeId} {xs : List Value} {g : List FE} (hi : M[i]? = some (⟨.slice A n c, e, sz, n, xs⟩ :: g)) : n <= c /\ xs.length = n * sz := by
 obtain ⟨A', c', he, h1, _, _, _, h2⟩ := nH (h.get (j := 0) hi rfl)
 cases he
 exact ⟨h1, h2⟩
theorem Mem.ng (h : Mem w0 w R M) (i j : Nat) (hij : i ≠ j) {A : Option Addr} {n c m sz gr n' c' m' sz' : Nat} {e e' : TypeId} {xs xs' : List Value} {g g' : List FE} (hi : M[i]? = some (⟨.slice A n c, e, sz, m, xs⟩ :: g)) (hj : M[j]? = some (⟨.slice (bl gr) n' c', e', sz', m', xs'⟩ :: g')) : Ng A gr := by
 intro a ha hb
 have hg := grp_get (jB.1 h.apart).2 hi hj hij _ (dG) _ (dG)
 subst ha
 exact hg a.block rfl (by rw [hb]; rfl)
theorem Mem.ng_old {A : Option Addr} {l : List Value} (h : Mem w0 w [] M) (hA : Rd w0 A l) (i : Nat) {gr n c m sz : Nat} {e : TypeId} {xs : List Value} {g : List FE} (hi : M[i]? = some (⟨.slice (bl gr) n c, e, sz, m, xs⟩ :: g)) : Off A l [some gr] := by
 rcases hA with h0 | ⟨b, o, rfl, hb, _⟩
 ·exact .inl h0
 refine .inr (λ a ha => ?_)
 cases ha
 have := h.born _ (dM.2 ⟨_, cE hi, dG⟩) gr rfl
 simp at this ⊢
 omega
theorem Off.of_ng {A : Option Addr} {l : List Value} {gr : Nat} (h : Ng A gr) : Off A l [some gr] := .inr λ a ha => by simpa using h a ha
theorem aEm : ∀ {M : List (List FE)} {i j : Nat} {g : List FE} {x : FE}, M[i]? = some g -> g[j]? = some x -> ∃ L1 L2, M.flatten = L1 ++ x :: L2 /\ ∀ x', (M.set i (g.set j x')).flatten = L1 ++ x' :: L2
 | [], i, j, g, x, h, _ => by simp at h
 | g0 :: M, 0, j, g, x, h, hj => by
  simp at h; subst h
  obtain ⟨hlt, rfl⟩ := cC.1 hj
  refine ⟨g0.take j, g0.drop (j + 1) ++ M.flatten, ?_, λ x' => ?_⟩
  ·rw [cZ]
   have h1 : g0 = g0.take j ++ g0[j] :: g0.drop (j + 1) := by rw [<- cB hlt, bT]
   conv => lhs; rw [h1]
   simp only [bO, List.cons_append]
  rw [List.set_cons_zero, cZ, bY, if_pos hlt]
  simp
 | g0 :: M, i + 1, j, g, x, h, hj => by
  obtain ⟨L1, L2, h1, h2⟩ := aEm (M := M) (i := i) (by simpa using h) hj
  exact ⟨g0 ++ L1, L2, by rw [cZ, h1, bO], λ x' => by rw [List.set_cons_succ, cZ, h2, bO]⟩
theorem iS.upd {L1 L2 : List FE} {x x' : FE} (h : iS w0 w R (L1 ++ x :: L2)) (hk : w.grownBy w' x.blk) (ho : x'.own w') (hb : x'.blk = x.blk \/ x'.blk = some w.heap.size \/ x'.blk = Option.none) : iS w0 w' R (L1 ++ x' :: L2) := by
 have hp := cO.1 h.apart
 have hc := fR.1 hp.2.1
 have hm1 : ∀ y ∈ L1, y ∈ L1 ++ x :: L2 := λ y hy => by simp [hy]
 have hm2 : ∀ y ∈ L2, y ∈ L1 ++ x :: L2 := λ y hy => by simp [hy]
 have hx : x ∈ L1 ++ x :: L2 := by simp
 have hn : ∀ y, y.own w -> rU x y -> y.blk = Option.none \/ y.blk ≠ x.blk := λ y _ ha => by
  cases hy : y.blk with
  | none => exact .inl rfl
  | some k => exact .inr λ he => ha k he.symm hy
 have hap : ∀ y, y.own w -> rU x y -> rU x' y := λ y hy ha k h1 h2 => by
  rcases hb with hb | hb | hb
  ·exact ha k (hb.symm.trans h1) h2
  ·have hk1 : some w.heap.size = some k := hb.symm.trans h1
   have := FE.own.lt hy h2
   simp at hk1; omega
  have : Option.none = some k := hb.symm.trans h1
  cases this
 refine ⟨hk.os.trans h.os, hk.tape.trans h.tape, hk.output.trans h.output, cR h.size hk.size, λ k h1 h2 => ?_, ?_, ?_, ?_⟩
 ·refine (hk.block k (fS h1 h.size) (λ he => ?_)).trans (h.block k h1 h2)
  rcases h.born x hx k he.symm with h3 | h3
  ·omega
  exact h2 h3
 ·intro y hy
  simp only [bE, bV] at hy
  rcases hy with hy | rfl | hy
  ·exact (h.own y (hm1 y hy)).kp hk (hn y (h.own y (hm1 y hy)) (hp.2.2 y hy x t11).symm)
  ·exact ho
  exact (h.own y (hm2 y hy)).kp hk (hn y (h.own y (hm2 y hy)) (hc.1 y hy))
 ·refine cO.2 ⟨hp.1, fR.2 ⟨λ y hy => hap y (h.own y (hm2 y hy)) (hc.1 y hy), hc.2⟩, λ y hy z hz => ?_⟩
  simp only [bV] at hz
  rcases hz with rfl | hz
  ·exact (hap y (h.own y (hm1 y hy)) (hp.2.2 y hy x t11).symm).symm
  exact hp.2.2 y hy z (by simp [hz])
 intro y hy k hk'
 simp only [bE, bV] at hy
 rcases hy with hy | rfl | hy
 ·exact h.born y (hm1 y hy) k hk'
 ·rcases hb with hb | hb | hb
  ·exact h.born x hx k (hb.symm.trans hk')
  ·have hk1 : some w.heap.size = some k := hb.symm.trans hk'
   simp at hk1
   left; have := h.size; omega
  have : Option.none = some k := hb.symm.trans hk'
  cases this
 exact h.born y (hm2 y hy) k hk'
theorem Mem.upd {i j : Nat} {g : List FE} {x x' : FE} (h : Mem w0 w R M) (hi : M[i]? = some g) (hj : g[j]? = some x) (hk : w.grownBy w' x.blk) (ho : x'.own w') (hb : x'.blk = x.blk \/ x'.blk = some w.heap.size \/ x'.blk = Option.none) : Mem w0 w' R (M.set i (g.set j x')) := by
 obtain ⟨L1, L2, h1, h2⟩ := aEm hi hj
 show iS _ _ _ _
 rw [h2]
 have h' : iS w0 w R M.flatten := h
 rw [h1] at h'
 exact h'.upd hk ho hb
theorem Mem.cons {x : FE} (h : Mem w0 w R M) (hk : w.grownBy w' Option.none) (ho : x.own w') (hb : ∀ k, x.blk = some k -> w.heap.size <= k) : Mem w0 w' R ([x] :: M) := by
 have h' := iS.ext h hk
 refine ⟨h'.os, h'.tape, h'.output, h'.size, h'.block, ?_, ?_, ?_⟩
 ·intro y hy
  simp only [cZ, List.singleton_append, bV] at hy
  rcases hy with rfl | hy
  ·exact ho
  exact h'.own y hy
 ·rw [cZ, List.singleton_append]
  refine fR.2 ⟨λ y hy k h1 h2 => ?_, h.apart⟩
  have := hb k h1
  have := FE.own.lt (h.own y hy) h2
  omega
 intro y hy
 simp only [cZ, List.singleton_append, bV] at hy
 rcases hy with rfl | hy
 ·intro k hk'
  have := hb k hk'
  have := h.size
  left; omega
 exact h'.born y hy
theorem Mem.addNil {e : TypeId} {sz : Nat} (h : Mem w0 w R M) : Mem w0 w R ([⟨.slice Option.none 0 0, e, sz, 0, []⟩] :: M) :=
 Mem.cons h (aJh w _) (World.ownsRow_nil w 0 e sz) (λ k hk => by simp [FE.blk, Value.ownBlock] at hk)
abbrev rS (M : List (List FE)) : List (Option Nat) := M.flatten.map FE.blk
theorem Mem.focus {Ma rest : List (List FE)} {R' : List (Option Nat)} (h : Mem w0 w R (Ma ++ rest)) (hR : rS Ma = R') : Mem w w R' Ma := by
 subst hR
 have h' : iS w0 w R (Ma.flatten ++ rest.flatten) := by rw [<- List.flatten_append]; exact h
 exact ⟨rfl, rfl, rfl, dD _, λ _ _ _ => rfl, λ x hx => h'.own x (by simp only [bE]; exact .inl hx), (cO.1 h'.apart).1, λ x hx k hk => .inr (hk ▸ List.mem_map_of_mem hx)⟩
theorem Mem.call {Ma rest M1 : List (List FE)} {R' : List (Option Nat)} (h : Mem w0 w R (Ma ++ rest)) (h1 : Mem w w1 R' M1) (hR : rS Ma = R') : Mem w0 w1 R (M1 ++ rest) := by
 subst hR
 have h' : iS w0 w R (Ma.flatten ++ rest.flatten) := by rw [<- List.flatten_append]; exact h
 have hp := cO.1 h'.apart
 have hno : ∀ y ∈ rest.flatten, ∀ k, y.blk = some k -> some k ∉ rS Ma := λ y hy k hk hm => by
  obtain ⟨x, hx, he⟩ := bU.1 hm
  exact hp.2.2 x hx y hy k he hk
 have hlt : ∀ y ∈ rest.flatten, ∀ k, y.blk = some k -> k < w.heap.size := λ y hy k hk => FE.own.lt (h'.own y (by simp only [bE]; exact .inr hy)) hk
 show iS _ _ _ _
 rw [List.flatten_append]
 refine ⟨h1.os.trans h'.os, h1.tape.trans h'.tape, h1.output.trans h'.output, cR h'.size h1.size, λ k hk hr => ?_, ?_, ?_, ?_⟩
 ·refine (h1.block k (fS hk h'.size) (λ hm => ?_)).trans (h'.block k hk hr)
  obtain ⟨x, hx, he⟩ := bU.1 hm
  rcases h'.born x (by simp only [bE]; exact .inl hx) k he with h3 | h3
  ·omega
  exact hr h3
 ·intro y hy
  simp only [bE] at hy
  rcases hy with hy | hy
  ·exact h1.own y hy
  have hyo := h'.own y (by simp only [bE]; exact .inr hy)
  refine ⟨hyo.1, ?_⟩
  rcases hyo.2 with hn | ⟨g, cap, cur, hv, hb, hg, rest'⟩
  ·exact .inl hn
  have hk : y.blk = some g := by unfold FE.blk; rw [hv]; rfl
  exact .inr ⟨g, cap, cur, hv, hb, (h1.block g (hlt y hy g hk) (hno y hy g hk)).trans hg, rest'⟩
 ·refine cO.2 ⟨h1.apart, hp.2.1, λ x hx y hy k h2 h3 => ?_⟩
  rcases h1.born x hx k h2 with h4 | h4
  ·have := hlt y hy k h3; omega
  exact hno y hy k h3 h4
 intro y hy k hk
 simp only [bE] at hy
 rcases hy with hy | hy
 ·rcases h1.born y hy k hk with h4 | h4
  ·left; have := h'.size; omega
  obtain ⟨x, hx, he⟩ := bU.1 h4
  exact h'.born x (by simp only [bE]; exact .inl hx) k he
 exact h'.born y (by simp only [bE]; exact .inr hy) k hk
theorem Mem.call0 {M1 : List (List FE)} (h : Mem w0 w R M) (h1 : Mem w w1 [] M1) : Mem w0 w1 R (M1 ++ M) := Mem.call (Ma := []) h h1 rfl
end
section
variable {P : Program} {σ : Sig} {w0 w : World} {T U T' e : TypeId} {pos : String} {after : Array Edge} {g : Option (Nat × Bool)} {x y : Operand}
variable {zs : List Value} {bytes : Nat} {agg : Bool} {n : Nat} {Q : Post} {ops rest : List Oper} {R : List (Option Nat)} {M : List (List FE)}
theorem blk_own' {b m sz : Nat} {t : TypeId} {l : List Value} (h : Blk w b t l) (hl : l.length = m * sz) (hm : m <= maxLen) : FE.own w ⟨.slice (bl b) m m, t, sz, m, l⟩ :=
 own_new h (bI _) hl hm
theorem cA {i j k sz m : Nat} {gs : List FE} {t : TypeId} {l : List Value} (h : Mem w0 w R M) (hi : M[i]? = some gs) (hj : gs[j]? = some ⟨.slice (bl k) m m, t, sz, m, l⟩) : Blk w k t l := by
 obtain ⟨hl, ⟨h1, _⟩ | ⟨b, c', cur, h1, hB, hh, hn, hc, hs, ht⟩⟩ := h.get hi hj
 ·cases h1
 cases h1
 simp only at hl hh hs ht
 unfold Blk
 rw [hh, <- ht]
 simp only [aE (show cur.toList.length <= m * sz by simp; omega)]
theorem O.mbox {d k : Nat} {vs : List Value} {v : Value} (hM : Mem w0 w R M) (hg : gok ops σ g = true) (hx : ev σ x = v) (hv : v.cells = vs.toArray) (hk : vs.length = k) (hd : Nat.blt d n = true)
  (h : ∀ w' b, w0.heap.size <= b -> Mem w0 w' R ([⟨.slice (bl b) 1 1, T, k, 1, vs⟩] :: M) -> O P n ops rest Q (upd σ d (.pointer (ofs (bl b) 0))) w') : O P n ops (⟨some d, .box T x, T', pos, after, g⟩ :: rest) Q σ w :=
 O.box hg hx hv hd λ w' b hb hE hB => h w' b (by have := hM.size; omega) (Mem.cons hM hE (blk_own' (m := 1) (sz := k) hB t1 t19) (λ k hk => by simp [FE.blk, Value.ownBlock] at hk; omega))
theorem O.malloc {d k : Nat} (hM : Mem w0 w R M) (hg : gok ops σ g = true) (hd : Nat.blt d n = true) (he : ElT P T zs bytes agg) (hk : zs.length = k)
  (h : ∀ w' b, w0.heap.size <= b -> Mem w0 w' R ([⟨.slice (bl b) 1 1, T, k, 1, zs⟩] :: M) -> O P n ops rest Q (upd σ d (.pointer (ofs (bl b) 0))) w') : O P n ops (⟨some d, .alloc T, T', pos, after, g⟩ :: rest) Q σ w :=
 O.alloc hg hd he λ w' b hb hE hB => h w' b (by have := hM.size; omega) (Mem.cons hM hE (blk_own' (m := 1) (sz := k) hB t1 t19) (λ k hk => by simp [FE.blk, Value.ownBlock] at hk; omega))
theorem O.mmake {d k sz : Nat} {xs : List Value} (hM : Mem w0 w R M) (hg : gok ops σ g = true) (hT : P.underlying T = some (.slice e)) (he : ElT P e zs bytes agg) (hsz : zs.length = sz) (hx : ev σ x = I k) (hy : ev σ y = I k) (hd : Nat.blt d n = true) (hk : bytes * k <= 281474976710656) (hm : k <= 1152921504606846976) (hq : zer zs k = xs)
  (h : ∀ w' b, w0.heap.size <= b -> Mem w0 w' R ([⟨.slice (bl b) k k, e, sz, k, xs⟩] :: M) -> O P n ops rest Q (upd σ d (.slice (bl b) k k)) w') : O P n ops (⟨some d, .makeSlice T x y, T', pos, after, g⟩ :: rest) Q σ w :=
 O.make hg hT he hx hy hd hk t1 λ w' b hb hE hB => h w' b (by have := hM.size; omega) (Mem.cons hM hE (blk_own' (m := k) (sz := sz) (hB.cast hq) (by rw [<- hq, kE, hsz]) (by simp only [maxLen]; omega)) (λ k hk => by simp [FE.blk, Value.ownBlock] at hk; omega))
theorem O.mlit {d len sz : Nat} {parts : List (Nat × Operand)} {ps : List (Nat × Value)} {cs : List Value} (hM : Mem w0 w R M) (hg : gok ops σ g = true) (hT : P.underlying T = some (.slice e)) (he : ElT P e zs bytes agg) (hsz : zs.length = sz) (hp : evp σ parts = ps) (hd : Nat.blt d n = true) (hsm : Nat.ble (len * zs.length) 16777216 = true)
  (hc : aEh zs len ps = some cs.toArray) (hl : cs.length = len * sz) (hl2 : Nat.ble len 16777216 = true)
  (h : ∀ w' b, w0.heap.size <= b -> Mem w0 w' R ([⟨.slice (bl b) len len, e, sz, len, cs⟩] :: M) -> O P n ops rest Q (upd σ d (.slice (bl b) len len)) w') : O P n ops (⟨some d, .buildSlice T len parts.toArray, T', pos, after, g⟩ :: rest) Q σ w :=
 O.lit hg hT he hp hd hsm hc λ w' b hb hE hB => h w' b (by have := hM.size; omega) (Mem.cons hM hE (blk_own' (m := len) (sz := sz) hB hl (by have := Nat.le_of_ble_eq_true hl2; simp only [maxLen]; omega)) (λ k hk => by simp [FE.blk, Value.ownBlock] at hk; omega))
theorem O.mstore {A : Option Addr} {m c k sz : Nat} {t : TypeId} {v : Value} {vs xs xs' : List Value} {gs : List FE} {M' : List (List FE)} (i j : Nat) (hM : Mem w0 w R M) (hi : M[i]? = some gs) (hj : gs[j]? = some ⟨.slice A m c, t, sz, m, xs⟩) (hg : gok ops σ g = true) (he : ElT P T zs bytes agg) (hx : ev σ x = .pointer (ofs A k)) (hy : ev σ y = v) (hv : v.cells = vs.toArray) (hvl : vs.length = zs.length) (h1 : (vs.all one) = true)
  (hk : k + vs.length <= xs.length) (h0 : 0 < vs.length) (hq : spl xs k vs = xs') (hM' : M.set i (gs.set j ⟨.slice A m c, t, sz, m, xs'⟩) = M')
  (h : ∀ w', Mem w0 w' R M' -> O P n ops rest Q σ w') : O P n ops (⟨none, .store T x y, T', pos, after, g⟩ :: rest) Q σ w := by
 subst hq hM'
 exact O.storeRow hg he hx hy hv hvl h1 (hM.get hi hj) hk h0 λ w' hE _ ho => h w' (Mem.upd hM hi hj hE ho (.inl rfl))
theorem O.mappend {d : Nat} {t : TypeId} {A A2 : Option Addr} {m k c c2 sz : Nat} {xs news : List Value} {gs : List FE} {m1 : Nat} {xs1 : List Value} {M' : Option Addr -> Nat -> List (List FE)} (i j : Nat) (hM : Mem w0 w R M) (hi : M[i]? = some gs) (hj : gs[j]? = some ⟨.slice A m c, e, sz, m, xs⟩) (hg : gok ops σ g = true) (ht : P.underlying t = some (.slice e)) (he : ElT P e zs bytes agg) (hz : zs.length = sz /\ 0 < sz) (hx : ev σ x = .slice A m c) (hy : ev σ y = .slice A2 k c2) (hd : Nat.blt d n = true)
  (hr : Rd w A2 news) (hl : news.length = k * sz) (h1 : (news.all one) = true) (hn : m + k <= 1152921504606846976) (hby : (m + k) * bytes <= 140737488355328) (hm1 : m + k = m1) (hxs : xs ++ news = xs1) (hM' : ∀ A' c', M.set i (gs.set j ⟨.slice A' m1 c', e, sz, m1, xs1⟩) = M' A' c')
  (h : ∀ w' A' c', m1 <= c' -> Mem w0 w' R (M' A' c') -> O P n ops rest Q (upd σ d (.slice A' m1 c')) w') :
  O P n ops (⟨some d, .call ⟨.builtin .append, #[x, y], #[t, t]⟩, T', pos, after, g⟩ :: rest) Q σ w := by
 obtain ⟨rfl, hz⟩ := hz
 subst hm1 hxs
 refine O.append (B := 0) hg ht he hz hx hy hd (hM.get hi hj) hr hl h1 (cR hn t19) hby (bI _) λ w' v' ho hE hb => ?_
 obtain ⟨A', c', rfl, hc, _, _, _, _⟩ := nH ho
 exact h w' A' c' hc (hM' A' c' ▸ Mem.upd hM hi hj hE ho (hb.elim .inl (λ h => .inr (.inl h))))
end
theorem aKl {α : Type} {f : α -> Value} {a : α} {n : Nat} {z : Value} (h : f a = z) : zer [z] n = (List.replicate n a).map f := by rw [zer_one, List.map_replicate, h]
theorem uN {α : Type} {f : α -> List Value} {a : α} {n : Nat} {zs : List Value} (h : f a = zs) : zer zs n = (List.replicate n a).flatMap f := by
 rw [aIp, <- h]
 induction n with
 | zero => rfl
 | succ n ih => rw [kF, cZ, ih, kF, aK]
theorem wX {α : Type} {f : α -> Value} {l : List α} {k : Nat} {a : α} (hk : k < l.length) : spl (l.map f) (k * 1) [f a] = (l.set k a).map f := by
 rw [Nat.mul_one, spl_one (by simpa using hk), List.map_set]
theorem aPd {α : Type} {f : α -> List Value} {n : Nat} (hn : ∀ a, (f a).length = n) {l : List α} {k : Nat} {a : α} (hk : k < l.length) : spl (l.flatMap f) (k * n) (f a) = (l.set k a).flatMap f := by
 have h1 : (l.set k a) = l.take k ++ a :: l.drop (k + 1) := by rw [bY, if_pos hk]
 rw [h1, bD, aK, oQ hn, qV hn]
 unfold spl
 rw [hn, Nat.succ_mul, bO]
end Go.Px
end
section
namespace Go.Px
open Go.RowKit
section
variable {P : Program} {σ : Sig} {w : World} {dst : Option Tmp} {T U T' e : TypeId} {pos : String} {after : Array Edge} {g : Option (Nat × Bool)} {x y z : Operand}
variable {zs : List Value} {bytes : Nat} {agg : Bool} {n : Nat} {Q : Post} {ops rest : List Oper} {w0 : World} {R : List (Option Nat)} {M : List (List FE)}
theorem Ru.bcap {A : Option Addr} {m c : Nat} {t : TypeId} (ht : P.underlying t = some (.slice e)) (hx : ev σ x = .slice A m c) : Ru P σ ⟨dst, .call ⟨.builtin .cap, #[x], #[t]⟩, T, pos, after, g⟩ w (I c) := by
 simp [Ru, execOp, resolve, invoke, builtin, hx, Builtin.cap_, run_underlying ht, goInt]
theorem Ru.slnil {A : Option Addr} {m c : Nat} (ht : P.underlying T = some (.slice e)) (hx : ev σ x = .slice A m c) (hy : ev σ y = .slice none 0 0) : Ru P σ ⟨dst, .binOp .eql T x y U, T', pos, after, g⟩ w (.bool A.isNone) := by
 have h : ∀ d : Nat, (Op.equalIn (d + 1) T (.slice A m c) (.slice none 0 0)).run P w = .ok A.isNone w := λ d => by
  cases A <;> simp [Op.equalIn, run_underlying ht]
 simp [Ru, execOp, hx, hy, eqGuard, binOp, Op.equal, Op.maxDepth, h 9999]
theorem Ru.mkfun {f : FuncId} {caps : List Operand} {vs : List Value} (hv : evs σ caps = vs) : Ru P σ ⟨dst, .makeFunc (.func f) #[] caps.toArray, T, pos, after, g⟩ w (.func (.func f) #[] vs.toArray) := by
 subst hv
 simp [Ru, execOp, Instr.makeFunc, vB]
theorem aJv {l : List Value} (h : Rd w none l) : l = [] := by
 rcases h with h | ⟨b, o, h, _⟩
 ·exact h
 cases h
theorem O.callv {d : Nat} {f : FuncId} {fo : Operand} {args ts T pos after} {caps : List Value} (vs : List Value) {R : Value -> World -> Prop} (hg : gok ops σ g = true) (hf : ev σ fo = .func (.func f) #[] caps.toArray) (hen : bB P f) (hvs : evs σ args = vs) (hd : Nat.blt d n = true)
  (hc : aR P f (vs ++ caps) w R) (h : ∀ v w', R v w' -> O P n ops rest Q (upd σ d v) w') :
  O P n ops (⟨some d, .call ⟨.value fo, args.toArray, ts⟩, T, pos, after, g⟩ :: rest) Q σ w :=
 ⟨λ a ha => by
  show wpList P ops.toArray (qI n Q) (_ :: rest) a w
  unfold wpList
  rw [if_pos (iB ha hg (.inl rfl))]
  refine .inl ?_
  unfold Oper.wp
  rw [ha.eval]
  have : (execOp (ev σ) ⟨some d, .call ⟨.value fo, args.toArray, ts⟩, T, pos, after, g⟩).run P w = .ok (.enter f (vs ++ caps).toArray) w := by
   subst hvs
   simp [execOp, resolve, hf, Deferred.ofValue, invoke, vB, hen _ _]
  rw [this]
  refine hc.out.mono λ e w' ⟨v, he, hR⟩ => ?_
  subst he
  exact (h v w' hR).out _ (ha.put hd v)⟩
theorem Ru.extern {d : Nat} {f : FuncId} {args : List Operand} {ts : Array TypeId} {vs : List Value} {v : Value} (hvs : evs σ args = vs) (hc : (callFunc f vs.toArray).run P w = .ok (.value v) w) : Ru P σ ⟨some d, .call ⟨.value (.func f), args.toArray, ts⟩, T, pos, after, g⟩ w v := by
 subst hvs
 simp only [vB] at hc
 simp [Ru, execOp, resolve, ev, Deferred.ofValue, invoke, hc]
theorem Ru.conv64 {a : Int} {d : TypeDesc} (hs : P.underlying T = some d) (hd : P.underlying U = some (.int .u64)) (hx : ev σ x = I a) (h : 0 <= a /\ a <= 9223372036854775807) : Ru P σ ⟨dst, .convert T U x, T', pos, after, g⟩ w (.int .u64 a) :=
 Ru.conv hs hd hx (IntWalk.u64_in a t1)
theorem Ru.conv64i {a : Int} {d : TypeDesc} (hs : P.underlying T = some d) (hd : P.underlying U = some (.int .i64)) (hx : ev σ x = .int .u64 a) (h : 0 <= a /\ a <= 9223372036854775807) : Ru P σ ⟨dst, .convert T U x, T', pos, after, g⟩ w (I a) :=
 Ru.conv hs hd hx (by rw [IntKind.wrap_i64]; omega)
theorem Ru.half {k : IntKind} {a : Int} (hx : ev σ x = .int .u64 a) (hy : ev σ y = .int k 1) (h : 0 <= a) : Ru P σ ⟨dst, .binOp .shr T x y U, T', pos, after, g⟩ w (.int .u64 (a / 2)) := by
 have : a.fdiv 2 = a / 2 := by rw [Int.fdiv_eq_ediv_of_nonneg _ t1]
 simp [Ru, execOp, hx, hy, eqGuard, binOp, Op.shift, IntKind.bits, this]
theorem flat_ge (w : World) {i : Nat} {A : Option Addr} {m c k sz : Nat} {xs : List Value} (h : Mem w0 w R M) (hi : M[i]? = some [⟨.slice A m c, e, sz, m, xs⟩]) (hk : m + k <= c) (hc : 0 < k -> A.isSome = true) :
  ∃ ys : List Value, ys.length = k * sz /\ FE.own w ⟨.slice A (m + k) c, e, sz, m + k, xs ++ ys⟩ := by
 have ho := h.get hi (j := 0) rfl
 obtain ⟨hl, ⟨h1, h2⟩ | ⟨b, c', cur, h1, hB, hh, hn, hc', hs, ht⟩⟩ := ho
 ·simp at h1
  obtain ⟨rfl, rfl, rfl⟩ := h1
  have : k = 0 := by omega
  subst this
  exact ⟨[], t11, by simp at hl; simp [hl]; exact World.ownsRow_nil w 0 e sz⟩
 simp at h1
 obtain ⟨rfl, rfl⟩ := h1
 simp only at ht hs hl
 have hle : (m + k) * sz <= cur.size := by rw [hs]; exact bK _ hk
 refine ⟨(cur.toList.take ((m + k) * sz)).drop (m * sz), ?_, ?_, .inr ⟨b, c, cur, rfl, hB, hh, hk, hc', hs, ?_⟩⟩
 ·have e1 : (cur.toList.take ((m + k) * sz)).length = (m + k) * sz := by simp; omega
  rw [aI, e1, bM]; omega
 ·have e1 : (cur.toList.take ((m + k) * sz)).length = (m + k) * sz := by simp; omega
  show (xs ++ _).length = _
  rw [aA, aI, e1, hl, bM]; omega
 show cur.toList.take ((m + k) * sz) = xs ++ _
 rw [<- ht]
 have : cur.toList.take (m * sz) = (cur.toList.take ((m + k) * sz)).take (m * sz) := by rw [lU, dX (bK _ t1)]
 rw [this, bT]
theorem Mem.extend {i : Nat} {A : Option Addr} {m c k sz : Nat} {xs : List Value} (h : Mem w0 w R M) (hi : M[i]? = some [⟨.slice A m c, e, sz, m, xs⟩]) (hk : m + k <= c) (hc : 0 < k -> A.isSome = true) :
  ∃ ys : List Value, ys.length = k * sz /\ Mem w0 w R (M.set i [⟨.slice A (m + k) c, e, sz, m + k, xs ++ ys⟩]) := by
 obtain ⟨ys, hy, ho⟩ := flat_ge w h hi hk hc
 exact ⟨ys, hy, Mem.upd h hi (j := 0) rfl (aJh w _) ho (.inl (by cases A <;> rfl))⟩
theorem Mem.shrink {i : Nat} {A : Option Addr} {m c k sz : Nat} {xs : List Value} {M' : List (List FE)} (h : Mem w0 w R M) (hi : M[i]? = some [⟨.slice A m c, e, sz, m, xs⟩]) (hk : k <= m) (hM : M.set i [⟨.slice A k c, e, sz, k, xs.take (k * sz)⟩] = M') :
  Mem w0 w R M' := by
 subst hM
 refine Mem.upd h hi (j := 0) rfl (aJh w _) ?_ (.inl (by cases A <;> rfl))
 have ho := h.get hi (j := 0) rfl
 obtain ⟨hl, ⟨h1, h2⟩ | ⟨b, c', cur, h1, hB, hh, hn, hc', hs, ht⟩⟩ := ho
 ·simp at h1
  obtain ⟨rfl, rfl, rfl⟩ := h1
  have : k = 0 := by omega
  subst this
  simp
  exact World.ownsRow_nil w 0 e sz
 simp at h1
 obtain ⟨rfl, rfl⟩ := h1
 simp only at ht hs hl
 have hn' : m <= c := hn
 have hkc : k <= c := by omega
 refine ⟨?_, .inr ⟨b, c, cur, rfl, hB, hh, hkc, hc', hs, ?_⟩⟩
 ·show (xs.take (k * sz)).length = _
  rw [aB, hl, dX (bK _ hk)]
 show cur.toList.take (k * sz) = xs.take (k * sz)
 rw [<- ht, lU, dX (bK _ hk)]
theorem spl_nil {l : List Value} {k : Nat} : spl l k [] = l := by simp [spl]
theorem aJk {i : Nat} {A : Option Addr} {m c sz m' : Nat} {xs : List Value} (h : Mem w0 w R M) (hi : M[i]? = some [⟨.slice A m c, e, sz, m', xs⟩]) : xs.length = m' * sz := (h.get hi (j := 0) rfl).1
theorem vQ {i : Nat} {A : Option Addr} {m c sz k : Nat} {xs vs : List Value} (h : Mem w0 w R M) (hi : M[i]? = some [⟨.slice A m c, e, sz, m, xs⟩]) (hk : k + vs.length <= xs.length) (h1 : (vs.all one) = true) (h0 : vs ≠ []) :
  ∃ a w', ofs A k = some a /\ (storeCells a vs).run P w = .ok () w' /\ Mem w0 w' R (M.set i [⟨.slice A m c, e, sz, m, spl xs k vs⟩]) := by
 have ho := h.get hi (j := 0) rfl
 have hM := ho
 obtain ⟨hl, ⟨h1', h2⟩ | ⟨b, c', cur, h1', hB, hh, hn, hc', hs, ht⟩⟩ := ho
 ·exfalso
  simp only at hl h2
  have h3 : xs.length = 0 := by rw [hl, h2, Nat.zero_mul]
  have : vs.length = 0 := by omega
  exact h0 (aP this)
 simp at h1'
 obtain ⟨rfl, rfl⟩ := h1'
 simp only at ht hs hl
 have hcl : xs.length <= cur.size := by rw [<- ht]; simp; omega
 have hst := run_storeCells_at P b k e vs 0 cur w hh t1 (λ v hv => (dV.1 h1) v hv)
 simp only [Nat.add_zero] at hst
 refine ⟨⟨b, k, none⟩, w.setRow b (spl cur.toList k vs).toArray, by simp [ofs, jF], by simpa [spl] using hst, ?_⟩
 refine Mem.upd h hi (j := 0) rfl ⟨rfl, rfl, rfl, t11, λ j _ hne => setRow_other w b j _ (λ e => hne (by rw [e]; rfl))⟩ ?_ (.inl rfl)
 refine ⟨(kC hk).trans hl, .inr ⟨b, c, (spl cur.toList k vs).toArray, rfl, bI _, setRow_heap w b _ _ e _ hh, hn, hc', ?_, ?_⟩⟩
 ·have e2 : (spl cur.toList k vs).length = cur.toList.length := kC t13
  rw [List.size_toArray, e2]; simpa using hs
 have e1 := aGj (l := cur.toList) (vs := vs) (k := k) (n := m * sz) t1
 rw [List.toList_toArray, e1, ht]
theorem O.mcopy {d i : Nat} {A A1 A2 : Option Addr} {m c sz k n1 c1 n2 c2 : Nat} {t u : TypeId} {xs news xs' : List Value} {M' : List (List FE)} (hM : Mem w0 w R M) (hi : M[i]? = some [⟨.slice A m c, e, sz, m, xs⟩]) (hg : gok ops σ g = true) (ht : P.underlying t = some (.slice e)) (he : ElT P e zs bytes agg) (hz : zs.length = sz)
  (hx : ev σ x = .slice A1 n1 c1) (hy : ev σ y = .slice A2 n2 c2) (hd : Nat.blt d n = true) (hA : news ≠ [] -> A1 = ofs A k) (hr : Rd w A2 news) (hl : news.length = min n2 n1 * sz) (hk : k + news.length <= xs.length) (h1 : (news.all one) = true)
  (hq : spl xs k news = xs') (hM' : M.set i [⟨.slice A m c, e, sz, m, xs'⟩] = M')
  (h : ∀ w', Mem w0 w' R M' -> O P n ops rest Q (upd σ d (I (min n2 n1 : Nat))) w') : O P n ops (⟨some d, .call ⟨.builtin .copy, #[x, y], #[t, u]⟩, T', pos, after, g⟩ :: rest) Q σ w := by
 subst hq hM' hz
 have hsz := iD (P := P) (w := w) he
 have hmin : Nat.min n2 n1 = min n2 n1 := rfl
 by_cases h0 : news = []
 ·subst h0
  have hself : M.set i [⟨.slice A m c, e, zs.length, m, spl xs k []⟩] = M := by
   rw [spl_nil]
   obtain ⟨hlt, he'⟩ := cC.1 hi
   rw [<- he', jD]
  refine O.valW hg (v := I (min n2 n1 : Nat)) (w' := w) ?_ hd (h _ (hself.symm ▸ hM))
  simp only [Rw, execOp, resolve, invoke, builtin]
  have hfc : (Builtin.firstCells zs.length (Nat.min n2 n1) (.slice A2 n2 c2)).run P w = .ok #[] w := by
   cases A2 with
   | none => exact run_firstCells_none (P := P) w _ _ _ _
   | some a2 => 
    have := run_firstCells_some (P := P) w zs.length (Nat.min n2 n1) a2 n2 c2 [] (by rw [hmin]; exact hl) t11
    simpa using this
  cases A1 <;> simp [hx, hy, Builtin.copy_, run_underlying ht, Builtin.lenOf, hsz, hfc, storeCells, goInt]
 obtain ⟨a, w', ha, hst, hM2⟩ := vQ (P := P) hM hi hk h1 h0
 have hA1 : A1 = some a := (hA h0).trans ha
 subst hA1
 rcases hr with hr | ⟨b, o, rfl, hb, hc⟩
 ·exact absurd hr h0
 have hfc : (Builtin.firstCells zs.length (Nat.min n2 n1) (.slice (some ⟨b, o, none⟩) n2 c2)).run P w = .ok news.toArray w :=
  run_firstCells_some (P := P) w zs.length (Nat.min n2 n1) ⟨b, o, none⟩ n2 c2 news (by rw [hmin]; exact hl) (λ j u hu => by rw [jF]; exact hc j u hu)
 refine O.valW hg (v := I (min n2 n1 : Nat)) (w' := w') ?_ hd (h _ hM2)
 simp only [Rw, execOp, resolve, invoke, builtin]
 simp [hx, hy, Builtin.copy_, run_underlying ht, Builtin.lenOf, hsz, hfc, hst, goInt]
theorem O.mgrow {d : Nat} {A : Option Addr} {k c m sz k1 : Nat} {t tn : TypeId} {olds xs1 : List Value} {a : Int} {M' : Nat -> Nat -> List (List FE)} (hM : Mem w0 w R M) (hg : gok ops σ g = true) (ht : P.underlying t = some (.slice e)) (htn : P.underlying tn = some (.int .i64)) (he : ElT P e zs bytes agg) (hz : zs.length = sz /\ 0 < sz)
  (hx : ev σ x = .slice A k c) (hy : ev σ y = I a) (ha : a = (m : Int)) (hd : Nat.blt d n = true) (hr : Rd w A olds) (hl : olds.length = k * sz) (h0 : 0 < m) (hc : c < k + m) (hby : (k + m) * bytes <= 140737488355328) (hn : k + m <= 1152921504606846976) (hk1 : k + m = k1) (hxs : olds ++ zer zs m = xs1) (hM' : ∀ b c', [⟨.slice (bl b) k1 c', e, sz, k1, xs1⟩] :: M = M' b c')
  (h : ∀ w' b c', w0.heap.size <= b -> k1 <= c' -> Mem w0 w' R (M' b c') -> O P n ops rest Q (upd σ d (.slice (bl b) k1 c')) w') :
  O P n ops (⟨some d, .call ⟨.builtin .append, #[x, y], #[t, tn]⟩, T', pos, after, g⟩ :: rest) Q σ w := by
 obtain ⟨rfl, hz⟩ := hz
 subst ha hk1 hxs
 obtain ⟨i, zv, hi, hzz, hzc, hs, hb⟩ := he.info
 have hold : (Builtin.firstCells i.size k (.slice A k c)).run P w.drew = .ok olds.toArray w.drew := by
  rcases hr with rfl | ⟨b, o, rfl, _, hcc⟩
  ·cases A with
   | none => exact run_firstCells_none (P := P) w.drew _ _ _ _
   | some a => exact run_firstCells_some (P := P) w.drew i.size k a k c [] (by rw [hs]; exact hl) t11
  exact run_firstCells_some (P := P) w.drew i.size k ⟨b, o, none⟩ k c olds (by rw [hs]; exact hl) (λ j u hu => by rw [jF]; exact hcc j u hu)
 have hcap := grownCap_ge w (k + m) c e
 have hcm : grownCap w (k + m) c e <= maxLen := grownCap_le_maxLen w (k + m) c e (by simp only [maxLen]; omega)
 have hrun := Lib.run_append_grow_zeros (P := P) w t tn T' e i zv .i64 .i64 ht htn hi hzz A k c olds hold m h0 t1 hc t1
  (by rw [hb]; have : m * bytes <= (k + m) * bytes := bK _ t1; omega) (by rw [hb]; exact growslice_fits hc hby)
 have hzl : ∀ j, (Builtin.zeroCells zv.cells j).toList = zer zs j := λ j => by
  unfold zer
  rw [hzc]
  simp [Builtin.zeroCells, madeCells]
 refine O.valW hg (v := .slice (bl w.heap.size) (k + m) (grownCap w (k + m) c e)) (w' := w.drew.alloc (.cells (olds.toArray ++ Builtin.zeroCells zv.cells m ++ Builtin.zeroCells zv.cells (grownCap w (k + m) c e - (k + m))) e)) ?_ hd
  (h _ w.heap.size _ (by exact hM.size) hcap (hM' _ _ ▸ Mem.cons hM ⟨rfl, rfl, rfl, t11, λ k hk hr => (World.grownBy_alloc w.drew _ none).block k hk hr⟩ ⟨?_, .inr ⟨w.heap.size, _, _, rfl, bI _, heap_alloc_new w.drew _, hcap, hcm, ?_, ?_⟩⟩ (λ k hk => by simp [FE.blk, Value.ownBlock] at hk; omega)))
 ·simp [Rw, execOp, resolve, invoke, builtin, hx, hy, hrun]
 ·simp only [aA, kE, hl, bM]
 ·have e1 : ∀ j, (Builtin.zeroCells zv.cells j).size = j * zs.length := λ j => by rw [<- Array.length_toList, hzl, kE]
  simp only [Array.size_append, List.size_toArray, e1, hl, <- bM]
  congr 1; omega
 simp only [Array.toList_append, hzl]
 rw [kQ (by simp [kE, hl, bM]), aE (by simp [kE, hl, bM])]
theorem O.mappendIn {d i : Nat} {A A2 : Option Addr} {m k c c2 sz m1 : Nat} {t : TypeId} {xs news xs1 : List Value} {M' : List (List FE)} (hM : Mem w0 w R M) (hi : M[i]? = some [⟨.slice A m c, e, sz, m, xs⟩]) (hg : gok ops σ g = true) (ht : P.underlying t = some (.slice e)) (he : ElT P e zs bytes agg) (hz : zs.length = sz) (hx : ev σ x = .slice A m c) (hy : ev σ y = .slice A2 k c2) (hd : Nat.blt d n = true)
  (hr : Rd w A2 news) (hl : news.length = k * sz) (h1 : (news.all one) = true) (hroom : m + k <= c) (hA : 0 < k -> A.isSome = true) (hm1 : m + k = m1) (hxs : xs ++ news = xs1) (hM' : M.set i [⟨.slice A m1 c, e, sz, m1, xs1⟩] = M')
  (h : ∀ w', Mem w0 w' R M' -> O P n ops rest Q (upd σ d (.slice A m1 c)) w') :
  O P n ops (⟨some d, .call ⟨.builtin .append, #[x, y], #[t, t]⟩, T', pos, after, g⟩ :: rest) Q σ w := by
 subst hm1 hxs hM' hz
 have hsz := iD (P := P) (w := w) he
 obtain ⟨ys, hyl, hM2⟩ := Mem.extend (k := k) hM hi hroom hA
 obtain ⟨ii, zv, hii, hzz, hzc, hs, hb⟩ := he.info
 have hlt : i < M.length := (cC.1 hi).1
 have hxl := aJk hM hi
 have hi2 : (M.set i [⟨.slice A (m + k) c, e, zs.length, m + k, xs ++ ys⟩])[i]? = some [⟨.slice A (m + k) c, e, zs.length, m + k, xs ++ ys⟩] := by
  rw [kS hlt]
 have hfin : spl (xs ++ ys) (m * zs.length) news = xs ++ news := by
  unfold spl
  rw [<- hxl, List.take_left, dK t13, cS]
 by_cases h0 : news = []
 ·subst h0
  have hys : ys = [] := aP (by rw [hyl, <- hl]; rfl)
  subst hys
  simp only [cS] at hM2 h
  refine O.valW hg (v := .slice A (m + k) c) (w' := w) ?_ hd (h _ hM2)
  have hfc : (Builtin.firstCells zs.length k (.slice A2 k c2)).run P w = .ok #[] w := by
   cases A2 with
   | none => exact run_firstCells_none (P := P) w _ _ _ _
   | some a2 => simpa using run_firstCells_some (P := P) w zs.length k a2 k c2 [] hl t11
  cases A <;> simp [Rw, execOp, resolve, invoke, builtin, hx, hy, Builtin.append_, run_underlying ht, sizeOf, typeInfo, hii, hs, Builtin.lenOf, hroom, hfc, storeCells]
 obtain ⟨a, w', ha, hst, hM3⟩ := vQ (P := P) hM2 hi2 (k := m * zs.length) (vs := news) (by simp [hxl, hyl, hl]) h1 h0
 rw [hfin, List.set_set] at hM3
 refine O.valW hg (v := .slice A (m + k) c) (w' := w') ?_ hd (h _ hM3)
 cases A with
 | none => simp [ofs] at ha
 | some a0 =>
  simp only [ofs, lC, Option.some.injEq] at ha
  rcases hr with hr | ⟨b, o, rfl, hb', hcc⟩
  ·exact absurd hr h0
  have hfc : (Builtin.firstCells zs.length k (.slice (some ⟨b, o, none⟩) k c2)).run P w = .ok news.toArray w :=
   run_firstCells_some (P := P) w zs.length k ⟨b, o, none⟩ k c2 news hl (λ j u hu => by rw [jF]; exact hcc j u hu)
  simp [Rw, execOp, resolve, invoke, builtin, hx, hy, Builtin.append_, run_underlying ht, sizeOf, typeInfo, hii, hs, Builtin.lenOf, hroom, hfc, ha, hst]
end
end Go.Px
end
section
namespace Go.Px
open Go.RowKit
section
variable {P : Program} {σ : Sig} {w : World} {dst : Option Tmp} {T U T' e : TypeId} {pos : String} {after : Array Edge} {g : Option (Nat × Bool)} {x y z y1 y2 y3 : Operand}
variable {zs : List Value} {bytes : Nat} {agg : Bool} {n : Nat} {Q : Post} {ops rest : List Oper} {w0 : World} {R : List (Option Nat)} {M : List (List FE)}
theorem Ru.indexArr {A : Option Addr} {k : IntKind} {i : Int} {j len : Nat} (ht : P.underlying T = some (.array len e)) (he : ElT P e zs bytes agg) (hx : ev σ x = .pointer (ofs A 0)) (hA : A.isSome = true) (hy : ev σ y = .int k i)
  (hi : i.toNat = j) (h0 : 0 <= i /\ i < len) : Ru P σ ⟨dst, .indexAddr T x y, T', pos, after, g⟩ w (.pointer (ofs A (j * zs.length))) := by
 cases A with
 | none => cases hA
 | some a =>
  subst hi
  have e0 : a.add 0 = a := by simp [Addr.add]
  simp [Ru, execOp, hx, hy, ofs, Instr.indexAt, asIntOf, run_underlying ht, h0.1, h0.2, iD he, Instr.sureAddr, e0]
theorem O.marr {d m sz : Nat} {xs : List Value} (hM : Mem w0 w R M) (hg : gok ops σ g = true) (hd : Nat.blt d n = true) (he : ElT P T zs bytes agg) (hq : zs = xs) (hl : xs.length = m * sz) (hm : m <= 1152921504606846976)
  (h : ∀ w' b, w0.heap.size <= b -> Mem w0 w' R ([⟨.slice (bl b) m m, T, sz, m, xs⟩] :: M) -> O P n ops rest Q (upd σ d (.pointer (ofs (bl b) 0))) w') : O P n ops (⟨some d, .alloc T, T', pos, after, g⟩ :: rest) Q σ w := by
 subst hq
 exact O.alloc hg hd he λ w' b hb hE hB => h w' b (by have := hM.size; omega) (Mem.cons hM hE (blk_own' (m := m) (sz := sz) hB hl (by simp only [maxLen]; omega)) (λ k hk => by simp [FE.blk, Value.ownBlock] at hk; omega))
theorem Ru.lslice3 {A : Option Addr} {m c : Nat} {lo hi mx : Int} {v : Value} (ht : P.underlying T = some (.slice e)) (he : ElT P e zs bytes agg) (hx : ev σ x = .slice A m c) (hlo : ev σ y1 = I lo) (hhi : ev σ y2 = I hi) (hmx : ev σ y3 = I mx) (hb : 0 <= lo /\ lo <= hi /\ hi <= mx /\ mx <= c)
  (hv : v = .slice (if mx.toNat = lo.toNat then A else ofs A (lo.toNat * zs.length)) (hi.toNat - lo.toNat) (mx.toNat - lo.toNat)) : Ru P σ ⟨dst, .slice T x (some y1) (some y2) (some y3), T', pos, after, g⟩ w v := by
 subst hv
 have h1 : 0 <= hi := by omega
 have h2 : 0 <= mx := by omega
 have h3 : lo <= max hi 0 := by omega
 have h4 : hi <= max mx 0 := by omega
 simp [Ru, execOp, hx, hlo, hhi, hmx, Instr.sliceAt, run_underlying ht, Instr.slice, Instr.sliceBounds, Instr.sliceBound, asIntOf, h1, h2, h3, h4, hb.1, hb.2.2.2, iD he]
 rfl
theorem O.mclear0 {i : Nat} {A A1 : Option Addr} {m c sz j c1 : Nat} {t : TypeId} {xs : List Value} (hM : Mem w0 w R M) (hi : M[i]? = some [⟨.slice A m c, e, sz, m, xs⟩]) (hg : gok ops σ g = true) (ht : P.underlying t = some (.slice e)) (he : ElT P e zs bytes agg) (hz : zs.length = sz) (hx : ev σ x = .slice A1 j c1)
  (hA : 0 < j -> A1 = ofs A (m * sz)) (hj : m + j <= c) (h1 : (zs.all one) = true)
  (h : ∀ w', Mem w0 w' R M -> O P n ops rest Q σ w') : O P n ops (⟨none, .call ⟨.builtin .clear, #[x], #[t]⟩, T', pos, after, g⟩ :: rest) Q σ w := by
 subst hz
 obtain ⟨ii, zv, hii, hzz, hzc, hs, hb⟩ := he.info
 have hlt : i < M.length := (cC.1 hi).1
 have hxl := aJk hM hi
 by_cases h0 : j = 0
 ·subst h0
  refine O.valN hg (v := .tuple #[]) (w' := w) ?_ (h _ hM)
  cases A1 <;> simp [Rw, execOp, resolve, invoke, builtin, hx, Builtin.clear_, run_underlying ht]
 have hA1 := hA t1
 cases hAn : A with
 | none =>
  exfalso
  have := hM.get hi (j := 0) rfl
  subst hAn
  obtain ⟨_, ⟨h1', h2⟩ | ⟨b, c', cur, h1', _⟩⟩ := this
  ·simp at h1'; omega
  simp at h1'
 | some a0 =>
  have hzl : (Builtin.zeroCells zv.cells j).toList = zer zs j := by
   unfold zer
   rw [hzc]
   simp [Builtin.zeroCells, madeCells]
  obtain ⟨ys, hyl, hM2⟩ := Mem.extend (k := j) hM hi hj (λ _ => by rw [hAn]; rfl)
  have hi2 : (M.set i [⟨.slice A (m + j) c, e, zs.length, m + j, xs ++ ys⟩])[i]? = some [⟨.slice A (m + j) c, e, zs.length, m + j, xs ++ ys⟩] := by
   rw [kS hlt]
  by_cases hzs : zer zs j = []
  ·refine O.valN hg (v := .tuple #[]) (w' := w) ?_ (h _ hM)
   obtain ⟨j', rfl⟩ : ∃ j', j = j' + 1 := ⟨j - 1, t1⟩
   subst hA1
   subst hAn
   have := hzl
   rw [hzs] at this
   simp [Rw, execOp, resolve, invoke, builtin, hx, ofs, Builtin.clear_, run_underlying ht, zeroValue, typeInfo, hii, hzz, this, storeCells]
  have hza : (zer zs j).all one = true := by
   rw [aIp, dV]
   intro v hv
   obtain ⟨l, hl, hv⟩ := dM.1 hv
   rw [(List.mem_replicate.1 hl).2] at hv
   exact dV.1 h1 v hv
  obtain ⟨a, w', ha, hst, hM3⟩ := vQ (P := P) hM2 hi2 (k := m * zs.length) (vs := zer zs j) (by simp [hxl, hyl, kE]) hza hzs
  rw [List.set_set] at hM3
  have hM4 := Mem.shrink (i := i) (k := m) hM3 (kS hlt) t1 rfl
  rw [List.set_set] at hM4
  have hfin : (spl (xs ++ ys) (m * zs.length) (zer zs j)).take (m * zs.length) = xs := by
   unfold spl
   rw [<- hxl, List.take_left, bO, List.take_left]
  rw [hfin] at hM4
  have hself : M.set i [⟨.slice A m c, e, zs.length, m, xs⟩] = M := by
   obtain ⟨hlt, he'⟩ := cC.1 hi
   rw [<- he', jD]
  rw [hself] at hM4
  refine O.valN hg (v := .tuple #[]) (w' := w') ?_ (h _ hM4)
  obtain ⟨j', rfl⟩ : ∃ j', j = j' + 1 := ⟨j - 1, t1⟩
  subst hA1
  have hst' : (storeCells a (Builtin.zeroCells zv.cells (j' + 1)).toList).run P w = .ok () w' := by rw [hzl]; exact hst
  simp [Rw, execOp, resolve, invoke, builtin, hx, ha, Builtin.clear_, run_underlying ht, zeroValue, typeInfo, hii, hzz, hst']
theorem Mem.off_old {A : Option Addr} {l : List Value} (h : Mem w0 w [] M) (hA : Rd w0 A l) (i : Nat) {m sz : Nat} {v' : Value} {e : TypeId} {xs : List Value} {g : List FE} (hi : M[i]? = some (⟨v', e, sz, m, xs⟩ :: g)) : Off A l [v'.ownBlock] := by
 rcases hA with h0 | ⟨b, o, rfl, hb, _⟩
 ·exact .inl h0
 refine .inr (λ a ha hm => ?_)
 cases ha
 have := h.born _ (dM.2 ⟨_, cE hi, dG⟩) b (aU.1 hm).symm
 simp at this
 omega
theorem Rd.left {A : Option Addr} {a b : List Value} (h : Rd w A (a ++ b)) : Rd w A a := by
 have := h.take a.length
 rwa [List.take_left] at this
theorem uA {tS tR : TypeId} {i j : Nat} {A V : Option Addr} {n1 c m vc sz szv mv mA lv cv la ca k : Nat} {e' : TypeId} {xs vs : List Value} (hM : Mem w0 w R M) (hij : i ≠ j) (hi : M[i]? = some [⟨.slice V m vc, e', szv, mv, vs⟩]) (hj : M[j]? = some [⟨.slice A n1 c, e, sz, mA, xs⟩])
  (ht : P.underlying tS = some (.slice e)) (he : ElT P e zs bytes agg) (hc : 0 < c) (hsz : 0 < sz) (A1 : Option Addr) (hA1 : A1 = ofs A k) :
  (Extern.SlicesOverlaps.overlaps #[tS, tS] #[tR] #[.slice V lv cv, .slice A1 la ca]).run P w = .ok (.bool false) w := by
 have ho1 := hM.get hi (j := 0) rfl
 have ho2 := hM.get hj (j := 0) rfl
 have hap := grp_get (jB.1 hM.apart).2 hi hj hij _ (dG) _ (dG)
 have hz : ∀ w, (Go.sizeOf e).run P w = .ok zs.length w := λ w => iD he
 have hnone : ∀ (a b : Option Addr), a = none \/ b = none -> (Extern.SlicesOverlaps.overlaps #[tS, tS] #[tR] #[.slice a lv cv, .slice b la ca]).run P w = .ok (.bool false) w := by
  intro a b hab
  change Sem.run P (α := Value) (do
   let some t := (#[tS, tS] : Array TypeId)[0]? | stuck "slices.overlaps: no parameter types"
   let .slice elem <- underlying t | stuck "slices.overlaps: slice type expected"
   let size <- sizeOf elem
   match (a : Option Addr), (b : Option Addr) with
   | some a, some b =>
    if lv = 0 \/ la = 0 \/ size = 0 then pure (Value.bool false)
    else if a.block != b.block && (<- frozen a) && (<- frozen b) then unsupported .addressObserved
    else do
     if a.block != b.block then do
      noView a; noView b
      if <- mayBeOne a b then return Value.bool ((<- choose (.extern "sameAddr.stringBytes" 2)) == 1)
     pure (Value.bool (a.block == b.block && a.off < b.off + la * size && b.off < a.off + lv * size))
   | _, _ => pure (Value.bool false)) w = _
  rcases hab with rfl | rfl
  ·simp [run_underlying ht, hz]
  cases a <;> simp [run_underlying ht, hz]
 rcases ho1.2 with ⟨h1, _⟩ | ⟨g1, c1, cur1, h1, _, hh1, _, _, hs1, _⟩
 ·simp at h1; obtain ⟨rfl, _, _⟩ := h1
  exact hnone _ _ (.inl rfl)
 simp at h1; obtain ⟨rfl, _, rfl⟩ := h1
 rcases ho2.2 with ⟨h2, _⟩ | ⟨g2, c2, cur2, h2, _, hh2, _, _, hs2, _⟩
 ·simp at h2; obtain ⟨rfl, _, _⟩ := h2
  subst hA1
  exact hnone _ _ (.inr rfl)
 simp at h2; obtain ⟨rfl, _, rfl⟩ := h2
 subst hA1
 simp only at hh1 hh2 hs1 hs2
 have hne : g1 ≠ g2 := λ h => hap g1 rfl (by rw [h]; rfl)
 have e2 : ofs (some ⟨g2, 0, none⟩) k = some ⟨g2, k, none⟩ := by simp [ofs, jF]
 rw [e2]
 exact Lib.run_overlaps_apart (P := P) w tS tR e ht zs.length hz ⟨g1, 0, none⟩ ⟨g2, k, none⟩ lv cv la ca hne e' e cur1.size cur2.size (by simp [World.shape?, hh1]) (by simp [World.shape?, hh2])
  (by rw [hs2]; exact Nat.ne_of_gt (Nat.mul_pos hc hsz)) (by simp [World.frozen?, hh1]) (by simp [World.frozen?, hh1])
end
end Go.Px
namespace Go.Px
theorem aHn {α : Type} {f : α -> Value} {l : List α} {A : Option Addr} {w : World} (h : Rd w A (l.map f)) (hn : A.isNone = true) : l = [] := by
 cases A with
 | none => simpa using aJv h
 | some a => cases hn
theorem aEv {α : Type} {f : α -> List Value} {n : Nat} (hf : ∀ a, (f a).length = n) (h0 : 0 < n) {l : List α} {A : Option Addr} {w : World} (h : Rd w A (l.flatMap f)) (hn : A.isNone = true) : l = [] := by
 cases A with
 | none =>
  have := congrArg List.length (aJv h)
  rw [kX hf, bA] at this
  rcases Nat.mul_eq_zero.1 this with h | h
  ·exact aP h
  omega
 | some a => cases hn
theorem xW {α β : Type} {f : α -> β} {l : List α} {z : β} {k : Nat} (hk : k < l.length) : ((l.take k).map f ++ List.replicate (l.length - k) z).set k (f l[k]) = (l.take (k + 1)).map f ++ List.replicate (l.length - (k + 1)) z := by
 have h1 : ((l.take k).map f).length = k := by simp; omega
 have h2 : l.length - k = (l.length - (k + 1)) + 1 := by omega
 rw [dO hk, dW, lM _ _ t1, h1, nS, h2, kF, List.set_cons_zero]
 simp
theorem aAk {α β : Type} {f : α -> β} {l : List α} {z : β} : List.replicate l.length z = (l.take 0).map f ++ List.replicate (l.length - 0) z := by simp
theorem aEi {α β : Type} {f : α -> β} {l : List α} {z : β} {k : Nat} (hk : l.length <= k) : (l.take k).map f ++ List.replicate (l.length - k) z = l.map f := by
 rw [aE hk, show l.length - k = 0 by omega]; simp
theorem aEk {α β : Type} {f : α -> β} {l : List α} {z : β} {k : Nat} (hk : k <= l.length) : ((l.take k).map f ++ List.replicate (l.length - k) z).length = l.length := by simp; omega
theorem yK {α β : Type} {f : α -> β} {l : List α} {k : Nat} (hk : k < l.length) : (l.take k).map f ++ [f l[k]] = (l.take (k + 1)).map f := by rw [dO hk, dW]; rfl
theorem aAm {X ys V : List Value} {i : Nat} (hi : i <= X.length) (hy : ys.length = V.length) : spl (spl (X ++ ys) (i + V.length) (X.drop i)) i V = X.take i ++ (V ++ X.drop i) := by
 have h1 : (X ++ ys).drop (i + V.length + (X.drop i).length) = [] := dK t13
 have h2 : spl (X ++ ys) (i + V.length) (X.drop i) = (X ++ ys).take (i + V.length) ++ X.drop i := by
  unfold spl; rw [h1, cS]
 have h3 : ((X ++ ys).take (i + V.length)).length = i + V.length := by simp; omega
 rw [h2]
 unfold spl
 rw [kQ t1, lU, dX t1, kQ hi]
 have h4 : ((X ++ ys).take (i + V.length) ++ X.drop i).drop (i + V.length) = X.drop i := by
  conv => lhs; arg 1; rw [<- h3]
  rw [List.drop_left]
 rw [h4, bO]
theorem xZ {X Z V : List Value} {i : Nat} (hi : i <= X.length) (hz : Z.length = V.length + (X.length - i)) : spl (spl (X.take i ++ Z) i V) (i + V.length) (X.drop i) = X.take i ++ (V ++ X.drop i) := by
 have h1 : (X.take i).length = i := by simp; omega
 have h2 : spl (X.take i ++ Z) i V = X.take i ++ V ++ Z.drop V.length := by
  unfold spl
  have e1 : (X.take i ++ Z).take i = X.take i := List.take_left' h1
  have e2 : (X.take i ++ Z).drop (i + V.length) = Z.drop V.length := by
   rw [<- List.drop_drop, List.drop_left' h1]
  rw [e1, e2]
 rw [h2]
 have h3 : (X.take i ++ V).length = i + V.length := by simp; omega
 unfold spl
 have e3 : (X.take i ++ V ++ Z.drop V.length).take (i + V.length) = X.take i ++ V := List.take_left' h3
 have e4 : (X.take i ++ V ++ Z.drop V.length).drop (i + V.length + (X.drop i).length) = [] := dK t13
 rw [e3, e4, cS, bO]
end Go.Px
namespace Go.Px
theorem aLb {α : Type} {l : List α} {z : α} {k : Nat} (hk : k < l.length) : (l.take k ++ List.replicate (l.length - k) z).set k l[k] = l.take (k + 1) ++ List.replicate (l.length - (k + 1)) z := by
 have := xW (f := id) (z := z) hk
 simpa using this
theorem aHt {p : Nat -> Bool} {n i j : Nat} (hm : ∀ a b, a <= b -> b < n -> p a = true -> p b = true) (hij : i < j) (hj : j <= n) (h : p ((i + j) / 2) = false) (hi : ∀ t, t < i -> p t = false) : ∀ t, t < (i + j) / 2 + 1 -> p t = false := by
 intro t ht
 cases hp : p t with
 | false => rfl
 | true => rw [hm t ((i + j) / 2) t1 t1 hp] at h; cases h
theorem aFf {p : Nat -> Bool} {n i j : Nat} (hm : ∀ a b, a <= b -> b < n -> p a = true -> p b = true) (h : p ((i + j) / 2) = true) : ∀ t, (i + j) / 2 <= t -> t < n -> p t = true := λ t h1 h2 => hm _ t h1 h2 h
end Go.Px
end
section
namespace Go.Px
theorem nX {α : Type} {l : List α} {k : Nat} {d : α} (h : k < l.length) : l.getD k d = l[k] := by simp [h]
def nD (k : Int) : Bool := decide (0 <= k) && decide (k <= 99)
def fA (v : Int) : Bool := decide (-1000 <= v) && decide (v <= 1000)
theorem oV {k : Int} : fA k = true ↔ -1000 <= k /\ k <= 1000 := by simp [fA]
def asc : List Int -> Bool
 | a :: b :: r => decide (a < b) && asc (b :: r)
 | _ => true
theorem tD : ∀ l : List Int, asc l = true ↔ ∀ i (h : i + 1 < l.length), l[i] < l[i + 1]
 | [] => by simp [asc]
 | [a] => by simp [asc]
 | a :: b :: r => by
  simp only [asc, aW, tD (b :: r), decide_eq_true_eq]
  constructor
  ·rintro ⟨h1, h2⟩ i hi
   cases i with
   | zero => exact h1
   | succ i => exact h2 i (by simpa using hi)
  intro h
  exact ⟨h 0 t11, λ i hi => h (i + 1) (by simpa using hi)⟩
theorem iG {l : List Int} (h : asc l = true) : ∀ i j (hi : i < j) (hj : j < l.length), l[i]'t1 < l[j] := by
 intro i j hij hj
 induction j with
 | zero => omega
 | succ j ih =>
  have h1 := (tD l).1 h j hj
  by_cases he : i = j
  ·subst he; exact h1
  exact Int.lt_trans (ih t1 t1) h1
theorem aKv {l : List Int} (h : ∀ i j (_ : i < j) (hj : j < l.length), l[i]'t1 < l[j]) : asc l = true := (tD l).2 λ i hi => h i (i + 1) t1 hi
theorem fD {l : List Int} : asc l = true ↔ l.Pairwise (· < ·) := by
 rw [dT]
 exact ⟨λ h i j hi hj hij => iG h i j hij hj, λ h => aKv λ i j hij hj => h i j t1 hj hij⟩
theorem xK {l : List Int} {k : Nat} (h : asc (l.take k) = true) (hk : k < l.length) (hb : ∀ h0 : 0 < k, l[k - 1]'t1 < l[k]) : asc (l.take (k + 1)) = true := by
 rw [tD] at h ⊢
 intro i hi
 simp only [aB] at hi h
 simp only [iJ] at h ⊢
 by_cases hik : i + 1 < k
 ·exact h i t1
 have e : k = i + 1 := by omega
 subst e
 exact hb t1
theorem asc_not {l : List Int} {k : Nat} (h0 : 0 < k) (hk : k < l.length) (hb : ¬ l[k - 1]'t1 < l[k]) : asc l = false := by
 cases hp : asc l with
 | false => rfl
 | true =>
  have := (tD l).1 hp (k - 1) t1
  have e : k - 1 + 1 = k := by omega
  simp only [e] at this
  exact absurd this hb
def bR (l : List Int) : Bool := l.all nD && asc l
theorem bQ {l : List Int} : bR l = true ↔ (∀ k ∈ l, 0 <= k /\ k <= 99) /\ asc l = true := by
 simp [bR, nD]
def fG (l : List Int) (k : Int) : Nat := (l.takeWhile λ a => decide (a < k)).length
def gW (l : List Int) (k : Int) : Nat := (l.takeWhile λ a => decide (a <= k)).length
theorem aGq {α : Type} {p : α -> Bool} : ∀ (l : List α), (l.takeWhile p).length <= l.length
 | [] => by simp
 | a :: l => by simp only [List.takeWhile_cons]; split <;> simp [aGq l]
theorem aKg {α : Type} {p : α -> Bool} : ∀ {l : List α} {i : Nat} (h : i < (l.takeWhile p).length), p (l[i]'(fS h (aGq l))) = true
 | [], i, h => by simp at h
 | a :: l, i, h => by
  simp only [List.takeWhile_cons] at h
  split at h
  ·rename_i ha
   cases i with
   | zero => exact ha
   | succ i => simpa using aKg (l := l) (i := i) (by simpa using h)
  simp at h
theorem wZ {α : Type} {p : α -> Bool} : ∀ {l : List α} (h : (l.takeWhile p).length < l.length), p l[(l.takeWhile p).length] = false
 | [], h => by simp at h
 | a :: l, h => by
  simp only [List.takeWhile_cons] at h ⊢
  split at h
  ·rename_i ha
   simp only [ha, if_true, aG, iR]
   exact wZ (l := l) (by simpa using h)
  rename_i ha
  simp [ha]
theorem tw_eq {α : Type} {p : α -> Bool} {l : List α} {n : Nat} (hn : n <= l.length) (h1 : ∀ i (hi : i < n), p (l[i]'t1) = true) (h2 : ∀ h : n < l.length, p l[n] = false) : (l.takeWhile p).length = n := by
 rcases Nat.lt_trichotomy (l.takeWhile p).length n with h | h | h
 ·have := wZ (p := p) (l := l) t1
  rw [h1 _ h] at this; cases this
 ·exact h
 have := aKg (p := p) h
 rw [h2 (by have := aGq (p := p) l; omega)] at this; cases this
theorem xM (l : List Int) (k : Int) : fG l k <= l.length := aGq l
theorem rK (l : List Int) (k : Int) : gW l k <= l.length := aGq l
theorem tF {l : List Int} {k : Int} {i : Nat} (h : i < fG l k) : l[i]'(fS h (xM l k)) < k := by simpa using aKg h
theorem sC {l : List Int} {k : Int} (h : fG l k < l.length) : k <= l[fG l k] := by
 have := wZ (p := λ a => decide (a < k)) (l := l) h
 simp only [decide_eq_false_iff_not] at this
 unfold fG
 omega
theorem aMy {l : List Int} {k : Int} {n : Nat} (hn : n <= l.length) (h1 : ∀ i (hi : i < n), l[i]'t1 < k) (h2 : ∀ h : n < l.length, k <= l[n]) : fG l k = n :=
 tw_eq hn (λ i hi => by simpa using h1 i hi) (λ h => by have := h2 h; simp; omega)
theorem aDi {l : List Int} {k : Int} {i : Nat} (h : i < gW l k) : l[i]'(fS h (rK l k)) <= k := by simpa using aKg h
theorem vS {l : List Int} {k : Int} (h : gW l k < l.length) : k < l[gW l k] := by
 have := wZ (p := λ a => decide (a <= k)) (l := l) h
 simp only [decide_eq_false_iff_not] at this
 unfold gW
 omega
theorem upTo_eq {l : List Int} {k : Int} {n : Nat} (hn : n <= l.length) (h1 : ∀ i (hi : i < n), l[i]'t1 <= k) (h2 : ∀ h : n < l.length, k < l[n]) : gW l k = n :=
 tw_eq hn (λ i hi => by simpa using h1 i hi) (λ h => by have := h2 h; simp; omega)
theorem xL {l : List Int} {k : Int} (h : asc l = true) {i : Nat} (hi : fG l k <= i) (hl : i < l.length) : k <= l[i] := by
 have h1 := sC (l := l) (k := k) t1
 by_cases he : i = fG l k
 ·subst he; exact h1
 have := iG h (fG l k) i t1 hl
 omega
theorem aKw {l : List Int} {k : Int} (h : asc l = true) : k ∈ l ↔ ∃ hb : fG l k < l.length, l[fG l k] = k := by
 constructor
 ·intro hm
  obtain ⟨i, hi, he⟩ := aJ hm
  have h1 : fG l k <= i := by
   rcases fB i (fG l k) with h2 | h2
   ·have := tF h2; omega
   exact h2
  have hb : fG l k < l.length := by omega
  refine ⟨hb, ?_⟩
  have h2 := sC hb
  by_cases h3 : i = fG l k
  ·subst h3; exact he
  have := iG h (fG l k) i t1 hi
  omega
 rintro ⟨hb, he⟩
 rw [<- he]; exact aC hb
theorem aCz {l : List Int} {k : Int} {n : Nat} (hn : n <= l.length) (h1 : ∀ i (hi : i < n), ¬ k <= l[i]'t1) (h2 : ∀ i (_ : n <= i) (hi : i < l.length), k <= l[i]) : fG l k = n :=
 aMy hn (λ i hi => by have := h1 i hi; omega) (λ h => h2 n (dD _) h)
theorem aFx {l : List Int} {k : Int} {n : Nat} (hn : n <= l.length) (h1 : ∀ i (hi : i < n), ¬ k < l[i]'t1) (h2 : ∀ i (_ : n <= i) (hi : i < l.length), k < l[i]) : gW l k = n :=
 upTo_eq hn (λ i hi => by have := h1 i hi; omega) (λ h => h2 n (dD _) h)
structure PairT where
 key : Int
 val : Int
 deriving DecidableEq
instance : Inhabited PairT := ⟨⟨0, 0⟩⟩
def cY (p : PairT) : List Value := [I p.key, I p.val]
theorem dI (p : PairT) : (cY p).length = 2 := rfl
abbrev bG (l : List PairT) : List Int := l.map (·.key)
def bW (l : List PairT) : Bool := decide (l.length <= 24) && l.all (λ p => fA p.val) && bR (bG l)
theorem eM {l : List PairT} : bW l = true ↔ l.length <= 24 /\ (∀ p ∈ l, -1000 <= p.val /\ p.val <= 1000) /\ bR (bG l) = true := by
 simp [bW, fA, and_assoc]
def plc (l : List PairT) (k : Int) : Nat := fG (bG l) k
theorem yW (l : List PairT) (k : Int) : plc l k <= l.length := by have := xM (bG l) k; simpa [plc] using this
def cT (l : List PairT) (k : Int) : Bool := decide (k ∈ bG l)
def hH (l : List PairT) (x : PairT) : List PairT := l.take (plc l x.key) ++ x :: l.drop (if cT l x.key then plc l x.key + 1 else plc l x.key)
def nW (l : List PairT) (k : Int) : List PairT := if cT l k then l.take (plc l k) ++ l.drop (plc l k + 1) else l
def lW (l : List PairT) (k : Int) : Option Int := (l.find? λ p => decide (p.key = k)).map (·.val)
theorem mE {l : List PairT} (h : asc (bG l) = true) {k : Int} : cT l k = true ↔ ∃ hb : plc l k < l.length, l[plc l k].key = k := by
 unfold cT plc
 rw [decide_eq_true_eq, aKw h]
 simp
theorem aLq {l : List PairT} {k : Int} : lW l k = none ↔ ∀ p ∈ l, p.key ≠ k := by
 simp [lW]
theorem aLr {l : List PairT} (h : asc (bG l) = true) {k v : Int} : lW l k = some v ↔ (⟨k, v⟩ : PairT) ∈ l := by
 unfold lW
 constructor
 ·intro hl
  cases hf : l.find? (λ p => decide (p.key = k)) with
  | none => rw [hf] at hl; cases hl
  | some p =>
   rw [hf] at hl
   have h1 := List.find?_some hf
   have h2 := List.mem_of_find?_eq_some hf
   simp at h1 hl
   subst h1 hl
   exact h2
 intro hm
 cases hf : l.find? (λ p => decide (p.key = k)) with
 | none =>
  have := (List.find?_eq_none.1 hf) _ hm
  simp at this
 | some p =>
  have h1 := List.find?_some hf
  have h2 := List.mem_of_find?_eq_some hf
  simp at h1
  obtain ⟨i, hi, he⟩ := aJ hm
  obtain ⟨j, hj, he'⟩ := aJ h2
  have hij : i = j := by
   rcases Nat.lt_trichotomy i j with h3 | h3 | h3
   ·have := iG h i j h3 (by simpa using hj)
    simp [he, he', h1] at this
   ·exact h3
   have := iG h j i h3 (by simpa using hi)
   simp [he, he', h1] at this
  subst hij
  rw [he] at he'
  subst he'
  rfl
theorem rX {l : List PairT} (h : asc (bG l) = true) (x : PairT) : asc (bG (hH l x)) = true := by
 rw [fD]
 have hp := fD.1 h
 unfold hH bG
 rw [dW, mN]
 refine cO.2 ⟨?_, fR.2 ⟨?_, ?_⟩, ?_⟩
 ·rw [List.map_take]; exact hp.sublist (List.take_sublist _ _)
 ·intro k hk
  obtain ⟨p, hm, rfl⟩ := bU.1 hk
  obtain ⟨i, hi, he⟩ := aJ hm
  rw [lN] at he
  rw [aI] at hi
  have hle : plc l x.key <= (if cT l x.key then plc l x.key + 1 else plc l x.key) := by split <;> omega
  have h1 := xL (l := bG l) (k := x.key) h (i := (if cT l x.key then plc l x.key + 1 else plc l x.key) + i) (cR hle (Nat.le_add_right _ _)) t13
  simp only [cI, he] at h1
  rcases Int.lt_or_eq_of_le h1 with h2 | h2
  ·exact h2
  exfalso
  have hin : cT l x.key = true := by
   unfold cT
   rw [decide_eq_true_eq, h2]
   exact bU.2 ⟨p, dC hm, rfl⟩
  obtain ⟨hb, hk'⟩ := (mE h).1 hin
  simp only [hin, if_true] at he hi
  have := iG h (plc l x.key) (plc l x.key + 1 + i) t1 t13
  simp only [cI, hk', he] at this
  omega
 ·rw [List.map_drop]; exact hp.sublist (nQ _ _)
 intro a ha b hb
 obtain ⟨p, hm, rfl⟩ := bU.1 ha
 obtain ⟨i, hi, he⟩ := aJ hm
 rw [iJ] at he
 rw [aB] at hi
 have h1 := tF (l := bG l) (k := x.key) (i := i) (by unfold plc at hi; omega)
 simp only [cI, he] at h1
 rcases bV.1 hb with rfl | hb
 ·exact h1
 obtain ⟨q, hq, rfl⟩ := bU.1 hb
 obtain ⟨j, hj, he'⟩ := aJ hq
 rw [lN] at he'
 rw [aI] at hj
 have hle : plc l x.key <= (if cT l x.key then plc l x.key + 1 else plc l x.key) := by split <;> omega
 have h2 := xL (l := bG l) (k := x.key) h (i := (if cT l x.key then plc l x.key + 1 else plc l x.key) + j) (cR hle (Nat.le_add_right _ _)) t13
 simp only [cI, he'] at h2
 omega
theorem qK {l : List PairT} (h : asc (bG l) = true) {k : Int} {p : PairT} (hp : p ∈ l) : p ∈ l.take (plc l k) ↔ p.key < k := by
 constructor
 ·intro hm
  obtain ⟨i, hi, he⟩ := aJ hm
  rw [iJ] at he
  rw [aB] at hi
  have h1 := tF (l := bG l) (k := k) (i := i) (by unfold plc at hi; omega)
  simpa only [cI, he] using h1
 intro hlt
 obtain ⟨i, hi, rfl⟩ := aJ hp
 have h1 : i < plc l k := by
  rcases fB i (plc l k) with h2 | h2
  ·exact h2
  have := xL (l := bG l) (k := k) h (i := i) h2 (by simpa using hi)
  simp only [cI] at this
  omega
 rw [dH]
 exact ⟨i, t1, rfl⟩
theorem aCv {l : List PairT} (h : asc (bG l) = true) (x p : PairT) : p ∈ hH l x ↔ p = x \/ (p ∈ l /\ p.key ≠ x.key) := by
 have hd : p ∈ l.drop (if cT l x.key then plc l x.key + 1 else plc l x.key) ↔ p ∈ l /\ x.key < p.key := by
  constructor
  ·intro hm
   refine ⟨dC hm, ?_⟩
   have := fD.1 (rX h x)
   unfold hH bG at this
   rw [dW, mN] at this
   exact (fR.1 (cO.1 this).2.1).1 _ (List.mem_map_of_mem hm)
  rintro ⟨hm, hlt⟩
  obtain ⟨i, hi, rfl⟩ := aJ hm
  have hnot : ¬ l[i] ∈ l.take (plc l x.key) := λ hc => by have := (qK h hm).1 hc; omega
  have h1 : plc l x.key <= i := by
   rcases fB i (plc l x.key) with h2 | h2
   ·exact absurd (by rw [dH]; exact ⟨i, t1, rfl⟩) hnot
   exact h2
  rw [dS]
  split
  ·rename_i hin
   obtain ⟨hb, hk⟩ := (mE h).1 hin
   have hne : i ≠ plc l x.key := by rintro rfl; omega
   exact ⟨i - (plc l x.key + 1), t1, by congr 1; omega⟩
  exact ⟨i - plc l x.key, t1, by congr 1; omega⟩
 unfold hH
 rw [bE, bV, hd]
 constructor
 ·rintro (h1 | rfl | ⟨h1, h2⟩)
  ·have hm := cN h1
   have := (qK h hm).1 h1
   exact .inr ⟨hm, t1⟩
  ·exact .inl rfl
  exact .inr ⟨h1, t1⟩
 rintro (rfl | ⟨h1, h2⟩)
 ·exact .inr (.inl rfl)
 rcases Int.lt_or_gt_of_ne h2 with h3 | h3
 ·exact .inl ((qK h h1).2 h3)
 exact .inr (.inr ⟨h1, h3⟩)
theorem wT {l : List PairT} {x : PairT} : (hH l x).length <= l.length + 1 := by
 unfold hH
 simp only [aA, aB, aG, aI]
 split <;> omega
theorem aNj {l : List PairT} {k : Int} : (nW l k).length <= l.length := by
 unfold nW
 split
 ·simp; omega
 exact dD _
end Go.Px
namespace Go.Px
theorem aHc {l : List Int} {k : Int} {n : Nat} (h : n <= fG l k) (hn : n < l.length) (hl : l[n] < k) : n + 1 <= fG l k := by
 rcases kT h with he | he
 ·have := sC (l := l) (k := k) t1
  simp only [<- he] at this
  omega
 omega
theorem aAe {l : List Int} {k : Int} {n : Nat} (h : n <= fG l k) (hs : l.length <= n \/ ∃ hn : n < l.length, k <= l[n]) : fG l k = n := by
 rcases hs with hs | ⟨hn, hs⟩
 ·have := xM l k; omega
 rcases kT h with he | he
 ·exact he.symm
 have := tF he; omega
theorem aMe {l : List Int} {k : Int} {n : Nat} (h : n <= gW l k) (hn : n < l.length) (hl : l[n] <= k) : n + 1 <= gW l k := by
 rcases kT h with he | he
 ·have := vS (l := l) (k := k) t1
  simp only [<- he] at this
  omega
 omega
theorem aGr {l : List Int} {k : Int} {n : Nat} (h : n <= gW l k) (hs : l.length <= n \/ ∃ hn : n < l.length, k < l[n]) : gW l k = n := by
 rcases hs with hs | ⟨hn, hs⟩
 ·have := rK l k; omega
 rcases kT h with he | he
 ·exact he.symm
 have := aDi he; omega
theorem yL {l : List Int} {k : Int} {n : Nat} (h : ∀ x ∈ l.take n, x ≠ k) (hn : n < l.length) (hl : l[n] ≠ k) : ∀ x ∈ l.take (n + 1), x ≠ k := by
 rw [dO hn]
 intro x hx
 rcases bE.1 hx with hx | hx
 ·exact h x hx
 simp at hx; subst hx; exact hl
theorem mem_end {l : List Int} {k : Int} {n : Nat} (h : ∀ x ∈ l.take n, x ≠ k) (hn : l.length <= n) : decide (k ∈ l) = false := by
 rw [aE hn] at h
 exact decide_eq_false λ hm => h k hm rfl
theorem pW {α : Type} {p : α -> Bool} {l : List α} {k : Nat} (h : (l.take k).all p = true) (hk : k < l.length) (hp : p l[k] = true) : (l.take (k + 1)).all p = true := by
 rw [dO hk, List.all_append, h]; simp [hp]
theorem xI {α : Type} {p : α -> Bool} {l : List α} {k : Nat} (hk : k < l.length) (hp : p l[k] = false) : l.all p = false := by
 rw [List.all_eq_false]; exact ⟨l[k], aC hk, by simp [hp]⟩
theorem wL {α : Type} {p : α -> Bool} {l : List α} {k : Nat} (h : (l.take k).all p = true) (hk : l.length <= k) : l.all p = true := by rwa [aE hk] at h
theorem aIn {l : List Int} {k : Nat} (hk : k < l.length) (h : nD l[k] = false) : bR l = false := by rw [bR, xI hk h]; rfl
theorem zI {l : List Int} {k : Nat} (h0 : 0 < k) (hk : k < l.length) (h : ¬ l[k - 1]'t1 < l[k]) : bR l = false := by rw [bR, asc_not h0 hk h, cX]
theorem aIo {l : List Int} {k : Nat} (h1 : (l.take k).all nD = true) (h2 : asc (l.take k) = true) (hk : l.length <= k) : bR l = true := by
 rw [aE hk] at h1 h2
 rw [bR, h1, h2]; rfl
theorem aOx {l : List PairT} {x : PairT} (h : cT l x.key = true) (hb : plc l x.key < l.length) : l.set (plc l x.key) x = hH l x := by
 unfold hH
 rw [if_pos h, bY, if_pos hb]
theorem aJu {l : List PairT} {x : PairT} (h : cT l x.key = false) : l.take (plc l x.key) ++ ([x] ++ l.drop (plc l x.key)) = hH l x := by
 unfold hH
 simp [h]
theorem mJ {l : List PairT} (h : asc (bG l) = true) {k : Int} (hb : plc l k < l.length) (he : l[plc l k].key = k) : cT l k = true := (mE h).2 ⟨hb, he⟩
theorem nY {l : List PairT} (h : asc (bG l) = true) {k : Int} (he : ∀ hb : plc l k < l.length, l[plc l k].key ≠ k) : cT l k = false := by
 cases hc : cT l k with
 | false => rfl
 | true => obtain ⟨hb, h1⟩ := (mE h).1 hc; exact absurd h1 (he hb)
theorem pQ {l : List PairT} (h : bW l = true) : asc (bG l) = true := (bQ.1 (eM.1 h).2.2).2
theorem pR {l : List PairT} (h : bW l = true) : l.length <= 24 := (eM.1 h).1
theorem aBh {l : List PairT} {k : Nat} (hk : k < l.length) (h : fA l[k].val = false) : bW l = false := by
 unfold bW
 rw [xI (p := λ p => fA p.val) hk h]; simp
theorem aBz {l : List PairT} {k : Int} (h : cT l k = true) : l.take (plc l k) ++ l.drop (plc l k + 1) = nW l k := by simp [nW, h]
theorem aEg {l : List PairT} {k : Int} (h : cT l k = false) : nW l k = l := by simp [nW, h]
end Go.Px
namespace Go.Px
theorem yB {l : List PairT} (h : asc (bG l) = true) {k : Int} (hb : plc l k < l.length) : decide (l[plc l k].key = k) = cT l k := by
 by_cases he : l[plc l k].key = k
 ·rw [decide_eq_true he, mJ h hb he]
 rw [decide_eq_false he, nY h (λ _ => he)]
theorem yC {l : List PairT} (h : asc (bG l) = true) {k : Int} (hb : l.length <= plc l k) : cT l k = false := nY h (λ hb' => by omega)
end Go.Px
namespace Go.Px
theorem aFd {l : List PairT} (h : asc (bG l) = true) {k : Int} {i : Nat} (hi : i < l.length) (hk : l[i].key = k) : lW l k = some l[i].val := by
 subst hk
 exact (aLr h).2 (aC hi)
theorem aCh {l : List PairT} {k : Int} (h : k ∉ bG l) : lW l k = none := by
 rw [aLq]
 intro p hp he
 exact h (he ▸ List.mem_map_of_mem hp)
end Go.Px
end
section
namespace Go.Px
structure PgT where
 keys : List Int
 kids : List Int
 vals : List Int
deriving DecidableEq
structure TrT where
 root : Int
 pages : List PgT
deriving DecidableEq
def gP (T : TrT) (i : Int) : PgT := T.pages.getD i.toNat ⟨[], [], []⟩
def inT (T : TrT) (i : Int) : Bool := decide (0 <= i) && decide (i < (T.pages.length : Int))
theorem aX {T : TrT} {i : Int} : inT T i = true ↔ 0 <= i /\ i < (T.pages.length : Int) := by simp [inT]
def frB (T : TrT) (i : Int) : Bool :=
 decide ((gP T i).keys.length <= 4) && bR (gP T i).keys && (decide (i = T.root) || decide (2 <= (gP T i).keys.length)) &&
  (if (gP T i).kids = [] then decide ((gP T i).vals.length = (gP T i).keys.length) && (gP T i).vals.all fA
   else decide ((gP T i).vals = []) && decide (1 <= (gP T i).keys.length) && decide ((gP T i).kids.length = (gP T i).keys.length + 1))
def dQ (p : PgT) (low : Int) (k : Nat) : Int := if k = 0 then low else p.keys.getD (k - 1) 0
def cH (p : PgT) (high : Int) (k : Nat) : Int := if k < p.keys.length then p.keys.getD k 0 else high
def lE (p : PgT) (low high : Int) : Bool := p.keys.all λ k => decide (low <= k) && decide (k < high)
def okB (T : TrT) : Nat -> Int -> Int -> Int -> Bool
 | 0, _, _, _ => false
 | d + 1, i, low, high => inT T i && frB T i && lE (gP T i) low high &&
  (if d = 0 then decide ((gP T i).kids = []) else decide ((gP T i).kids ≠ []) && (List.range (gP T i).kids.length).all λ k => okB T d ((gP T i).kids.getD k 0) (dQ (gP T i) low k) (cH (gP T i) high k))
def aS (T : TrT) : Nat -> Int -> List Int
 | 0, _ => []
 | d + 1, i => i :: (gP T i).kids.flatMap (aS T d)
def aN (T : TrT) : Bool := (decide (1 <= T.pages.length) && decide (T.pages.length <= 16)) && inT T T.root &&
 [1, 2, 3].any λ d => okB T d T.root 0 100 && decide (aS T d T.root).Nodup && decide ((aS T d T.root).length = T.pages.length)
section
variable {T : TrT}
theorem dL {d : Nat} {i low high : Int} : okB T (d + 1) i low high = true ↔ inT T i = true /\ frB T i = true /\ lE (gP T i) low high = true /\
  ((d = 0 /\ (gP T i).kids = []) \/ (d ≠ 0 /\ (gP T i).kids ≠ [] /\ ∀ k, k < (gP T i).kids.length -> okB T d ((gP T i).kids.getD k 0) (dQ (gP T i) low k) (cH (gP T i) high k) = true)) := by
 simp only [okB, aW]
 by_cases hd : d = 0
 ·rw [if_pos hd]; simp [hd, and_assoc]
 rw [if_neg hd]; simp [hd, and_assoc]
theorem iX {d : Nat} {i low high : Int} (h : okB T d i low high = true) : inT T i = true := by
 cases d with
 | zero => simp [okB] at h
 | succ d => exact (dL.1 h).1
theorem pL {d : Nat} {i low high : Int} (h : okB T (d + 1) i low high = true) : (gP T i).kids = [] ↔ d = 0 := by
 rcases (dL.1 h).2.2.2 with ⟨h1, h2⟩ | ⟨h1, h2, _⟩
 ·simp [h1, h2]
 simp [h1, h2]
theorem vR : ∀ {d : Nat} {i low high : Int}, okB T d i low high = true -> ∀ x ∈ aS T d i, inT T x = true
 | 0, _, _, _, h, _, _ => by simp [okB] at h
 | d + 1, i, low, high, h, x, hx => by
  simp only [aS] at hx
  rcases bV.1 hx with rfl | hx
  ·exact iX h
  obtain ⟨y, hy, hx⟩ := aZ.1 hx
  rcases (dL.1 h).2.2.2 with ⟨h1, h2⟩ | ⟨_, _, h3⟩
  ·rw [h2] at hy; simp at hy
  obtain ⟨k, hk, rfl⟩ := aJ hy
  have h4 := h3 k hk
  rw [aD, aL hk, fC] at h4
  exact vR h4 x hx
def vT (f : Nat -> Int -> List Int -> Int -> Option (List Int × Int)) : Nat -> List Int -> List Int -> Int -> Option (List Int × Int)
 | _, [], seen, ld => some (seen, ld)
 | k, x :: xs, seen, ld => match f k x seen ld with
  | none => none
  | some (s, l) => vT f (k + 1) xs s l
def kD (T : TrT) : Nat -> Int -> Int -> Int -> List Int -> Int -> Option (List Int × Int)
 | 0, _, _, _, _, _ => none
 | n + 1, i, low, high, seen, ld =>
  if !inT T i || decide (i ∈ seen) then none
  else if !frB T i || !lE (gP T i) low high then none
  else if (gP T i).kids = [] then (if ld < 0 \/ ld = 2 - (n : Int) then some (seen ++ [i], 2 - (n : Int)) else none)
  else vT (λ k x s l => kD T n x (dQ (gP T i) low k) (cH (gP T i) high k) s l) 0 (gP T i).kids (seen ++ [i]) ld
theorem vis_k {f : Nat -> Int -> List Int -> Int -> Option (List Int × Int)} {D : Nat -> Prop} {G : Nat -> Nat -> Int -> Bool} {sb : Nat -> Int -> List Int} {V : Nat -> Int}
  (hf : ∀ k x s l s2 l2, f k x s l = some (s2, l2) ↔ ∃ d, D d /\ G d k x = true /\ (sb d x).Nodup /\ (∀ y ∈ sb d x, y ∉ s) /\ s2 = s ++ sb d x /\ l2 = V d /\ (l < 0 \/ l = V d)) (hv : ∀ d, D d -> 0 <= V d) (hi : ∀ d e, V d = V e -> d = e) :
  ∀ {xs : List Int} {k : Nat} {s : List Int} {l : Int} {s2 : List Int} {l2 : Int}, xs ≠ [] -> (vT f k xs s l = some (s2, l2) ↔ ∃ d, D d /\ (∀ j, j < xs.length -> G d (k + j) (xs.getD j 0) = true) /\ (xs.flatMap (sb d)).Nodup /\ (∀ y ∈ xs.flatMap (sb d), y ∉ s) /\ s2 = s ++ xs.flatMap (sb d) /\ l2 = V d /\ (l < 0 \/ l = V d))
 | [], _, _, _, _, _, h => absurd rfl h
 | x :: xs, k, s, l, s2, l2, _ => by
  simp only [vT]
  cases hfx : f k x s l with
  | none =>
   simp only [reduceCtorEq, false_iff]
   rintro ⟨d, hd, h1, h2, h3, h4, h5, h6⟩
   rw [aK] at h2 h3
   have h2' := bP.1 h2
   have := (hf k x s l (s ++ sb d x) (V d)).2 ⟨d, hd, by simpa using h1 0 t11, h2'.1, λ y hy => h3 y (dZ _ hy), rfl, rfl, h6⟩
   rw [hfx] at this; cases this
  | some q =>
   obtain ⟨s3, l3⟩ := q
   obtain ⟨d, hd, a1, a2, a3, a4, a5, a6⟩ := (hf k x s l s3 l3).1 hfx
   subst a4 a5
   simp only
   by_cases hx : xs = []
   ·subst hx
    simp only [vT, Option.some.injEq, Prod.mk.injEq, aK, List.flatMap_nil, cS]
    constructor
    ·rintro ⟨rfl, rfl⟩
     exact ⟨d, hd, λ j hj => by
       have : j = 0 := by simpa using hj
       subst this; simpa using a1, a2, a3, rfl, rfl, a6⟩
    rintro ⟨e, he, c1, _, _, c4, c5, c6⟩
    have c1' := c1 0 t11
    have hde : d = e := by
     have := (hf k x s l (s ++ sb d x) (V d)).1 hfx
     rcases a6 with a6 | a6
     ·rcases c6 with c6 | c6
      ·subst c4 c5
       have h9 := (hf k x s l (s ++ sb e x) (V e)).2 ⟨e, he, by simpa using c1', by assumption, by assumption, rfl, rfl, .inl c6⟩
       rw [hfx] at h9; simp only [Option.some.injEq, Prod.mk.injEq] at h9
       exact hi _ _ h9.2
      have := hv e he; omega
     rcases c6 with c6 | c6
     ·have := hv d hd; omega
     exact hi _ _ (a6.symm.trans c6)
    subst hde; exact ⟨c4.symm, c5.symm⟩
   rw [vis_k hf hv hi hx]
   constructor
   ·rintro ⟨e, he, b1, b2, b3, b4, b5, b6⟩
    have hde : d = e := by
     rcases b6 with b6 | b6
     ·have := hv d hd; omega
     exact hi _ _ b6
    subst hde
    refine ⟨d, hd, λ j hj => ?_, ?_, λ y hy => ?_, by rw [b4, aK, bO], b5, a6⟩
    ·cases j with
     | zero => simpa using a1
     | succ j => have := b1 j (by simpa using hj); rw [show k + (j + 1) = k + 1 + j by omega]; simpa using this
    ·rw [aK]
     refine bP.2 ⟨a2, b2, λ y hy z hz e => ?_⟩
     subst e; exact b3 y hz (eQ _ hy)
    rw [aK] at hy
    rcases bE.1 hy with hy | hy
    ·exact a3 y hy
    intro hs; exact b3 y hy (dZ _ hs)
   rintro ⟨e, he, b1, b2, b3, b4, b5, b6⟩
   rw [aK] at b2 b3
   have b2' := bP.1 b2
   have hde : d = e := by
    have h9 := (hf k x s l (s ++ sb e x) (V e)).2 ⟨e, he, by simpa using b1 0 t11, b2'.1, λ y hy => b3 y (dZ _ hy), rfl, rfl, b6⟩
    rw [hfx] at h9; simp only [Option.some.injEq, Prod.mk.injEq] at h9
    exact hi _ _ h9.2
   subst hde
   refine ⟨d, hd, λ j hj => ?_, b2'.2.1, λ y hy hs => ?_, by rw [b4, aK, bO], b5, .inr rfl⟩
   ·have := b1 (j + 1) (by simpa using hj); rw [show k + 1 + j = k + (j + 1) by omega]; simpa using this
   rcases bE.1 hs with hs | hs
   ·exact b3 y (eQ _ hy) hs
   exact b2'.2.2 y hs y hy rfl
theorem xB : ∀ {n : Nat} {i low high : Int} {seen : List Int} {ld : Int} {s2 : List Int} {l2 : Int}, n <= 3 ->
  (kD T n i low high seen ld = some (s2, l2) ↔ ∃ d, (1 <= d /\ d <= n) /\ okB T d i low high = true /\ (aS T d i).Nodup /\ (∀ y ∈ aS T d i, y ∉ seen) /\ s2 = seen ++ aS T d i /\ l2 = 2 - (n : Int) + d /\ (ld < 0 \/ ld = 2 - (n : Int) + d))
 | 0, _, _, _, _, _, _, _, _ => by
  simp only [kD, reduceCtorEq, false_iff]
  rintro ⟨d, hd, _⟩; omega
 | n + 1, i, low, high, seen, ld, s2, l2, hn => by
  simp only [kD]
  by_cases h1 : inT T i = true
  ·by_cases h2 : i ∈ seen
   ·rw [if_pos (by simp [h2])]
    simp only [reduceCtorEq, false_iff]
    rintro ⟨d, hd, h3, _, h4, _⟩
    cases d with
    | zero => omega
    | succ d => exact h4 i (by simp [aS]) h2
   rw [if_neg (by simp [h1, h2])]
   by_cases h3 : frB T i = true /\ lE (gP T i) low high = true
   ·rw [if_neg (by simp [h3.1, h3.2])]
    by_cases h4 : (gP T i).kids = []
    ·rw [if_pos h4]
     constructor
     ·intro h
      split at h
      ·rename_i hl
       simp only [Option.some.injEq, Prod.mk.injEq] at h
       refine ⟨1, ⟨t1, t1⟩, dL.2 ⟨h1, h3.1, h3.2, .inl ⟨rfl, h4⟩⟩, ?_, ?_, ?_, ?_, ?_⟩
       ·simp [aS, h4]
       ·intro y hy; simp [aS, h4] at hy; subst hy; exact h2
       ·rw [<- h.1]; simp [aS, h4]
       ·rw [<- h.2]; omega
       omega
      cases h
     rintro ⟨d, hd, h5, _, _, h6, h7, h8⟩
     cases d with
     | zero => omega
     | succ d =>
      have hd0 := (pL h5).1 h4
      subst hd0
      rw [if_pos t1, h6, h7]
      simp [aS, h4]; omega
    rw [if_neg h4]
    have key := vis_k (f := λ k x s l => kD T n x (dQ (gP T i) low k) (cH (gP T i) high k) s l) (D := λ d => 1 <= d /\ d <= n) (G := λ d k x => okB T d x (dQ (gP T i) low k) (cH (gP T i) high k)) (sb := aS T) (V := λ d => 2 - (n : Int) + d)
     (λ k x s l s2 l2 => xB t1) (λ d hd => by omega) (λ d e h => by omega) (xs := (gP T i).kids) (k := 0) (s := seen ++ [i]) (l := ld) (s2 := s2) (l2 := l2) h4
    rw [key]
    constructor
    ·rintro ⟨d, hd, b1, b2, b3, b4, b5, b6⟩
     refine ⟨d + 1, ⟨t1, t1⟩, dL.2 ⟨h1, h3.1, h3.2, .inr ⟨t1, h4, λ k hk => by have := b1 k hk; rwa [jP] at this⟩⟩, ?_, ?_, ?_, ?_, ?_⟩
     ·simp only [aS]
      exact cK.2 ⟨λ hm => b3 i hm t11, b2⟩
     ·intro y hy
      simp only [aS] at hy
      rcases bV.1 hy with rfl | hy
      ·exact h2
      intro hs; exact b3 y hy (dZ _ hs)
     ·rw [b4]; simp [aS]
     ·rw [b5]; simp; omega
     simp; omega
    rintro ⟨d, hd, b1, b2, b3, b4, b5, b6⟩
    cases d with
    | zero => omega
    | succ d =>
     rcases (dL.1 b1).2.2.2 with ⟨_, c2⟩ | ⟨c1, _, c3⟩
     ·exact absurd c2 h4
     simp only [aS] at b2 b3 b4
     have b2' := cK.1 b2
     refine ⟨d, ⟨t1, t1⟩, λ k hk => by have := c3 k hk; rwa [jP], b2'.2, λ y hy hs => ?_, ?_, ?_, ?_⟩
     ·rcases bE.1 hs with hs | hs
      ·exact b3 y (bJ _ hy) hs
      rw [aU] at hs; subst hs; exact b2'.1 hy
     ·rw [b4]; simp
     ·rw [b5]; simp; omega
     simp at b6; omega
   rw [if_pos (by cases ha : frB T i <;> cases hb : lE (gP T i) low high <;> simp_all)]
   simp only [reduceCtorEq, false_iff]
   rintro ⟨d, hd, h5, _⟩
   cases d with
   | zero => omega
   | succ d => exact h3 ⟨(dL.1 h5).2.1, (dL.1 h5).2.2.1⟩
  rw [if_pos (by simp [h1])]
  simp only [reduceCtorEq, false_iff]
  rintro ⟨d, hd, h5, _⟩
  exact h1 (iX h5)
end
end Go.Px
namespace Go.Px
section
variable {T : TrT}
theorem aEa {L : List Int} {n : Nat} (hn : L.Nodup) (hr : ∀ x ∈ L, 0 <= x /\ x < (n : Int)) : (∀ i, i < n -> (i : Int) ∈ L) ↔ L.length = n := by
 have hR : ((List.range n).map λ i : Nat => (i : Int)).Nodup := by
  exact List.Pairwise.map _ (λ a b (h : a ≠ b) (e : (a : Int) = (b : Int)) => h t1) List.nodup_range
 have h1 : L ⊆ (List.range n).map λ i : Nat => (i : Int) := λ x hx => by
  have := hr x hx
  exact bU.2 ⟨x.toNat, List.mem_range.2 t1, t1⟩
 have h2 := List.Nodup.length_le_of_subset hn h1
 simp only [bC, List.length_range] at h2
 constructor
 ·intro h
  have h3 : ((List.range n).map λ i : Nat => (i : Int)) ⊆ L := λ x hx => by
   obtain ⟨i, hi, rfl⟩ := bU.1 hx
   exact h i (List.mem_range.1 hi)
  have h4 := List.Nodup.length_le_of_subset hR h3
  simp only [bC, List.length_range] at h4
  omega
 intro h i hi
 apply Classical.byContradiction
 intro hm
 have h5 : ((i : Int) :: L).Nodup := cK.2 ⟨hm, hn⟩
 have h6 : ((i : Int) :: L) ⊆ (List.range n).map λ i : Nat => (i : Int) := λ x hx => by
  rcases bV.1 hx with rfl | hx
  ·exact bU.2 ⟨i, List.mem_range.2 hi, rfl⟩
  exact h1 hx
 have h7 := List.Nodup.length_le_of_subset h5 h6
 simp at h7; omega
theorem lJ : aN T = true ↔ (1 <= T.pages.length /\ T.pages.length <= 16) /\ ∃ d, (1 <= d /\ d <= 3) /\ okB T d T.root 0 100 = true /\ (aS T d T.root).Nodup /\ (aS T d T.root).length = T.pages.length := by
 constructor
 ·intro h
  simp only [aN, aW, decide_eq_true_eq, List.any_eq_true] at h
  obtain ⟨⟨h1, h2⟩, d, hd, ⟨h3, h4⟩, h5⟩ := h
  refine ⟨h1, d, ?_, h3, h4, h5⟩
  simp at hd; omega
 rintro ⟨h1, d, hd, h3, h4, h5⟩
 simp only [aN, aW, decide_eq_true_eq, List.any_eq_true]
 exact ⟨⟨h1, iX h3⟩, d, by simp; omega, ⟨h3, h4⟩, h5⟩
theorem aDl (h : kD T 3 T.root 0 100 [] (-1) = none) : aN T = false := by
 cases hv : aN T with
 | false => rfl
 | true =>
  obtain ⟨_, d, hd, h3, h4, _⟩ := lJ.1 hv
  have := (xB (T := T) (n := 3) (i := T.root) (low := 0) (high := 100) (seen := []) (ld := -1) (s2 := [] ++ aS T d T.root) (l2 := 2 - ((3 : Nat) : Int) + d) t1).2 ⟨d, hd, h3, h4, t11, rfl, rfl, .inl t1⟩
  rw [h] at this; cases this
theorem aBj {s : List Int} {l : Int} (h1 : 1 <= T.pages.length /\ T.pages.length <= 16) (h : kD T 3 T.root 0 100 [] (-1) = some (s, l)) : aN T = true ↔ ∀ i, i < T.pages.length -> (i : Int) ∈ s := by
 obtain ⟨d, hd, h3, h4, _, h5, _, _⟩ := (xB t1).1 h
 rw [List.nil_append] at h5
 subst h5
 have hin := λ x hx => aX.1 (vR h3 x hx)
 rw [aEa h4 hin]
 constructor
 ·intro hv
  obtain ⟨_, d2, hd2, g3, g4, g5⟩ := lJ.1 hv
  have := (xB (T := T) (n := 3) (i := T.root) (low := 0) (high := 100) (seen := []) (ld := -1) (s2 := [] ++ aS T d2 T.root) (l2 := 2 - ((3 : Nat) : Int) + d2) t1).2 ⟨d2, hd2, g3, g4, t11, rfl, rfl, .inl t1⟩
  rw [h] at this
  simp only [List.nil_append, Option.some.injEq, Prod.mk.injEq] at this
  rw [this.1]; exact g5
 intro hl
 exact lJ.2 ⟨h1, d, hd, h3, h4, hl⟩
def hgt (T : TrT) : Nat -> Int -> Nat
 | 0, _ => 0
 | f + 1, i => if inT T i = true /\ (gP T i).kids ≠ [] then 1 + hgt T f ((gP T i).kids.getD 0 0) else 0
def bH (T : TrT) : Nat := 1 + hgt T 3 T.root
def eH (l : List Int) (a b : Int) : Bool := l.all λ x => decide (a <= x) && decide (x <= b)
def kW (T : TrT) : Nat -> Int -> Int -> Int -> Bool
 | 0, _, _, _ => false
 | d + 1, i, low, hi => bR (gP T i).keys && decide ((gP T i).keys.length <= 4) && eH (gP T i).keys low hi && (decide (i = T.root) || decide (2 <= (gP T i).keys.length)) &&
  (if d = 0 then decide ((gP T i).kids = []) && decide ((gP T i).vals.length = (gP T i).keys.length) && eH (gP T i).vals (-1000) 1000
   else decide ((gP T i).keys ≠ []) && decide ((gP T i).vals = []) && decide ((gP T i).kids.length = (gP T i).keys.length + 1) && eH (gP T i).kids 0 ((T.pages.length : Int) - 1) &&
    (List.range (gP T i).kids.length).all λ k => kW T d ((gP T i).kids.getD k 0) (dQ (gP T i) low k) (cH (gP T i) (hi + 1) k - 1))
theorem aHo {p : PgT} {low hi : Int} : lE p low (hi + 1) = eH p.keys low hi := by
 unfold lE eH
 congr 1
 funext k
 congr 1
 exact decide_eq_decide.2 t1
theorem aPl {l : List Int} : l.all fA = eH l (-1000) 1000 := by
 unfold eH
 congr 1
theorem vC : ∀ {d : Nat} {i low hi : Int}, inT T i = true -> kW T d i low hi = okB T d i low (hi + 1)
 | 0, _, _, _, _ => rfl
 | d + 1, i, low, hi, h => by
  simp only [kW, okB, h, Bool.true_and]
  rw [aHo]
  by_cases hd : d = 0
  ·subst hd
   simp only [if_true]
   by_cases hk : (gP T i).kids = []
   ·unfold frB
    rw [if_pos hk, aPl]
    simp only [hk, decide_true, Bool.and_true, Bool.true_and]
    cases bR (gP T i).keys <;> cases decide ((gP T i).keys.length <= 4) <;> cases eH (gP T i).keys low hi <;> cases (decide (i = T.root) || decide (2 <= (gP T i).keys.length)) <;> simp
   simp [hk]
  rw [if_neg hd, if_neg hd]
  by_cases hk : (gP T i).kids = []
  ·simp [hk]
  unfold frB
  rw [if_neg hk]
  have e1 : (gP T i).kids.length = (gP T i).keys.length + 1 -> (eH (gP T i).kids 0 ((T.pages.length : Int) - 1) && (List.range (gP T i).kids.length).all λ k => kW T d ((gP T i).kids.getD k 0) (dQ (gP T i) low k) (cH (gP T i) (hi + 1) k - 1)) = (List.range (gP T i).kids.length).all λ k => okB T d ((gP T i).kids.getD k 0) (dQ (gP T i) low k) (cH (gP T i) (hi + 1) k) := λ _ => by
   rw [dU]
   simp only [aW, dV, List.mem_range]
   constructor
   ·rintro ⟨a, b⟩ k hk2
    have hin : inT T ((gP T i).kids.getD k 0) = true := by
     rw [aD, aL hk2, fC]
     have := dV.1 a _ (aC hk2)
     simp at this
     exact aX.2 ⟨this.1, t1⟩
    have := b k hk2
    rw [vC hin] at this
    rwa [show cH (gP T i) (hi + 1) k - 1 + 1 = cH (gP T i) (hi + 1) k by omega] at this
   intro a
   refine ⟨dV.2 λ x hx => ?_, λ k hk2 => ?_⟩
   ·obtain ⟨k, hk2, rfl⟩ := aJ hx
    have := iX (a k hk2)
    rw [aD, aL hk2, fC] at this
    have := aX.1 this
    simp; omega
   rw [vC (iX (a k hk2)), show cH (gP T i) (hi + 1) k - 1 + 1 = cH (gP T i) (hi + 1) k by omega]
   exact a k hk2
  have e2 : decide ((gP T i).keys ≠ []) = decide (1 <= (gP T i).keys.length) := by
   apply decide_eq_decide.2
   cases (gP T i).keys <;> simp
  by_cases hl : (gP T i).kids.length = (gP T i).keys.length + 1
  ·rw [<- e1 hl, e2]
   simp only [hl, decide_true, Bool.and_true, Bool.true_and, hk, ne_eq, not_false_eq_true]
   generalize (eH (gP T i).kids 0 ((T.pages.length : Int) - 1)) = x1
   generalize ((List.range ((gP T i).keys.length + 1)).all λ k => kW T d ((gP T i).kids.getD k 0) (dQ (gP T i) low k) (cH (gP T i) (hi + 1) k - 1)) = x2
   cases bR (gP T i).keys <;> cases decide ((gP T i).keys.length <= 4) <;> cases eH (gP T i).keys low hi <;> cases (decide (i = T.root) || decide (2 <= (gP T i).keys.length)) <;> cases decide (1 <= (gP T i).keys.length) <;> cases decide ((gP T i).vals = []) <;> cases x1 <;> cases x2 <;> rfl
  simp [hl]
theorem aHl : ∀ {d f : Nat} {i low high : Int}, okB T (d + 1) i low high = true -> d <= f -> hgt T f i = d
 | 0, f, i, low, high, h, _ => by
  have hk := (pL h).2 rfl
  cases f with
  | zero => rfl
  | succ f => simp only [hgt]; rw [if_neg (by simp [hk])]
 | d + 1, 0, i, low, high, h, hf => by omega
 | d + 1, f + 1, i, low, high, h, hf => by
  have hk : (gP T i).kids ≠ [] := λ e => by have := (pL h).1 e; omega
  simp only [hgt]
  rw [if_pos ⟨iX h, hk⟩]
  rcases (dL.1 h).2.2.2 with ⟨h1, _⟩ | ⟨_, _, h3⟩
  ·omega
  rw [aHl (h3 0 (by cases hh : (gP T i).kids with | nil => exact absurd hh hk | cons a b => simp)) t1]; omega
theorem aBi : aN T = ((decide (1 <= T.pages.length) && decide (T.pages.length <= 16)) && inT T T.root && decide (bH T <= 3) && kW T (bH T) T.root 0 99 && decide (aS T (bH T) T.root).Nodup && decide ((aS T (bH T) T.root).length = T.pages.length)) := by
 rw [dU]
 constructor
 ·intro hv
  obtain ⟨h1, d, hd, h3, h4, h5⟩ := lJ.1 hv
  have hh : bH T = d := by
   cases d with
   | zero => omega
   | succ d => unfold bH; rw [aHl h3 t1]; omega
  have hin := iX h3
  simp only [aW, decide_eq_true_eq, hh]
  refine ⟨⟨⟨⟨⟨h1, hin⟩, hd.2⟩, ?_⟩, h4⟩, h5⟩
  rw [vC hin]; exact h3
 intro h
 simp only [aW, decide_eq_true_eq] at h
 obtain ⟨⟨⟨⟨⟨h1, h2⟩, h3⟩, h4⟩, h5⟩, h6⟩ := h
 rw [vC h2] at h4
 exact lJ.2 ⟨h1, bH T, ⟨by unfold bH; omega, h3⟩, h4, h5, h6⟩
end
end Go.Px
end
