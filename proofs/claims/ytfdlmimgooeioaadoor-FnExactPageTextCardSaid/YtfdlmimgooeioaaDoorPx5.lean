/- Own layer: drawn regions with effects, readers of drawn bytes. Plain theorems; no conditions. -/
import Derived.Test.YtfdlmimgooeioaaDoorPx4
import Derived.OrdersHeld
import Derived.Lib.Zigzag
set_option linter.unusedVariables false
set_option linter.unusedSimpArgs false
namespace Go.Px
open Go.RowKit
/-! ### Regions that draw their order, with operations that change memory -/
variable {P : Program} {n : Nat} {ops rest : List Oper} {Q : Post} {σ : Sig} {w : World} {S : World → Prop} {K : Sig → World → Prop}
def onlyN (K : Sig → World → Prop) : Post
  | .normal, σ, w => K σ w
  | _, _, _ => False
theorem onlyN_off {K K' : Sig → World → Prop} {e : Exit} (he : e ≠ .normal) {a : Act} {w : World} (h : lift n (onlyN K) e a w) : lift n (onlyN K') e a w := by
  obtain ⟨σ, _, h⟩ := h
  cases e <;> first | exact absurd rfl he | exact h.elim
theorem onlyN_imp {Q : Post} {e : Exit} {a : Act} {w : World} (h : lift n (onlyN fun σ w => Q .normal σ w) e a w) : lift n Q e a w := by
  obtain ⟨σ, ha, h⟩ := h
  cases e <;> first | exact ⟨σ, ha, h⟩ | exact h.elim
theorem wp_mono2 {o : Oper} {a : Act} {w : World} {Q Q' : Exit → Act → World → Prop} {K K' : Act → World → Prop} (h : ∀ a w, K a w → K' a w) (hq : ∀ e a w, e ≠ .normal → Q e a w → Q' e a w)
    (hh : o.wp P a w K Q) : o.wp P a w K' Q' := by
  unfold Oper.wp at *
  generalize (execOp a.eval o).run P w = r at *
  have hl : LetsOut Q → LetsOut Q' := fun ⟨a, w, h⟩ => ⟨a, w, hq _ _ _ (by simp) h⟩
  cases r with
  | ok n w' =>
    cases n <;> simp only [Oper.upon] at hh ⊢ <;>
      first
        | exact h _ _ hh
        | exact Calls.mono hh (fun e w'' he => by cases e <;> first | exact h _ _ he | exact hq _ _ _ (by simp) he | exact hl he)
        | exact Rows.mono hh (fun _ _ he => h _ _ he)
  | halt x w' => cases x <;> simp only [Oper.upon] at hh ⊢ <;> first | exact hq _ _ _ (by simp) hh | exact hh

structure AO (P : Program) (n : Nat) (ops : List Oper) (S : World → Prop) (K : Sig → World → Prop) (fuel : Nat) (ls : List Bool) (σ : Sig) (w : World) : Prop where
  out : S w → ∀ a, Agree n a σ → wpAnyH P .any ops.toArray (lift n (onlyN K)) S fuel ls.toArray a w
theorem C.any {id : Nat} {l : List Oper} {f : Nat} {ls : List Bool} (S : World → Prop) (hm : P.follows .mixedOrders = true) (hf : l.length = f) (hl : List.replicate f false = ls) (hS : ∀ w1, w.grownBy w1 none → S w1)
    (h : ∀ w1, w.grownBy w1 none → AO P n l S (fun σ w => Q .normal σ w) f ls σ w1) : C P n (.region id l.toArray true) Q σ w :=
  ⟨fun a ha => by
    have hg := kdrawn w
    refine wp_mono (Q := lift n (onlyN fun σ w => Q .normal σ w)) (wp_region_held (S := S) hm ?_) (fun e a w h => onlyN_imp h)
    have := (h _ hg).out (hS _ hg) a ha
    subst hf hl
    simpa using this⟩
theorem AO.nil {f : Nat} {ls : List Bool} (hr : Region.ready .any ops.toArray ls.toArray = []) (h : K σ w) : AO P n ops S K f ls σ w :=
  ⟨fun _ a ha => wpAnyH_done hr ⟨σ, ha, h⟩ f⟩
def takeB (ops : List Oper) (ls : List Bool) (i : Nat) : Bool := Region.noSelect ops.toArray && Region.free .any ops.toArray ls.toArray i && (Region.ready .any ops.toArray ls.toArray).contains i
theorem take_parts {ls : List Bool} {i : Nat} (h : takeB ops ls i = true) : Region.noSelect ops.toArray = true ∧ Region.free .any ops.toArray ls.toArray i = true ∧ (Region.ready .any ops.toArray ls.toArray).contains i = true := by
  simp only [takeB, Bool.and_eq_true] at h
  exact ⟨h.1.1, h.1.2, h.2⟩
theorem nth_get {l : List Oper} {i : Nat} {o : Oper} (h : nth l i = some o) : l.toArray[i]? = some o := by
  rw [List.getElem?_toArray]
  induction l generalizing i with
  | nil => cases h
  | cons a l ih => cases i with
    | zero => exact h
    | succ i => exact ih h
theorem AO.val (i : Nat) {f d : Nat} {ls ls' : List Bool} {op T pos after g} {v : Value} (hi : nth ops i = some ⟨some d, op, T, pos, after, g⟩) (hb : takeB ops ls i = true) (hl : ls.set i true = ls')
    (hg : gok ops σ g = true) (hv : ∀ w, S w → Ru P σ ⟨some d, op, T, pos, after, g⟩ w v) (hd : Nat.blt d n = true) (h : AO P n ops S K f ls' (upd σ d v) w) : AO P n ops S K (f + 1) ls σ w :=
  ⟨fun hS a ha => by
    obtain ⟨h1, h2, h3⟩ := take_parts hb
    refine wpAnyH_take (v := v) (nth_get hi) h1 h2 h3 (fun c a w h => ?_) (.inl ⟨gok_wanted ha hg (.inl rfl), fun w hw => by rw [ha.eval]; exact hv w hw⟩) hS ?_
    · obtain ⟨_, _, h⟩ := h; exact h.elim
    · subst hl
      have := h.out hS _ (ha.put hd v)
      simpa using this⟩
theorem AO.pass (i : Nat) {f d : Nat} {ls ls' : List Bool} {op T pos after j want o dj u} (hi : nth ops i = some ⟨some d, op, T, pos, after, some (j, want)⟩) (hb : takeB ops ls i = true) (hl : ls.set i true = ls')
    (h1 : nth ops j = some o) (h2 : o.dst = some dj) (h3 : σ dj = .bool u) (hg : (u == want) = false) (hd : Nat.blt d n = true)
    (h : AO P n ops S K f ls' (upd σ d undef) w) : AO P n ops S K (f + 1) ls σ w :=
  ⟨fun hS a ha => by
    obtain ⟨b1, b2, b3⟩ := take_parts hb
    refine wpAnyH_take (v := undef) (nth_get hi) b1 b2 b3 (fun c a w h => ?_) (.inr ⟨gok_wanted (b := false) ha (by simpa [gok, h1, h2, h3] using hg) (.inr ⟨j, want, o, dj, u, rfl, h1, h2, h3⟩), rfl⟩) hS ?_
    · obtain ⟨_, _, h⟩ := h; exact h.elim
    · subst hl
      have := h.out hS _ (ha.put hd undef)
      simpa using this⟩
theorem AO.passU (i : Nat) {f d : Nat} {ls ls' : List Bool} {op T pos after j want o dj} (hi : nth ops i = some ⟨some d, op, T, pos, after, some (j, want)⟩) (hb : takeB ops ls i = true) (hl : ls.set i true = ls')
    (h1 : nth ops j = some o) (h2 : o.dst = some dj) (h3 : σ dj = undef) (hd : Nat.blt d n = true)
    (h : AO P n ops S K f ls' (upd σ d undef) w) : AO P n ops S K (f + 1) ls σ w :=
  ⟨fun hS a ha => by
    obtain ⟨b1, b2, b3⟩ := take_parts hb
    refine wpAnyH_take (v := undef) (nth_get hi) b1 b2 b3 (fun c a w h => ?_) (.inr ⟨gok_undef ha h1 h2 h3, rfl⟩) hS ?_
    · obtain ⟨_, _, h⟩ := h; exact h.elim
    · subst hl
      have := h.out hS _ (ha.put hd undef)
      simpa using this⟩
theorem AO.part {f : Nat} {ls : List Bool} (d : Nat) (b : Bool) (hb : σ d = .bool b) (ht : b = true → AO P n ops S K f ls (upd σ d (.bool true)) w) (hf : b = false → AO P n ops S K f ls (upd σ d (.bool false)) w) : AO P n ops S K f ls σ w := by
  cases b with
  | true => have := ht rfl; rwa [upd_same hb] at this
  | false => have := hf rfl; rwa [upd_same hb] at this
theorem AO.partp {f : Nat} {ls : List Bool} (d : Nat) (p : Prop) [Decidable p] (hb : σ d = .bool (decide p)) (ht : p → AO P n ops S K f ls (upd σ d (.bool true)) w) (hf : ¬ p → AO P n ops S K f ls (upd σ d (.bool false)) w) : AO P n ops S K f ls σ w :=
  AO.part d _ hb (fun h => ht (of_decide_eq_true h)) (fun h => hf (of_decide_eq_false h))
/-- one operation of those that may come up -/
def Step1 (P : Program) (n : Nat) (ops : List Oper) (S : World → Prop) (K : Sig → World → Prop) (f : Nat) (ls : List Bool) (σ : Sig) (w : World) (i : Nat) : Prop :=
  ∃ o, nth ops i = some o ∧ O P n ops [o] (onlyN fun σ' w' => S w' ∧ AO P n ops S K f (ls.set i true) σ' w') σ w
theorem step1 {f i : Nat} {ls ls' : List Bool} {o : Oper} (hi : nth ops i = some o) (hl : ls.set i true = ls') (h : O P n ops [o] (onlyN fun σ' w' => S w' ∧ AO P n ops S K f ls' σ' w') σ w) : Step1 P n ops S K f ls σ w i := by
  subst hl; exact ⟨o, hi, h⟩
theorem AO.all {f : Nat} {ls : List Bool} (rs : List Nat) (hr : Region.ready .any ops.toArray ls.toArray = rs) (hne : rs ≠ []) (h : ∀ i ∈ rs, Step1 P n ops S K f ls σ w i) : AO P n ops S K (f + 1) ls σ w :=
  ⟨fun hS a ha => wpAnyH_all hr hne fun i hi => by
    obtain ⟨o, ho, h⟩ := h i hi
    have h := h.out a ha
    unfold wpOp
    rw [nth_get ho]
    unfold wpList at h
    show (if _ then _ else _)
    have key : ∀ a' w', lift n (onlyN fun σ' w' => S w' ∧ AO P n ops S K f (ls.set i true) σ' w') .normal a' w' → S w' ∧ wpAnyH P .any ops.toArray (lift n (onlyN K)) S f (ls.toArray.setIfInBounds i true) a' w' := by
      rintro a' w' ⟨σ', ha', hS', hA⟩
      refine ⟨hS', ?_⟩
      have := hA.out hS' a' ha'
      simpa using this
    split at h
    · rename_i hw
      rw [if_pos hw]
      rcases h with h | ⟨_, a, w, σ, _, h⟩
      · exact .inl (wp_mono2 (fun a' w' hk => key a' w' (by simpa [wpList] using hk)) (fun e a w he h => onlyN_off he h) h)
      · exact h.elim
    · rename_i hw
      rw [if_neg hw]
      exact key _ _ (by simpa [wpList] using h)⟩
theorem AO.one {f : Nat} {ls : List Bool} (i : Nat) (hr : Region.ready .any ops.toArray ls.toArray = [i]) (h : Step1 P n ops S K f ls σ w i) : AO P n ops S K (f + 1) ls σ w :=
  .all [i] hr (by simp) (by simpa using h)
theorem AO.two {f : Nat} {ls : List Bool} (i j : Nat) (hr : Region.ready .any ops.toArray ls.toArray = [i, j]) (h : Step1 P n ops S K f ls σ w i) (h' : Step1 P n ops S K f ls σ w j) : AO P n ops S K (f + 1) ls σ w :=
  .all [i, j] hr (by simp) (by simpa using ⟨h, h'⟩)
theorem AO.three {f : Nat} {ls : List Bool} (i j k : Nat) (hr : Region.ready .any ops.toArray ls.toArray = [i, j, k]) (h : Step1 P n ops S K f ls σ w i) (h' : Step1 P n ops S K f ls σ w j) (h'' : Step1 P n ops S K f ls σ w k) : AO P n ops S K (f + 1) ls σ w :=
  .all [i, j, k] hr (by simp) (by simpa using ⟨h, h', h''⟩)
theorem O.stop {σ : Sig} {w : World} {K' : Sig → World → Prop} (hS : S w) (h : K' σ w) : O P n ops [] (onlyN fun σ' w' => S w' ∧ K' σ' w') σ w := O.nil ⟨hS, h⟩

theorem Ru.xor {x y : Operand} {T U T' : TypeId} {dst pos after g} {a b : Int} (hx : ev σ x = I a) (hy : ev σ y = I b) (ha : 0 ≤ a ∧ a ≤ 9223372036854775807) (hb : 0 ≤ b ∧ b ≤ 9223372036854775807) :
    Ru P σ ⟨dst, .binOp .xor T x y U, T', pos, after, g⟩ w (I ((a.toNat ^^^ b.toNat : Nat) : Int)) := by
  obtain ⟨m, rfl⟩ := Int.eq_ofNat_of_zero_le ha.1
  obtain ⟨k, rfl⟩ := Int.eq_ofNat_of_zero_le hb.1
  have hk : (m ^^^ k) < 2 ^ 63 := Nat.xor_lt_two_pow (by omega) (by omega)
  have e1 : m % 2 ^ IntKind.i64.bits = m := by show m % 2 ^ 64 = m; exact Nat.mod_eq_of_lt (by omega)
  have e2 : k % 2 ^ IntKind.i64.bits = k := by show k % 2 ^ 64 = k; exact Nat.mod_eq_of_lt (by omega)
  simp only [Ru, execOp, hx, hy]
  simp [eqGuard, binOp, Op.intBits]
  rw [e1, e2, IntKind.wrap_i64]
  omega

/-- a reader at block g: its place is at most p; what it reads is older than itself -/
def Rdr (T : TypeId) (w : World) (g p : Nat) : Prop := ∃ A l c q, Blk w g T [.slice A (List.length l) c, I ((q : Nat) : Int)] ∧ Rd w A (l.map byteV) ∧ l.length ≤ 2000 ∧ q ≤ p ∧ (l = [] ∨ ∀ a, A = some a → a.block < g)
theorem rd_old {A : Option Addr} {l : List UInt8} (h : Rd w A (l.map byteV)) : l = [] ∨ ∀ a, A = some a → a.block < w.heap.size := by
  rcases h with h | ⟨b, o, rfl, hb, _⟩
  · exact .inl (by simpa using h)
  · exact .inr (by rintro a ⟨⟩; exact hb)
theorem rd_kp {A : Option Addr} {l : List UInt8} {g : Nat} {w' : World} (h : Rd w A (l.map byteV)) (hk : w.grownBy w' (some g)) (hN : l = [] ∨ ∀ a, A = some a → a.block < g) : Rd w' A (l.map byteV) := by
  rcases hN with rfl | hN
  · exact Rd.nil
  · exact h.kp hk (fun a ha he => by have := hN a ha; cases he; omega)
theorem Rdr.mono {T : TypeId} {g p p' : Nat} (h : Rdr T w g p) (hp : p ≤ p') : Rdr T w g p' := by
  obtain ⟨A, l, c, q, h1, h2, h3, h4, h5⟩ := h
  exact ⟨A, l, c, q, h1, h2, h3, by omega, h5⟩
theorem Rdr.kp {T : TypeId} {g p : Nat} {w' : World} {row : Option Nat} (h : Rdr T w g p) (hk : w.grownBy w' row) (hr : ∀ k, row = some k → g < k) : Rdr T w' g p := by
  obtain ⟨A, l, c, q, h1, h2, h3, h4, h5⟩ := h
  refine ⟨A, l, c, q, h1.kp hk (fun e => by have := hr g e.symm; omega), ?_, h3, h4, h5⟩
  rcases h5 with rfl | h5
  · exact Rd.nil
  · refine h2.kp hk (fun a ha e => ?_)
    have := h5 a ha
    have := hr _ e.symm
    omega
theorem Rdr.ext {T : TypeId} {g p : Nat} {w' : World} (h : Rdr T w g p) (hk : w.grownBy w' none) : Rdr T w' g p := h.kp hk (by simp)
theorem Rdr.own {T : TypeId} {g p B sz m : Nat} {e : TypeId} {v : Value} {xs : List Value} {w' : World} (h : Rdr T w g p) (hk : w.grownBy w' v.ownBlock) (ho : own w B e sz v m xs) (hg : g < B) : Rdr T w' g p :=
  h.kp hk (fun k hk => by have := (World.ownsRow.lt ho k hk).1; omega)
theorem Rdr.lt {T : TypeId} {g p : Nat} (h : Rdr T w g p) : g < w.heap.size := by
  obtain ⟨A, l, c, q, h1, _⟩ := h; exact h1.lt

/-- a slice's address is not in block g -/
def Ng (A : Option Addr) (g : Nat) : Prop := ∀ a, A = some a → a.block ≠ g
theorem ng_ne {A : Option Addr} {g : Nat} (h : Ng A g) : ∀ a, A = some a → some a.block ≠ some g := fun a ha he => h a ha (by simpa using he)
theorem ng_bl {b g : Nat} (h : b ≠ g) : Ng (bl b) g := by rintro a ⟨⟩; exact h
theorem ng_fr {A : Option Addr} {B g : Nat} (h : Fr B A) (hg : g < B) : Ng A g := fun a ha => by have := h a ha; omega

section
variable {e : TypeId} {A : Option Addr} {w' : World}
theorem own_rd {B sz m m' c : Nat} {xs : List Value} (h : own w B e sz (.slice A m c) m' xs) : Rd w A xs := by
  obtain ⟨A', c', he, _, _, hA, _, _⟩ := own_form h
  cases he; exact hA
theorem own_at {B sz m : Nat} {v : Value} {xs : List Value} (h : own w B e sz v m xs) {B' : Nat} (hB : w.heap.size ≤ B') : ∀ k, v.ownBlock = some k → k < B' := fun k hk => Nat.lt_of_lt_of_le (World.ownsRow.lt h k hk).2 hB
/-- an owned row while another, younger one is written -/
theorem own_apart {B B' sz sz' m m' : Nat} {e' : TypeId} {v u : Value} {xs ys : List Value} (h : own w B e sz v m xs) (hE : w.grownBy w' u.ownBlock) (hu : own w B' e' sz' u m' ys) (hv : ∀ k, v.ownBlock = some k → k < B') : own w' B e sz v m xs := by
  refine h.kept hE ?_
  cases hk : v.ownBlock with
  | none => exact .inl rfl
  | some k => exact .inr (fun he => by have h1 := hv k hk; have h2 := (World.ownsRow.lt hu k he.symm).1; omega)
/-- two slices lie in different rows -/
def Dj (u v : Value) : Prop := ∀ k, u.ownBlock = some k → v.ownBlock ≠ some k
theorem Dj.symm {u v : Value} (h : Dj u v) : Dj v u := fun k h1 h2 => h k h2 h1
theorem dj_new {w0 : World} {B B' sz sz' m m' : Nat} {e' : TypeId} {v u : Value} {xs ys : List Value} (h : own w B e sz v m xs) (h' : own w0 B' e' sz' u m' ys) (hB : w.heap.size ≤ B') : Dj v u := fun k h1 h2 => by
  have := (World.ownsRow.lt h k h1).2
  have := (World.ownsRow.lt h' k h2).1
  omega
theorem dj_bl {B sz m b n c : Nat} {v : Value} {xs : List Value} (h : own w B e sz v m xs) (hb : w.heap.size ≤ b) : Dj v (.slice (bl b) n c) := fun k h1 h2 => by
  have := (World.ownsRow.lt h k h1).2
  simp [Value.ownBlock] at h2
  omega
theorem dj_nil {v : Value} {n c : Nat} : Dj v (.slice none n c) := fun k _ h => by simp [Value.ownBlock] at h
theorem dj_app {B sz m : Nat} {v u u' : Value} {xs : List Value} (hd : Dj v u) (h : own w B e sz v m xs) (hat : u'.ownBlock = u.ownBlock ∨ u'.ownBlock = some w.heap.size) : Dj v u' := fun k h1 h2 => by
  rcases hat with ha | ha
  · exact hd k h1 (ha ▸ h2)
  · have := (World.ownsRow.lt h k h1).2
    rw [ha] at h2; cases h2; omega
/-- an owned row while another is written -/
theorem own_dj {B sz m : Nat} {v u : Value} {xs : List Value} (h : own w B e sz v m xs) (hE : w.grownBy w' u.ownBlock) (hd : Dj v u) : own w' B e sz v m xs := by
  refine h.kept hE ?_
  cases hk : v.ownBlock with
  | none => exact .inl rfl
  | some k => exact .inr (fun he => hd k hk he.symm)
theorem own_blk {n c : Nat} : (Value.slice A n c).ownBlock = A.map (·.block) := by cases A <;> rfl
theorem krow {row r : Option Nat} {w'' : World} (h : w.grownBy w' r) (h' : w'.grownBy w'' row) (e : row = r) : w.grownBy w'' r := kstep h h' (fun k hk => .inr (e ▸ hk))
theorem spl_take {l vs : List Value} {k n : Nat} (h : k + vs.length ≤ n) : (spl l k vs).take n = spl (l.take n) k vs := by
  unfold spl
  rw [List.take_take, Nat.min_eq_left (by omega), List.append_assoc, List.append_assoc]
  by_cases hk : k ≤ l.length
  · have e1 : (l.take k).length = k := by simp; omega
    rw [List.take_append, e1, List.take_take, Nat.min_eq_right (by omega)]
    congr 1
    rw [List.take_append, List.take_of_length_le (by omega), List.drop_take, show n - k - vs.length = n - (k + vs.length) by omega]
  · rw [List.drop_of_length_le (by omega), List.drop_of_length_le (by simp; omega), List.append_nil]
    rw [List.take_of_length_le]
    simp; omega
/-- cells of a slice of the call's own are written -/
theorem O.storeRow {P : Program} {ops rest : List Oper} {σ : Sig} {Q : Post} {T T' : TypeId} {x y : Operand} {pos : String} {after : Array Edge} {g : Option (Nat × Bool)} {zs : List Value} {bytes : Nat} {agg : Bool} {B m c k sz : Nat} {v : Value} {vs xs : List Value} (hg : gok ops σ g = true) (he : ElT P T zs bytes agg) (hx : ev σ x = .pointer (ofs A k)) (hy : ev σ y = v) (hv : v.cells = vs.toArray) (hvl : vs.length = zs.length) (h1 : (vs.all one) = true)
    (ho : own w B e sz (.slice A m c) m xs) (hk : k + vs.length ≤ xs.length) (h0 : 0 < vs.length)
    (h : ∀ w', w.grownBy w' (Value.slice A m c).ownBlock → w'.heap.size = w.heap.size → own w' B e sz (.slice A m c) m (spl xs k vs) → O P n ops rest Q σ w') : O P n ops (⟨none, .store T x y, T', pos, after, g⟩ :: rest) Q σ w := by
  obtain ⟨hl, ⟨h1', h2⟩ | ⟨b, c', cur, h1', hB, hh, hn, hc, hs, ht⟩⟩ := ho
  · have h3 : xs.length = 0 := by rw [hl, h2, Nat.zero_mul]
    omega
  · cases h1'
    have hcl : xs.length ≤ cur.size := by rw [← ht]; simp; omega
    have hb : Blk w b e cur.toList := by unfold Blk; simpa using hh
    refine O.store (vs := vs) hg he hx hy hv hvl h1 hb (by simp; omega) ?_
    intro w' hE hsz hb'
    refine h w' (by simpa [Value.ownBlock] using hE) hsz ⟨(spl_length hk).trans hl, .inr ⟨b, c, (spl cur.toList k vs).toArray, rfl, hB, hb', hn, hc, ?_, ?_⟩⟩
    · have e2 : (spl cur.toList k vs).length = cur.toList.length := spl_length (by simp; omega)
      rw [List.size_toArray, e2]; simpa using hs
    · have e1 := spl_take (l := cur.toList) (vs := vs) (k := k) (n := m * sz) (by omega)
      rw [List.toList_toArray, e1, ht]
theorem rd_drop1 {α : Type} {f : α → Value} {l : List α} {k c : Nat} (h : Rd w A (l.map f)) (hk : k ≤ l.length) (hc : l.length ≤ c) : Rd w (if c = k then A else ofs A (k * 1)) ((l.drop k).map f) := by
  split
  · rw [List.drop_of_length_le (by omega)]; exact Rd.nil
  · rw [List.map_drop]
    rcases Nat.lt_or_ge k l.length with h1 | h1
    · rw [Nat.mul_one]; exact h.drop k (by simpa using h1)
    · rw [List.drop_of_length_le (by simpa using h1)]; exact Rd.nil
theorem rd_take1 {α : Type} {f : α → Value} {l : List α} {k : Nat} (h : Rd w A (l.map f)) : Rd w A ((l.take k).map f) := by
  rw [List.map_take]; exact h.take k
theorem flat_drop {α : Type} {f : α → List Value} {n : Nat} (hn : ∀ a, (f a).length = n) : ∀ (l : List α) (k : Nat), (l.drop k).flatMap f = (l.flatMap f).drop (k * n)
  | l, 0 => by simp
  | [], k + 1 => by simp
  | a :: l, k + 1 => by
    rw [List.drop_succ_cons, flat_drop hn l k, List.flatMap_cons, Nat.add_mul, Nat.one_mul, Nat.add_comm, ← List.drop_drop, ← hn a, List.drop_left]
theorem flat_len {α : Type} {f : α → List Value} {n : Nat} (hn : ∀ a, (f a).length = n) : ∀ (l : List α), (l.flatMap f).length = l.length * n
  | [] => by simp
  | a :: l => by rw [List.flatMap_cons, List.length_append, hn, flat_len hn l, List.length_cons, Nat.add_mul]; omega
theorem flat_take {α : Type} {f : α → List Value} {n : Nat} (hn : ∀ a, (f a).length = n) : ∀ (l : List α) (k : Nat), (l.take k).flatMap f = (l.flatMap f).take (k * n)
  | l, 0 => by simp
  | [], k + 1 => by simp
  | a :: l, k + 1 => by
    have e1 : (k + 1) * n - n = k * n := by rw [Nat.add_mul]; omega
    have e2 : (f a).take ((k + 1) * n) = f a := List.take_of_length_le (by rw [hn, Nat.add_mul]; omega)
    rw [List.take_succ_cons, List.flatMap_cons, List.flatMap_cons, flat_take hn l k, List.take_append, hn, e1, e2]
theorem rd_dropN {α : Type} {f : α → List Value} {n : Nat} (hn : ∀ a, (f a).length = n) {l : List α} {k c : Nat} (h : Rd w A (l.flatMap f)) (hk : k ≤ l.length) (hc : l.length ≤ c) : Rd w (if c = k then A else ofs A (k * n)) ((l.drop k).flatMap f) := by
  split
  · rw [List.drop_of_length_le (by omega)]; exact Rd.nil
  · rw [flat_drop hn]
    rcases Nat.lt_or_ge (k * n) (l.length * n) with h1 | h1
    · exact h.drop (k * n) (by rw [flat_len hn]; exact h1)
    · rw [List.drop_of_length_le (by rw [flat_len hn]; exact h1)]; exact Rd.nil
theorem rd_takeN {α : Type} {f : α → List Value} {n : Nat} (hn : ∀ a, (f a).length = n) {l : List α} {k : Nat} (h : Rd w A (l.flatMap f)) : Rd w A ((l.take k).flatMap f) := by
  rw [flat_take hn]; exact h.take _
end
end Go.Px
