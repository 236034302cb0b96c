/- Own layer: results that lie in memory, structs compared. Plain theorems; no conditions. -/
import Derived.Test.YtfdlmimgooeioaaDoorPx3
set_option linter.unusedVariables false
set_option linter.unusedSimpArgs false
namespace Go.Px
open Go.RowKit

/-! ### Results that lie in memory -/
def ResV (P : Program) (σ : Sig) (w : World) : List ResultVar → List Value → Prop
  | [], vs => vs = []
  | .tmp t :: r, vs => ∃ vs', vs = σ t :: vs' ∧ ResV P σ w r vs'
  | .cell t T :: r, vs => ∃ b ty l zs bytes vs', σ t = .pointer (ofs (bl b) 0) ∧ Blk w b ty l ∧ ElT P T zs bytes true ∧ l.length = zs.length ∧ vs = .agg l.toArray :: vs' ∧ ResV P σ w r vs'
def pack : List Value → Value
  | [v] => v
  | vs => .tuple vs.toArray

section
variable {P : Program} {σ : Sig} {w : World} {n : Nat}
theorem ResV.nil : ResV P σ w [] [] := rfl
theorem ResV.tmp {t : Nat} {v : Value} {r : List ResultVar} {vs : List Value} (hv : σ t = v) (h : ResV P σ w r vs) : ResV P σ w (.tmp t :: r) (v :: vs) := ⟨vs, by rw [hv], h⟩
theorem ResV.cell {t b : Nat} {T ty : TypeId} {l zs : List Value} {bytes : Nat} {r : List ResultVar} {vs : List Value} (hv : σ t = .pointer (ofs (bl b) 0)) (hb : Blk w b ty l) (he : ElT P T zs bytes true) (hl : l.length = zs.length) (h : ResV P σ w r vs) :
    ResV P σ w (.cell t T :: r) (.agg l.toArray :: vs) := ⟨b, ty, l, zs, bytes, vs, hv, hb, he, hl, rfl, h⟩
theorem resV_run {tmps : Array Value} (hget : ∀ t, tmps.getD t undef = σ t) (f : ResultVar → Sem Value) (hf1 : ∀ t, f (.tmp t) = pure (tmps.getD t undef)) (hf2 : ∀ a t, f (.cell a t) = (asAddr (tmps.getD a undef) >>= fun x => loadVar t x)) : ∀ (rs : List ResultVar) (vs : List Value), ResV P σ w rs vs →
    (rs.mapM f).run P w = .ok vs w
  | [], vs, h => by cases h; rfl
  | .tmp t :: r, vs, ⟨vs', he, h⟩ => by
    subst he
    have ih := resV_run hget f hf1 hf2 r vs' h
    simp only [List.mapM_cons, Sem.run_bind, hf1, Sem.run_pure, Result.andThen_ok, ih, hget]
  | .cell t T :: r, vs, ⟨b, ty, l, zs, bytes, vs', hv, hb, he, hl, hvs, h⟩ => by
    subst hvs
    have hld : (loadVar T ⟨b, 0, none⟩).run P w = .ok (.agg l.toArray) w := by
      have h := run_loadCells_list (P := P) w ⟨b, 0, none⟩ l (fun j u hu => by rw [add_lit, Nat.zero_add, hb.cell, hu])
      simp [loadVar, run_agg he, run_size he, ← hl, h]
    have ha : (asAddr (tmps.getD t undef)).run P w = .ok ⟨b, 0, none⟩ w := by
      rw [hget, hv]; rfl
    have ih := resV_run hget f hf1 hf2 r vs' h
    simp only [List.mapM_cons, Sem.run_bind, hf2, Sem.run_pure, Result.andThen_ok, ha, hld, ih]

structure RetG (P : Program) (rs : List ResultVar) (R : Value → World → Prop) (σ : Sig) (w : World) : Prop where
  out : ∃ vs, ResV P σ w rs vs ∧ R (pack vs) w
def postG (P : Program) (rs : List ResultVar) (R : Value → World → Prop) : Post
  | .normal, σ, w => RetG P rs R σ w
  | .ret, σ, w => RetG P rs R σ w
  | _, _, _ => False
theorem PG {rs : List ResultVar} {R : Value → World → Prop} {vs : List Value} (hv : ResV P σ w rs vs) (h : R (pack vs) w) : RetG P rs R σ w := ⟨vs, hv, h⟩
theorem results_G {fn : Func} {rs : List ResultVar} {vs : List Value} {tmps : Array Value} (hr : fn.results = rs.toArray) (hget : ∀ t, tmps.getD t undef = σ t) (h : ResV P σ w rs vs) : (results fn tmps).run P w = .ok (pack vs) w := by
  unfold results
  simp only [hr, Array.mapM_eq_mapM_toList, Sem.run_bind, Sem.run_map]
  rw [resV_run (P := P) hget _ (fun _ => rfl) (fun _ _ => rfl) rs vs h]
  cases vs with
  | nil => rfl
  | cons v vs => cases vs <;> rfl
theorem Does.enterG {f : FuncId} {fn : Func} {c : Code} {rs : List ResultVar} {vs : List Value} {R : Value → World → Prop} (hf : P.funcs[f]? = some fn) (hb : fn.body = some c) (hr : fn.results = rs.toArray) (hn : fn.ntmps = n) (hl : Nat.ble vs.length n = true)
    (h : C P n c (postG P rs R) (arg vs) w) : Does P f vs w R := by
  subst hn
  refine ⟨calls_of_wp hf hb (wp_mono (h.out _ (arg_agree (by simpa using hl))) fun e a w ⟨σ, ha, hq⟩ => ?_)⟩
  have hR : e = .normal ∨ e = .ret → ∃ v, (results fn a.tmps).run P w = .ok v w ∧ R v w := by
    intro he
    have : RetG P rs R σ w := by rcases he with rfl | rfl <;> exact hq
    obtain ⟨us, h1, h2⟩ := this.out
    exact ⟨_, results_G hr ha.get h1, h2⟩
  cases e with
  | normal => obtain ⟨v, h1, h2⟩ := hR (.inl rfl); exact ⟨ha.defers, v, h1, v, rfl, h2⟩
  | ret => obtain ⟨v, h1, h2⟩ := hR (.inr rfl); exact ⟨ha.defers, v, h1, v, rfl, h2⟩
  | exit i => exact hq
  | goto i => exact hq
  | panic c => exact hq.elim
  | outgrown => exact hq.elim
end

/-! ### Structs compared -/
/-- a value that == compares by itself, and how its type says so -/
def eqCell (P : Program) (t : TypeId) : Value → Value → Bool
  | .int _ _, .int _ _ => match P.underlying t with | some (.int _) => true | _ => false
  | .string _, .string _ => match P.underlying t with | some .string => true | _ => false
  | .bool _, .bool _ => match P.underlying t with | some .bool => true | _ => false
  | _, _ => false
/-- T is a struct of one-cell fields that == compares field by field -/
structure EqT (P : Program) (T : TypeId) (ts : List TypeId) : Prop where
  und : ∃ fs, P.underlying T = some (.struct fs) ∧ P.fieldsOf T = fs ∧ fs.toList.map (fun f => (f.name == "_", f.type, f.offset)) = ts.zipIdx.map fun p => (false, p.1, p.2)
  stood : P.stoodInHeld T = false
  guard : P.eqGuardType P.depth T = false
  plain : ∀ t ∈ ts, ∃ d, P.underlying t = some d ∧ isAggD d = false
def eqq (P : Program) (T : TypeId) : Option (List (Bool × TypeId × Nat)) :=
  match P.underlying T with
  | some (.struct fs) => some (fs.toList.map (fun f => (f.name == "_", f.type, f.offset)))
  | _ => none
theorem EqT.of {P : Program} {T : TypeId} {ts : List TypeId} (h1 : eqq P T = some (ts.zipIdx.map fun p => (false, p.1, p.2))) (h2 : P.stoodInHeld T = false) (h3 : P.eqGuardType P.depth T = false) (h4 : (ts.all fun t => ((P.underlying t).map isAggD) == some false) = true) : EqT P T ts := by
  refine ⟨?_, h2, h3, ?_⟩
  · unfold eqq at h1
    split at h1
    · rename_i fs hu
      exact ⟨fs, hu, by simp [Program.fieldsOf, hu], by simpa using h1⟩
    · cases h1
  · intro t ht
    have := List.all_eq_true.1 h4 t ht
    cases hd : P.underlying t with
    | none => rw [hd] at this; simp at this
    | some d => rw [hd] at this; exact ⟨d, rfl, by simpa using this⟩
/-- one cell against another, by its type -/
def ceq (P : Program) (t : TypeId) (a b : Value) (r : Bool) : Prop := ∀ (w : World) (d : Nat), (Op.equalIn (d + 1) t a b).run P w = .ok r w
theorem ceq_int {P : Program} {t : TypeId} {k : IntKind} {a b : Int} (h : P.underlying t = some (.int k)) : ceq P t (.int k a) (.int k b) (decide (a = b)) := fun w d => by
  rw [run_equalIn_int w d t k k a b h]
  congr 1
theorem ceq_str {P : Program} {t : TypeId} {a b : Str} (h : P.underlying t = some .string) : ceq P t (S a) (S b) (decide (a = b)) := fun w d => by
  show (Op.equalIn (d + 1) t (.string _) (.string _)).run P w = _
  rw [run_equalIn_string w d t _ _ h]
  simp
  by_cases hab : a = b <;> simp [hab]
def ceqs (P : Program) : List TypeId → List Value → List Value → List Bool → Prop
  | [], [], [], [] => True
  | t :: ts, a :: xs0, b :: bs, r :: rs => ceq P t a b r ∧ ceqs P ts xs0 bs rs
  | _, _, _, _ => False
section
variable {P : Program} {σ : Sig} {w : World} {dst : Option Tmp} {T U T' : TypeId} {pos : String} {after : Array Edge} {g : Option (Nat × Bool)} {x y : Operand}
theorem eqFields_run (d : Nat) : ∀ (ts : List TypeId) (fs : List Field) (k : Nat) (pa pb xs0 bs : List Value) (rs : List Bool), pa.length = k → pb.length = k → fs.map (fun f => (f.name == "_", f.type, f.offset)) = (ts.zipIdx k).map (fun p => (false, p.1, p.2)) →
    (∀ t ∈ ts, ∃ d, P.underlying t = some d ∧ isAggD d = false) → ceqs P ts xs0 bs rs → ∀ w, (Op.eqFields (d + 1) (pa ++ xs0).toArray (pb ++ bs).toArray fs).run P w = .ok (rs.all id) w
  | [], fs, k, pa, pb, [], [], [], _, _, hf, _, _, w => by
    have : fs = [] := by simpa using hf
    subst this; rfl
  | t :: ts, fs, k, pa, pb, a :: xs0, b :: bs, r :: rs, ha, hb, hf, hp, ⟨h1, h2⟩, w => by
    cases fs with
    | nil => simp at hf
    | cons f fs =>
      simp only [List.map_cons, List.zipIdx_cons, List.cons.injEq, Prod.mk.injEq] at hf
      obtain ⟨⟨hn, ht, ho⟩, hf⟩ := hf
      have hn' : f.name ≠ "_" := by simpa using hn
      obtain ⟨td, hu, hag⟩ := hp t (by simp)
      have hpart : ∀ (l : List Value) (v : Value) (w : World), l[k]? = some v → (part f.type l.toArray f.offset).run P w = .ok v w := by
        intro l v w hv
        have hia : (isAgg f.type).run P w = .ok false w := by
          unfold isAgg
          rw [ht, Sem.run_bind, run_underlying hu w]
          cases td <;> simp_all [isAggD] <;> rfl
        simp [part, hia, ho, hv]
      have e1 : (pa ++ a :: xs0)[k]? = some a := by rw [List.getElem?_append_right (by omega), ha]; simp
      have e2 : (pb ++ b :: bs)[k]? = some b := by rw [List.getElem?_append_right (by omega), hb]; simp
      have ih := eqFields_run d ts fs (k + 1) (pa ++ [a]) (pb ++ [b]) xs0 bs rs (by simp [ha]) (by simp [hb]) hf (fun t ht => hp t (by simp [ht])) h2
      simp only [List.append_assoc, List.singleton_append] at ih
      simp only [Op.eqFields]
      rw [if_pos hn']
      have h1' : ceq P f.type a b r := ht ▸ h1
      simp only [Sem.run_bind, hpart _ a _ e1, hpart _ b _ e2, Result.andThen_ok, h1' w d]
      cases r with
      | true => simpa using ih w
      | false => simp
theorem Ru.eqlT {ts : List TypeId} {xs0 bs : List Value} {rs : List Bool} (h : EqT P T ts) (hx : ev σ x = .agg xs0.toArray) (hy : ev σ y = .agg bs.toArray) (hc : ceqs P ts xs0 bs rs) : Ru P σ ⟨dst, .binOp .eql T x y U, T', pos, after, g⟩ w (.bool (rs.all id)) := by
  obtain ⟨fs, hu, hfo, hf⟩ := h.und
  have := eqFields_run (P := P) 9998 ts fs.toList 0 [] [] xs0 bs rs rfl rfl hf h.plain hc w
  simp only [List.nil_append] at this
  have hq := run_equalIn_struct (P := P) w 9999 T xs0.toArray bs.toArray (by rw [hfo]; exact hu) h.stood
  rw [hfo] at hq
  simp only [Ru, execOp, hx, hy, Sem.run_bind, run_eqGuard_agg w _ T x y _ _ h.guard, Result.andThen_ok, run_eql_struct]
  rw [hq, this]
  rfl
theorem Ru.neqT {ts : List TypeId} {xs0 bs : List Value} {rs : List Bool} (h : EqT P T ts) (hx : ev σ x = .agg xs0.toArray) (hy : ev σ y = .agg bs.toArray) (hc : ceqs P ts xs0 bs rs) : Ru P σ ⟨dst, .binOp .neq T x y U, T', pos, after, g⟩ w (.bool (!rs.all id)) := by
  obtain ⟨fs, hu, hfo, hf⟩ := h.und
  have := eqFields_run (P := P) 9998 ts fs.toList 0 [] [] xs0 bs rs rfl rfl hf h.plain hc w
  simp only [List.nil_append] at this
  have hq := run_equalIn_struct (P := P) w 9999 T xs0.toArray bs.toArray (by rw [hfo]; exact hu) h.stood
  rw [hfo] at hq
  simp only [Ru, execOp, hx, hy, Sem.run_bind, run_eqGuard_agg w _ T x y _ _ h.guard, Result.andThen_ok, run_neq_struct]
  rw [hq, this]
  rfl
end
end Go.Px
