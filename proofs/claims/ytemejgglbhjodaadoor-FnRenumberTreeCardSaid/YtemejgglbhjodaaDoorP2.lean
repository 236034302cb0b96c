/- Own layer, part 3: plain theorems on the walk of this program's functions and on what they compute; no conditions. -/
import Derived.Test.YtemejgglbhjodaaDoorP1
set_option linter.unusedVariables false
set_option linter.unusedSimpArgs false
section
namespace Go.Px
open Go.RowKit
inductive At where
  | i (a : Int)
  | n (k : IntKind) (a : Int)
  | b (x : Bool)
  | d (p : Prop) (h : Decidable p)
  | s (l : Str)
  | sl (A : Option Addr) (n c : Nat)
  | p (A : Option Addr) (k : Nat)
  | r (v : Value)
def At.val : At → Value
  | .i a => I a
  | .n k a => .int k a
  | .b x => .bool x
  | .d q h => .bool (@decide q h)
  | .s l => S l
  | .sl A m c => .slice A m c
  | .p A k => .pointer (ofs A k)
  | .r v => v
inductive EV where
  | x (a : At)
  | g (l : List At)
def EV.val : EV → Value
  | .x a => a.val
  | .g l => .agg (l.map At.val).toArray
inductive SV where
  | e (v : EV)
  | t (l : List EV)
def SV.val : SV → Value
  | .e v => v.val
  | .t l => .tuple (l.map EV.val).toArray
abbrev sx (a : At) : SV := .e (.x a)
def liftP : Option Addr → At
  | some ⟨b, o, none⟩ => .p (bl b) o
  | A => .r (.pointer A)
def liftA : Value → At
  | .int .i64 a => .i a
  | .int k a => .n k a
  | .bool x => .b x
  | .string ⟨⟨l⟩⟩ => .s l
  | .slice A n c => .sl A n c
  | .pointer A => liftP A
  | v => .r v
def liftE : Value → EV
  | .agg cs => .g (cs.toList.map liftA)
  | v => .x (liftA v)
def liftV : Value → SV
  | .tuple cs => .t (cs.toList.map liftE)
  | v => .e (liftE v)
theorem liftP_val (A : Option Addr) : (liftP A).val = .pointer A := by
  unfold liftP
  split
  · simp [At.val, ofs, add_lit]
  rfl
theorem liftA_val (v : Value) : (liftA v).val = v := by
  unfold liftA
  split <;> first | rfl | exact liftP_val _
theorem liftE_val (v : Value) : (liftE v).val = v := by
  unfold liftE
  split
  · rename_i cs
    have : (At.val ∘ liftA) = id := by funext v; exact liftA_val v
    simp [EV.val, this]
  exact liftA_val _
theorem liftV_val (v : Value) : (liftV v).val = v := by
  unfold liftV
  split
  · rename_i cs
    have : (EV.val ∘ liftE) = id := by funext v; exact liftE_val v
    simp [SV.val, this]
  exact liftE_val _
abbrev Fm := Nat → SV
def Sg (τ : Fm) : Sig := fun t => (τ t).val
def up (τ : Fm) (d : Nat) (s : SV) : Fm := fun t => bif Nat.beq t d then s else τ t
def lf (σ : Sig) : Fm := fun t => liftV (σ t)
def upl : Fm → List (Nat × SV) → Fm
  | τ, [] => τ
  | τ, p :: l => up (upl τ l) p.1 p.2
theorem Sg_lf (σ : Sig) : Sg (lf σ) = σ := by funext t; exact liftV_val _
theorem Sg_up (τ : Fm) (d : Nat) (s : SV) : Sg (up τ d s) = upd (Sg τ) d s.val := by
  funext t
  unfold Sg up upd
  cases Nat.beq t d <;> rfl
theorem upd_Sg (τ : Fm) (d : Nat) (v : Value) : upd (Sg τ) d v = Sg (up τ d (liftV v)) := by rw [Sg_up, liftV_val]
theorem upd_SgP (τ : Fm) (d : Nat) (A : Option Addr) (k : Nat) : upd (Sg τ) d (.pointer (ofs A k)) = Sg (up τ d (sx (.p A k))) := by rw [Sg_up]; rfl
def vals (l : List (Nat × SV)) : List (Nat × Value) := l.map fun p => (p.1, p.2.val)
theorem Sg_upl (τ : Fm) : ∀ l : List (Nat × SV), Sg (upl τ l) = ups (Sg τ) (vals l)
  | [] => rfl
  | p :: l => by
    show Sg (up (upl τ l) p.1 p.2) = upd (ups (Sg τ) (vals l)) p.1 p.2.val
    rw [Sg_up, Sg_upl τ l]
def sev (τ : Fm) : Operand → SV
  | .tmp t => τ t
  | .const v => liftV v
  | .global g => sx (.r (.pointer (some ⟨g, 0, none⟩)))
  | .func f => sx (.r (.func (.func f) #[] #[]))
theorem sev_val {τ : Fm} (x : Operand) : ev (Sg τ) x = (sev τ x).val := by
  cases x with
  | tmp t => rfl
  | const v => exact (liftV_val v).symm
  | global g => rfl
  | func f => rfl
structure TyI where
  fl : List (Nat × Nat)
  el : Option (Nat × Bool)
  sl : Bool
  st : Bool
  zs : Option (List At)
def asc1 : List (Nat × Nat) → Nat → Option Nat
  | [], _ => none
  | p :: l, k => bif Nat.beq p.1 k then some p.2 else asc1 l k
structure TabOK (P : Program) (T : Nat → TyI) : Prop where
  fl : ∀ t f off, asc1 (T t).fl f = some off → FlT P t f off
  el : ∀ t n a, (T t).el = some (n, a) → ∃ zs bytes, ElT P t zs bytes a ∧ zs.length = n
  sl : ∀ t, (T t).sl = true → ∃ e, P.underlying t = some (.slice e)
  st : ∀ t, (T t).st = true → P.underlying t = some .string
  zs : ∀ t l, (T t).zs = some l → OneF P t (l.map At.val)
def cmpI : BinOp → Int → Int → Option At
  | .lss, a, b => some (.d (a < b) inferInstance)
  | .leq, a, b => some (.d (a ≤ b) inferInstance)
  | .gtr, a, b => some (.d (a > b) inferInstance)
  | .geq, a, b => some (.d (a ≥ b) inferInstance)
  | .eql, a, b => some (.d (a = b) inferInstance)
  | .neq, a, b => some (.d (a ≠ b) inferInstance)
  | _, _, _ => none
def cmpS : BinOp → Str → Str → Option At
  | .eql, a, b => some (.d (a = b) inferInstance)
  | .neq, a, b => some (.d (a ≠ b) inferInstance)
  | _, _, _ => none
def eBin (o : BinOp) : SV → SV → Option At
  | .e (.x (.i a)), .e (.x (.i b)) => cmpI o a b
  | .e (.x (.n k a)), .e (.x (.n k' b)) => if k = k' then cmpI o a b else none
  | .e (.x (.s a)), .e (.x (.s b)) => cmpS o a b
  | _, _ => none
def eNot : SV → Option At
  | .e (.x (.b x)) => some (.b (!x))
  | .e (.x (.d p h)) => some (.d (¬ p) inferInstance)
  | _ => none
def eFld (T : Nat → TyI) (t f : Nat) : SV → Option At
  | .e (.x (.p (some a) k)) => match asc1 (T t).fl f with
    | some off => some (.p (some a) (k + off))
    | none => none
  | _ => none
def eNil : SV → Option At
  | .e (.x (.p (some a) k)) => some (.p (some a) k)
  | _ => none
def eLen (T : Nat → TyI) (t : Nat) : SV → Option At
  | .e (.x (.sl _ n _)) => bif (T t).sl then some (.i n) else none
  | .e (.x (.s l)) => bif (T t).st then some (.i l.length) else none
  | _ => none
def eExt : SV → Nat → Option SV
  | .t l, k => match l[k]? with
    | some v => some (.e v)
    | none => none
  | _, _ => none
def ldN : List Value → Nat → Option (List At)
  | _, 0 => some []
  | [], _ + 1 => none
  | v :: l, z + 1 => match ldN l z with
    | some r => some (liftA v :: r)
    | none => none
def eLd (T : Nat → TyI) (M : List (List FE)) (t : Nat) : SV → Nat → Option (SV × Option Addr × Option Addr)
  | .e (.x (.p A k)), i => match M[i]? with
    | some (⟨.slice A' n c, _, _, m, xs⟩ :: _) => match (T t).el with
      | some (_, false) => match xs[k]? with
        | some v => some (sx (liftA v), A, A')
        | none => none
      | some (z, true) => match A' with
        | some ⟨b, 0, none⟩ => bif Nat.beq n m && Nat.beq c m then match ldN (xs.drop k) z with
            | some l => some (.e (.g l), A, some ⟨b, 0, none⟩)
            | none => none
          else none
        | _ => none
      | none => none
    | _ => none
  | _, _ => none
def one1 : At → Bool
  | .r v => one v
  | _ => true
def eBld (τ : Fm) : List At → List (Nat × Operand) → Option (List At)
  | zs, [] => some zs
  | zs, p :: l => match sev τ p.2 with
    | .e (.x a) => bif Nat.blt p.1 zs.length && one1 a then eBld τ (zs.set p.1 a) l else none
    | _ => none
abbrev Obs := List (Option Addr × Option Addr)
def opv (T : Nat → TyI) (M : List (List FE)) (τ : Fm) (is : List Nat) : Op → Option (SV × List Nat × Obs)
  | .move x => some (sev τ x, is, [])
  | .assign x => some (sev τ x, is, [])
  | .pick c a b => match sev τ c with
    | .e (.x (.b true)) => some (sev τ a, is, [])
    | .e (.x (.b false)) => some (sev τ b, is, [])
    | _ => none
  | .binOp o _ x y _ => match eBin o (sev τ x) (sev τ y) with
    | some a => some (sx a, is, [])
    | none => none
  | .unOp o _ x => match o with
    | .not => match eNot (sev τ x) with
      | some a => some (sx a, is, [])
      | none => none
    | _ => none
  | .fieldAddr t x f => match eFld T t f (sev τ x) with
    | some a => some (sx a, is, [])
    | none => none
  | .nilCheck x => match eNil (sev τ x) with
    | some a => some (sx a, is, [])
    | none => none
  | .load t x => match is with
    | i :: is' => match eLd T M t (sev τ x) i with
      | some (s, A, A') => some (s, is', [(A, A')])
      | none => none
    | [] => none
  | .extract x k => match eExt (sev τ x) k with
    | some s => some (s, is, [])
    | none => none
  | .build t parts => match (T t).zs with
    | some zs => match eBld τ zs parts.toList with
      | some l => some (.e (.g l), is, [])
      | none => none
    | none => none
  | .call c => match c with
    | ⟨.builtin .len, args, ts⟩ => match args.toList, ts.toList with
      | [x], [t] => match eLen T t (sev τ x) with
        | some a => some (sx a, is, [])
        | none => none
      | _, _ => none
    | _ => none
  | _ => none
def EqA : Obs → Prop
  | [] => True
  | p :: l => p.1 = p.2 ∧ EqA l
theorem EqA.append {l l' : Obs} : EqA (l ++ l') ↔ EqA l ∧ EqA l' := by
  induction l with
  | nil => simp [EqA]
  | cons p l ih => simp [EqA, ih, and_assoc]
section
variable {P : Program} {T : Nat → TyI} {τ : Fm} {w0 w : World} {R : List (Option Nat)} {M : List (List FE)}
variable {dst : Option Tmp} {T' : TypeId} {pos : String} {after : Array Edge} {g : Option (Nat × Bool)}
theorem cmpI_ok {o : BinOp} {k : IntKind} {a b : Int} {v : At} {x y : Operand} {t u : TypeId} (hx : ev (Sg τ) x = .int k a) (hy : ev (Sg τ) y = .int k b) (h : cmpI o a b = some v) : Ru P (Sg τ) ⟨dst, .binOp o t x y u, T', pos, after, g⟩ w v.val := by
  cases o <;> simp only [cmpI, Option.some.injEq] at h <;> first
    | (cases h; done)
    | (subst h; first | exact Ru.lss hx hy | exact Ru.leq hx hy | exact Ru.gtr hx hy | exact Ru.geq hx hy | exact Ru.eql hx hy | exact Ru.neq hx hy)
theorem eBin_ok {o : BinOp} {v : At} {x y : Operand} {t u : TypeId} (h : eBin o (sev τ x) (sev τ y) = some v) : Ru P (Sg τ) ⟨dst, .binOp o t x y u, T', pos, after, g⟩ w v.val := by
  have hx := sev_val (τ := τ) x
  have hy := sev_val (τ := τ) y
  unfold eBin at h
  split at h
  · rename_i h1 h2
    rw [h1] at hx; rw [h2] at hy
    exact cmpI_ok hx hy h
  · rename_i h1 h2
    rw [h1] at hx; rw [h2] at hy
    split at h
    · rename_i he; subst he; exact cmpI_ok hx hy h
    cases h
  · rename_i h1 h2
    rw [h1] at hx; rw [h2] at hy
    cases o <;> simp only [cmpS, Option.some.injEq] at h <;> first
      | (cases h; done)
      | (subst h; first | exact Ru.seql hx hy | exact Ru.sneq hx hy)
  cases h
theorem ldN_ok : ∀ {xs : List Value} {z : Nat} {l : List At}, ldN xs z = some l → l.map At.val = xs.take z ∧ l.length = z
  | xs, 0, l, h => by simp [ldN] at h; subst h; simp
  | [], z + 1, l, h => by simp [ldN] at h
  | v :: xs, z + 1, l, h => by
    unfold ldN at h
    split at h
    · rename_i r hr
      cases h
      obtain ⟨h1, h2⟩ := ldN_ok hr
      simp [h1, h2, liftA_val]
    cases h
theorem eLd_ok {t : Nat} {x : Operand} {i : Nat} {s : SV} {A A' : Option Addr} (hT : TabOK P T) (hM : Mem w0 w R M) (h : eLd T M t (sev τ x) i = some (s, A, A')) (he : A = A') : Ru P (Sg τ) ⟨dst, .load t x, T', pos, after, g⟩ w s.val := by
  have hx := sev_val (τ := τ) x
  unfold eLd at h
  split at h
  · rename_i A0 k h1
    rw [h1] at hx
    have hx : ev (Sg τ) x = .pointer (ofs A0 k) := hx
    split at h
    · rename_i A1 n c e sz m xs gs hi
      split at h
      · rename_i z hel
        obtain ⟨zs, bytes, hE, _⟩ := hT.el _ _ _ hel
        split at h
        · rename_i v hv
          simp only [Option.some.injEq, Prod.mk.injEq] at h
          obtain ⟨rfl, rfl, rfl⟩ := h
          subst he
          have := Ru.load1 (dst := dst) (T' := T') (pos := pos) (after := after) (g := g) hE hx ((hM.rd _ hi).ld hv)
          simpa [SV.val, EV.val, liftA_val] using this
        cases h
      · rename_i z hel
        obtain ⟨zs, bytes, hE, hz⟩ := hT.el _ _ _ hel
        split at h
        · rename_i b
          cases hc : (Nat.beq n m && Nat.beq c m) with
          | false => simp [hc] at h
          | true =>
            rw [hc] at h
            simp only [cond_true] at h
            simp only [Bool.and_eq_true] at hc
            have hn := Nat.eq_of_beq_eq_true hc.1
            have hcc := Nat.eq_of_beq_eq_true hc.2
            subst hn hcc
            split at h
            · rename_i l hl
              simp only [Option.some.injEq, Prod.mk.injEq] at h
              obtain ⟨rfl, rfl, rfl⟩ := h
              subst he
              obtain ⟨h2, h3⟩ := ldN_ok hl
              have hb := mem_blk (i := _) (j := 0) hM hi rfl
              refine Ru.loadN (vs := l.map At.val) hE hx (by rw [List.length_map, h3, hz]) rfl (hb.lds (k := k) ?_)
              rw [h2, List.length_take]
              have h4 : l.length = (List.take z (List.drop k xs)).length := by rw [← h2, List.length_map]
              rw [List.length_take, h3] at h4
              rw [← h4]
            cases h
        cases h
      cases h
    cases h
  cases h
theorem one1_ok {a : At} (h : one1 a = true) : one a.val = true := by
  cases a <;> first | rfl | exact h
theorem eBld_ok {t : Nat} : ∀ {l : List (Nat × Operand)} {zs r : List At}, eBld τ zs l = some r →
    sets (zs.map At.val) (evp (Sg τ) l) = r.map At.val ∧ ((evp (Sg τ) l).all fun p => Nat.blt p.1 zs.length && one p.2) = true
  | [], zs, r, h => by simp [eBld] at h; subst h; simp [evp, sets]
  | p :: l, zs, r, h => by
    have hx := sev_val (τ := τ) p.2
    unfold eBld at h
    split at h
    · rename_i a ha
      cases hc : (Nat.blt p.1 zs.length && one1 a) with
      | false => simp [hc] at h
      | true =>
        rw [hc] at h
        simp only [cond_true] at h
        obtain ⟨h1, h2⟩ := eBld_ok (t := t) h
        rw [ha] at hx
        have hx : ev (Sg τ) p.2 = a.val := hx
        simp only [Bool.and_eq_true] at hc
        refine ⟨?_, ?_⟩
        · rw [← h1]
          simp [evp, sets, hx, List.map_set]
        simp only [evp, List.all_cons, Bool.and_eq_true]
        refine ⟨⟨hc.1, by rw [hx]; exact one1_ok hc.2⟩, ?_⟩
        simpa using h2
    cases h
theorem opv_ok {is is' : List Nat} {op : Op} {s : SV} {ob : Obs} (hT : TabOK P T) (hM : Mem w0 w R M) (h : opv T M τ is op = some (s, is', ob)) (he : EqA ob) : Ru P (Sg τ) ⟨dst, op, T', pos, after, g⟩ w s.val := by
  unfold opv at h
  split at h
  · rename_i x
    cases h; exact Ru.move (sev_val x)
  · rename_i x
    cases h; exact Ru.assign (sev_val x)
  · rename_i c a b
    have hc := sev_val (τ := τ) c
    split at h
    · rename_i h1; rw [h1] at hc
      cases h; exact Ru.pickT hc (sev_val a)
    · rename_i h1; rw [h1] at hc
      cases h; exact Ru.pickF hc (sev_val b)
    cases h
  · split at h
    · rename_i h1; cases h; exact eBin_ok h1
    cases h
  · rename_i o t x
    have hx := sev_val (τ := τ) x
    split at h
    · unfold eNot at h
      split at h
      · rename_i a h1
        cases h
        split at h1
        · rename_i b h2; rw [h2] at hx
          cases h1; exact Ru.not hx
        · rename_i p hp h2; rw [h2] at hx
          cases h1; exact Ru.notp hx
        cases h1
      cases h
    cases h
  · rename_i t x f
    have hx := sev_val (τ := τ) x
    unfold eFld at h
    split at h
    · rename_i a h1
      cases h
      split at h1
      · rename_i a0 k h2; rw [h2] at hx
        split at h1
        · rename_i off ho
          cases h1
          exact Ru.fieldA (hT.fl _ _ _ ho) hx rfl
        cases h1
      cases h1
    cases h
  · rename_i x
    have hx := sev_val (τ := τ) x
    unfold eNil at h
    split at h
    · rename_i a h1
      cases h
      split at h1
      · rename_i a0 k h2; rw [h2] at hx
        cases h1
        exact Ru.nilc (A := ofs (some a0) k) hx rfl
      cases h1
    cases h
  · split at h
    · split at h
      · rename_i h1
        cases h
        exact eLd_ok hT hM h1 he.1
      cases h
    cases h
  · rename_i x k
    have hx := sev_val (τ := τ) x
    unfold eExt at h
    split at h
    · rename_i s1 h1
      cases h
      split at h1
      · rename_i l h2; rw [h2] at hx
        split at h1
        · rename_i v hv
          cases h1
          refine Ru.extract (vs := (l.map EV.val).toArray) hx ?_
          simp [hv, SV.val]
        cases h1
      cases h1
    cases h
  · rename_i t parts
    split at h
    · rename_i zs hz
      split at h
      · rename_i l hl
        cases h
        obtain ⟨h1, h2⟩ := eBld_ok (t := 0) hl
        have := Ru.build (P := P) (σ := Sg τ) (w := w) (dst := dst) (T' := T') (pos := pos) (after := after) (g := g) (hT.zs _ _ hz) rfl (by simpa using h2) h1
        simpa [SV.val, EV.val] using this
      cases h
    cases h
  · split at h
    · rename_i args ts
      split at h
      · rename_i x t ha ht
        have hx := sev_val (τ := τ) x
        obtain rfl : args = #[x] := by cases args; simp at ha; subst ha; rfl
        obtain rfl : ts = #[t] := by cases ts; simp at ht; subst ht; rfl
        unfold eLen at h
        split at h
        · rename_i a h1
          cases h
          split at h1
          · rename_i A n c h2; rw [h2] at hx
            cases hs : (T t).sl with
            | false => simp [hs] at h1
            | true =>
              simp [hs] at h1; subst h1
              obtain ⟨e, hu⟩ := hT.sl _ hs
              exact Ru.blenSlice hu hx
          · rename_i l h2; rw [h2] at hx
            cases hs : (T t).st with
            | false => simp [hs] at h1
            | true =>
              simp [hs] at h1; subst h1
              exact Ru.slen (hT.st _ hs) hx
          cases h1
        cases h
      cases h
    cases h
  cases h
end
structure Nf {α : Type} (l l' : List α) : Prop where h : l = l'
theorem Nf.nil {α : Type} {l : List α} (h : l = []) : Nf l [] := ⟨h⟩
theorem Nf.cons {α : Type} {l l1 l2 : List α} {a : α} (h : l = a :: l1) (t : Nf l1 l2) : Nf l (a :: l2) := ⟨by rw [h, t.h]⟩
def frcA : At → Option At
  | .i a => some (.i a)
  | .n k a => some (.n k a)
  | .b x => some (.b x)
  | .d q h => some (.d q h)
  | .s l => some (.s l)
  | .sl A m c => some (.sl A m c)
  | .p A k => some (.p A k)
  | .r v => some (.r v)
def frc : SV → Option SV
  | .e v => match v with
    | .x a => match frcA a with
      | some a => some (sx a)
      | none => none
    | .g l => some (.e (.g l))
  | .t l => some (.t l)
theorem frc_ok {s s' : SV} (h : frc s = some s') : s' = s := by
  unfold frc at h
  split at h
  · rename_i v
    split at h
    · rename_i a
      cases a <;> simp [frcA] at h <;> exact h.symm
    simp at h; exact h.symm
  simp at h; exact h.symm
def gst (ops : List Oper) (τ : Fm) : Option (Nat × Bool) → Option Bool
  | none => some true
  | some (j, want) => match nth ops j with
    | some o => match o.dst with
      | some d => match τ d with
        | .e (.x (.b u)) => some (bif want then u else !u)
        | .t [] => some false
        | _ => none
      | none => none
    | none => none
def ost (T : Nat → TyI) (M : List (List FE)) (n : Nat) (ops : List Oper) (τ : Fm) (is : List Nat) : Oper → Option (Fm × List Nat × Obs)
  | ⟨dst, op, _, _, _, g⟩ => match dst with
    | some d => match Nat.blt d n with
      | true => match gst ops τ g with
        | some true => match opv T M τ is op with
          | some (s, is', ob) => match frc s with
            | some s' => some (up τ d s', is', ob)
            | none => none
          | none => none
        | some false => some (up τ d (.t []), is, [])
        | none => none
      | false => none
    | none => none
theorem gst_true {ops : List Oper} {τ : Fm} {g : Option (Nat × Bool)} (h : gst ops τ g = some true) : gok ops (Sg τ) g = true := by
  cases g with
  | none => rfl
  | some g =>
    obtain ⟨j, want⟩ := g
    unfold gst at h
    split at h
    · cases ‹some (j, want) = none›
    rename_i heq
    cases heq
    split at h
    · rename_i o h1
      split at h
      · rename_i d h2
        split at h
        · rename_i u h3
          have h3' : Sg τ d = .bool u := by show (τ d).val = _; rw [h3]; rfl
          simp only [gok, h1, h2, h3']
          cases want <;> cases u <;> simp_all
        · cases h
        cases h
      cases h
    cases h
theorem gst_false {ops : List Oper} {τ : Fm} {g : Option (Nat × Bool)} (h : gst ops τ g = some false) :
    ∃ j want o d, g = some (j, want) ∧ nth ops j = some o ∧ o.dst = some d ∧ ((∃ u, Sg τ d = .bool u ∧ (u == want) = false) ∨ Sg τ d = undef) := by
  cases g with
  | none => simp [gst] at h
  | some g =>
    obtain ⟨j, want⟩ := g
    unfold gst at h
    split at h
    · cases ‹some (j, want) = none›
    rename_i heq
    cases heq
    split at h
    · rename_i o h1
      split at h
      · rename_i d h2
        split at h
        · rename_i u h3
          have h3' : Sg τ d = .bool u := by show (τ d).val = _; rw [h3]; rfl
          refine ⟨j, want, o, d, rfl, h1, h2, .inl ⟨u, h3', ?_⟩⟩
          cases want <;> cases u <;> simp_all
        · rename_i h3
          have h3' : Sg τ d = undef := by show (τ d).val = _; rw [h3]; rfl
          exact ⟨j, want, o, d, rfl, h1, h2, .inr h3'⟩
        cases h
      cases h
    cases h
section
variable {P : Program} {n : Nat} {Q : Post} {T : Nat → TyI} {τ τ' : Fm} {w0 w : World} {R : List (Option Nat)} {M : List (List FE)} {ops rest : List Oper} {is is' : List Nat} {ob : Obs}
theorem ost_cases {o : Oper} (hT : TabOK P T) (h : ost T M n ops τ is o = some (τ', is', ob)) :
    ∃ d op T' pos after g, o = ⟨some d, op, T', pos, after, g⟩ ∧ Nat.blt d n = true ∧
      ((gok ops (Sg τ) g = true ∧ ∃ v, Sg τ' = upd (Sg τ) d v ∧ (EqA ob → ∀ w0 w R, Mem w0 w R M → Ru P (Sg τ) ⟨some d, op, T', pos, after, g⟩ w v)) ∨
       (Sg τ' = upd (Sg τ) d undef ∧ ∃ j want o' dj, g = some (j, want) ∧ nth ops j = some o' ∧ o'.dst = some dj ∧ ((∃ u, Sg τ dj = .bool u ∧ (u == want) = false) ∨ Sg τ dj = undef))) := by
  obtain ⟨dst, op, T', pos, after, g⟩ := o
  unfold ost at h
  simp only at h
  split at h
  · rename_i d
    refine ⟨d, op, T', pos, after, g, rfl, ?_⟩
    split at h
    · rename_i hd
      refine ⟨hd, ?_⟩
      split at h
      · rename_i hg
        left
        refine ⟨gst_true hg, ?_⟩
        split at h
        · rename_i s is1 ob1 hv
          split at h
          · rename_i s' hf
            cases h
            obtain rfl := frc_ok hf
            exact ⟨s'.val, Sg_up _ _ _, fun he w0 w R hM => opv_ok hT hM hv he⟩
          cases h
        cases h
      · rename_i hg
        cases h
        exact .inr ⟨Sg_up _ _ _, gst_false hg⟩
      cases h
    cases h
  cases h
theorem ost_o {o : Oper} (hT : TabOK P T) (hM : Mem w0 w R M) (h : ost T M n ops τ is o = some (τ', is', ob)) (he : EqA ob) (hr : O P n ops rest Q (Sg τ') w) : O P n ops (o :: rest) Q (Sg τ) w := by
  obtain ⟨d, op, T', pos, after, g, rfl, hd, h | h⟩ := ost_cases hT h
  · obtain ⟨hg, v, hs, hv⟩ := h
    rw [hs] at hr
    exact O.val hg (hv he _ _ _ hM) hd hr
  obtain ⟨hs, j, want, o', dj, rfl, h1, h2, h3 | h3⟩ := h
  · obtain ⟨u, h3, h4⟩ := h3
    rw [hs] at hr
    exact O.pass h1 h2 h3 h4 hd hr
  rw [hs] at hr
  exact O.passU h1 h2 h3 hd hr
theorem ost_y {o : Oper} {S : World → Prop} {K : Sig → Prop} (hT : TabOK P T) (hS : ∀ w, S w → Mem w0 w R M) (h : ost T M n ops τ is o = some (τ', is', ob)) (he : EqA ob) (hr : QO P n ops S K rest (Sg τ')) : QO P n ops S K (o :: rest) (Sg τ) := by
  obtain ⟨d, op, T', pos, after, g, rfl, hd, h | h⟩ := ost_cases hT h
  · obtain ⟨hg, v, hs, hv⟩ := h
    rw [hs] at hr
    exact QO.val hg (fun w hw => hv he _ _ _ (hS w hw)) hd hr
  obtain ⟨hs, j, want, o', dj, rfl, h1, h2, h3 | h3⟩ := h
  · obtain ⟨u, h3, h4⟩ := h3
    rw [hs] at hr
    exact QO.pass h1 h2 h3 h4 hd hr
  rw [hs] at hr
  exact QO.passU h1 h2 h3 hd hr
theorem ost_a {o : Oper} {S : World → Prop} {K : Sig → World → Prop} {f i : Nat} {ls : List Bool} (hT : TabOK P T) (hS : ∀ w, S w → Mem w0 w R M) (hi : nth ops i = some o) (hb : takeB ops ls i = true) (h : ost T M n ops τ is o = some (τ', is', ob)) (he : EqA ob) (hr : AO P n ops S K f (ls.set i true) (Sg τ') w) : AO P n ops S K (f + 1) ls (Sg τ) w := by
  obtain ⟨d, op, T', pos, after, g, rfl, hd, h | h⟩ := ost_cases hT h
  · obtain ⟨hg, v, hs, hv⟩ := h
    rw [hs] at hr
    exact AO.val i hi hb rfl hg (fun w hw => hv he _ _ _ (hS w hw)) hd hr
  obtain ⟨hs, j, want, o', dj, rfl, h1, h2, h3 | h3⟩ := h
  · obtain ⟨u, h3, h4⟩ := h3
    rw [hs] at hr
    exact AO.pass i hi hb rfl h1 h2 h3 h4 hd hr
  rw [hs] at hr
  exact AO.passU i hi hb rfl h1 h2 h3 hd hr
end
inductive Fk where
  | sq (y : Code)
  | bk (id : Nat)
  | nm (k : Sig → World → Prop)
def itp (P : Program) (n : Nat) : List Fk → Post → Post
  | [], Q => Q
  | .sq y :: K, Q => thenQ (C P n y (itp P n K Q)) (itp P n K Q)
  | .bk id :: K, Q => blkQ id (itp P n K Q)
  | .nm k :: K, Q => thenQ k (itp P n K Q)
inductive Ct where
  | c (x : Code)
  | o (ops l : List Oper)
  | q (e : Exit)
  | y (S : World → Prop) (ops l : List Oper)
  | a (S : World → Prop) (ops : List Oper) (f : Nat) (ls : List Bool)
structure St where
  ct : Ct
  K : List Fk
  τ : Fm
def den (P : Program) (n : Nat) (Q : Post) (w : World) : St → Prop
  | ⟨ct, K, τ⟩ => match ct with
    | .c x => C P n x (itp P n K Q) (Sg τ) w
    | .o ops l => O P n ops l (itp P n K Q) (Sg τ) w
    | .q e => itp P n K Q e (Sg τ) w
    | .y S ops l => QO P n ops S (fun σ => ∀ w', S w' → itp P n K Q .normal σ w') l (Sg τ)
    | .a S ops f ls => AO P n ops S (fun σ w => itp P n K Q .normal σ w) f ls (Sg τ) w
def pop : Exit → List Fk → Ct × List Fk
  | e, [] => (.q e, [])
  | .normal, .sq y :: K => (.c y, K)
  | .normal, .bk _ :: K => pop .normal K
  | .normal, .nm k :: K => (.q .normal, .nm k :: K)
  | .exit i, .bk id :: K => bif Nat.beq i id then pop .normal K else pop (.exit i) K
  | e, _ :: K => pop e K
def stc (K : List Fk) (τ : Fm) : Code → Option St
  | .seq a b => some ⟨.c a, .sq b :: K, τ⟩
  | .region _ l dr => match dr with
    | false => some ⟨.o l.toList l.toList, K, τ⟩
    | true => none
  | .skip => match pop .normal K with
    | (ct, K') => some ⟨ct, K', τ⟩
  | .exit id => match pop (.exit id) K with
    | (ct, K') => some ⟨ct, K', τ⟩
  | .ret => match pop .ret K with
    | (ct, K') => some ⟨ct, K', τ⟩
  | .block id b => some ⟨.c b, .bk id :: K, τ⟩
  | .cond x a b => match sev τ x with
    | .e (.x (.b true)) => some ⟨.c a, K, τ⟩
    | .e (.x (.b false)) => some ⟨.c b, K, τ⟩
    | _ => none
  | _ => none
def stp (T : Nat → TyI) (M : List (List FE)) (n : Nat) (K : List Fk) (τ : Fm) (is : List Nat) : Ct → Option (St × List Nat × Obs)
  | .c x => match stc K τ x with
    | some s => some (s, is, [])
    | none => none
  | .o ops l => match l with
    | [] => match pop .normal K with
      | (ct, K') => some (⟨ct, K', τ⟩, is, [])
    | o :: rest => match ost T M n ops τ is o with
      | some (τ', is', ob) => some (⟨.o ops rest, K, τ'⟩, is', ob)
      | none => none
  | .y S ops l => match l with
    | [] => none
    | o :: rest => match ost T M n ops τ is o with
      | some (τ', is', ob) => some (⟨.y S ops rest, K, τ'⟩, is', ob)
      | none => none
  | _ => none
def norm (T : Nat → TyI) (M : List (List FE)) (n : Nat) : Nat → St → List Nat → Obs → Option (St × Obs)
  | 0, s, _, ob => some (s, ob)
  | k + 1, ⟨ct, K, τ⟩, is, ob => match stp T M n K τ is ct with
    | some (s', is', ob') => norm T M n k s' is' (ob' ++ ob)
    | none => none
section
variable {P : Program} {n : Nat} {Q : Post} {T : Nat → TyI} {τ τ' : Fm} {w0 w : World} {R : List (Option Nat)} {M : List (List FE)} {ops rest : List Oper} {is is' : List Nat} {ob ob' : Obs}
theorem pop_ok {K : List Fk} : ∀ {e : Exit} {ct : Ct} {K' : List Fk}, pop e K = (ct, K') → den P n Q w ⟨ct, K', τ⟩ → itp P n K Q e (Sg τ) w := by
  induction K with
  | nil => intro e ct K' h hd; simp [pop] at h; obtain ⟨rfl, rfl⟩ := h; exact hd
  | cons f K ih =>
    intro e ct K' h hd
    cases f with
    | sq y =>
      cases e <;> simp only [pop] at h
      case normal => cases h; exact hd
      all_goals exact ih h hd
    | nm y =>
      cases e <;> simp only [pop] at h
      case normal => cases h; exact hd
      all_goals exact ih h hd
    | bk id =>
      cases e <;> simp only [pop] at h
      case exit i =>
        show bif Nat.beq i id then _ else _
        cases hb : Nat.beq i id <;> rw [hb] at h <;> exact ih h hd
      all_goals exact ih h hd
theorem pop_n {K : List Fk} : ∀ {e : Exit} {ct : Ct} {K' : List Fk}, pop e K = (ct, K') → ∀ S ops l, ct ≠ .y S ops l := by
  induction K with
  | nil => intro e ct K' h; simp [pop] at h; obtain ⟨rfl, rfl⟩ := h; simp
  | cons f K ih =>
    intro e ct K' h
    cases f with
    | sq y =>
      cases e <;> simp only [pop] at h
      case normal => cases h; simp
      all_goals exact ih h
    | nm y =>
      cases e <;> simp only [pop] at h
      case normal => cases h; simp
      all_goals exact ih h
    | bk id =>
      cases e <;> simp only [pop] at h
      case exit i => cases hb : Nat.beq i id <;> rw [hb] at h <;> exact ih h
      all_goals exact ih h
theorem eqA_map {ob : Obs} (h : ob.map (·.1) = ob.map (·.2)) : EqA ob := by
  induction ob with
  | nil => trivial
  | cons p l ih => simp at h; exact ⟨h.1, ih (by simpa using h.2)⟩
theorem stc_ok {K : List Fk} {c : Code} {s : St} (h : stc K τ c = some s) (hd : den P n Q w s) : C P n c (itp P n K Q) (Sg τ) w := by
  unfold stc at h
  split at h
  · cases h; exact C.seq hd
  · rename_i id l dr
    split at h
    · cases h
      have := C.region (id := id) (l := l.toList) hd
      simpa using this
    cases h
  · split at h
    rename_i hp
    cases h; exact C.skip (pop_ok hp hd)
  · split at h
    rename_i hp
    cases h; exact C.exit (pop_ok hp hd)
  · split at h
    rename_i hp
    cases h; exact C.ret (pop_ok hp hd)
  · cases h; exact C.block hd
  · rename_i x a b
    have hx := sev_val (τ := τ) x
    split at h
    · rename_i h1; rw [h1] at hx
      cases h; exact C.condT hx hd
    · rename_i h1; rw [h1] at hx
      cases h; exact C.condF hx hd
    cases h
  cases h
theorem stc_n {K : List Fk} {c : Code} {s : St} (h : stc K τ c = some s) : ∀ S ops l, s.ct ≠ .y S ops l := by
  unfold stc at h
  split at h
  · cases h; simp
  · split at h
    · cases h; simp
    cases h
  · split at h
    rename_i hp
    cases h; exact pop_n hp
  · split at h
    rename_i hp
    cases h; exact pop_n hp
  · split at h
    rename_i hp
    cases h; exact pop_n hp
  · cases h; simp
  · split at h
    · cases h; simp
    · cases h; simp
    cases h
  cases h
def qOK (w0 : World) (R : List (Option Nat)) (M : List (List FE)) (ct : Ct) : Prop := ∀ S ops l, ct = .y S ops l → ∀ w, S w → Mem w0 w R M
theorem stp_ok {ct : Ct} {K : List Fk} {s' : St} (hT : TabOK P T) (hM : Mem w0 w R M) (hq : qOK w0 R M ct) (h : stp T M n K τ is ct = some (s', is', ob)) (he : EqA ob) (hd : den P n Q w s') : den P n Q w ⟨ct, K, τ⟩ ∧ qOK w0 R M s'.ct := by
  unfold stp at h
  split at h
  · split at h
    · rename_i h1
      cases h; exact ⟨stc_ok h1 hd, fun _ _ _ e => absurd e (stc_n h1 _ _ _)⟩
    cases h
  · split at h
    · split at h
      rename_i hp
      cases h; exact ⟨O.nil (pop_ok hp hd), fun _ _ _ e => absurd e (pop_n hp _ _ _)⟩
    split at h
    · rename_i h1
      cases h
      exact ⟨ost_o hT hM h1 he hd, fun _ _ _ e => by cases e⟩
    cases h
  · split at h
    · cases h
    split at h
    · rename_i h1
      cases h
      exact ⟨ost_y hT (hq _ _ _ rfl) h1 he hd, fun _ _ _ e => by cases e; exact hq _ _ _ rfl⟩
    cases h
  cases h
theorem norm_ob : ∀ {k : Nat} {s s' : St} {is : List Nat} {ob ob' : Obs}, norm T M n k s is ob = some (s', ob') → EqA ob' → EqA ob := by
  intro k
  induction k with
  | zero => intro s s' is ob ob' h he; simp [norm] at h; obtain ⟨_, rfl⟩ := h; exact he
  | succ k ih =>
    intro s s' is ob ob' h he
    obtain ⟨ct, K, τ⟩ := s
    unfold norm at h
    split at h
    · exact (EqA.append.1 (ih h he)).2
    cases h
theorem norm_ok : ∀ {k : Nat} {s s' : St} {is : List Nat} {ob ob' : Obs}, TabOK P T → Mem w0 w R M → qOK w0 R M s.ct → norm T M n k s is ob = some (s', ob') → EqA ob' → den P n Q w s' → den P n Q w s := by
  intro k
  induction k with
  | zero => intro s s' is ob ob' hT hM hq h he hd; simp [norm] at h; obtain ⟨rfl, _⟩ := h; exact hd
  | succ k ih =>
    intro s s' is ob ob' hT hM hq h he hd
    obtain ⟨ct, K, τ⟩ := s
    unfold norm at h
    split at h
    · rename_i s1 is1 ob1 h1
      have he1 := (EqA.append.1 (norm_ob h he)).1
      have hq1 : qOK w0 R M s1.ct := by
        unfold stp at h1
        split at h1
        · split at h1
          · rename_i h2
            cases h1; exact fun _ _ _ e => absurd e (stc_n h2 _ _ _)
          cases h1
        · split at h1
          · split at h1
            rename_i hp
            cases h1; exact fun _ _ _ e => absurd e (pop_n hp _ _ _)
          split at h1
          · cases h1; exact fun _ _ _ e => by cases e
          cases h1
        · split at h1
          · cases h1
          split at h1
          · cases h1
            exact fun _ _ _ e => by cases e; exact hq _ _ _ rfl
          cases h1
        cases h1
      exact (stp_ok hT hM hq h1 he1 (ih hT hM hq1 h he hd)).1
    cases h
def nrmA (T : Nat → TyI) (M : List (List FE)) (n : Nat) (ops : List Oper) : List Nat → Fm → List Bool → List Nat → Obs → Option (Fm × List Bool × Obs)
  | [], τ, ls, _, ob => some (τ, ls, ob)
  | i :: ix, τ, ls, is, ob => match nth ops i with
    | some o => match ost T M n ops τ is o with
      | some (τ', is', ob') => nrmA T M n ops ix τ' (ls.set i true) is' (ob' ++ ob)
      | none => none
    | none => none
def takesB (ops : List Oper) : List Bool → List Nat → Bool
  | _, [] => true
  | ls, i :: ix => takeB ops ls i && takesB ops (ls.set i true) ix
theorem nrmA_ok {S : World → Prop} {K : Sig → World → Prop} : ∀ {ix : List Nat} {τ τ' : Fm} {ls ls' : List Bool} {is : List Nat} {ob ob' : Obs} {f : Nat}, TabOK P T → (∀ w, S w → Mem w0 w R M) → nrmA T M n ops ix τ ls is ob = some (τ', ls', ob') → EqA ob' → takesB ops ls ix = true → AO P n ops S K f ls' (Sg τ') w → EqA ob ∧ AO P n ops S K (f + ix.length) ls (Sg τ) w := by
  intro ix
  induction ix with
  | nil => intro τ τ' ls ls' is ob ob' f hT hS h he hk hd; simp [nrmA] at h; obtain ⟨rfl, rfl, rfl⟩ := h; exact ⟨he, hd⟩
  | cons i ix ih =>
    intro τ τ' ls ls' is ob ob' f hT hS h he hk hd
    unfold nrmA at h
    simp only [takesB, Bool.and_eq_true] at hk
    split at h
    · rename_i o ho
      split at h
      · rename_i τ1 is1 ob1 h1
        obtain ⟨he1, hr⟩ := ih hT hS h he hk.2 hd
        obtain ⟨he2, he3⟩ := EqA.append.1 he1
        exact ⟨he3, ost_a hT hS ho hk.1 h1 he2 hr⟩
      cases h
    cases h
end
class TabC (P : Program) (T : outParam (Nat → TyI)) : Prop where
  h : TabOK P T
def Run (k : Nat) (is : List Nat) (q p : Prop) : Prop := q → p
def RunA (ix is : List Nat) (q p : Prop) : Prop := q → p
section
variable {P : Program} {n : Nat} {Q : Post} {T : Nat → TyI} {τ τ' : Fm} {w0 w : World} {R : List (Option Nat)} {M : List (List FE)} {ops rest l : List Oper} {is ix : List Nat} {ob : Obs} {K : List Fk} {k f f' : Nat} {q p : Prop}
theorem gR {s s' : St} (hM : Mem w0 w R M := by assumption) (hT : TabC P T := by exact inferInstance) (h : norm T M n k s is [] = some (s', ob) := by exact rfl) (he : ob.map (·.1) = ob.map (·.2) := by exact rfl) (hq : qOK w0 R M s.ct := by exact fun _ _ _ e => by cases e) : Run k is (den P n Q w s') (den P n Q w s) :=
  norm_ok hT.h hM hq h (eqA_map he)
theorem gY {s' : St} (hM : Mem w0 w R M := by assumption) (hT : TabC P T := by exact inferInstance) (h : norm T M n k ⟨.y (fun w2 => Mem w0 w2 R M) ops l, K, τ⟩ is [] = some (s', ob) := by exact rfl) (he : ob.map (·.1) = ob.map (·.2) := by exact rfl) : Run k is (den P n Q w s') (den P n Q w ⟨.y (fun w2 => Mem w0 w2 R M) ops l, K, τ⟩) :=
  norm_ok hT.h hM (fun S ops l e w hw => by cases e; exact hw) h (eqA_map he)
theorem gA {S : World → Prop} {ls ls' : List Bool} (hT : TabC P T := by exact inferInstance) (hS : ∀ w, S w → Mem w0 w R M := by exact fun _ h => h) (h : nrmA T M n ops ix τ ls is [] = some (τ', ls', ob) := by exact rfl) (he : ob.map (·.1) = ob.map (·.2) := by exact rfl) (hf : f' = f + ix.length := by exact rfl) (hk : takesB ops ls ix = true := by kernel_rfl) :
    RunA ix is (den P n Q w ⟨.a S ops f ls', K, τ'⟩) (den P n Q w ⟨.a S ops f' ls, K, τ⟩) := fun hd => by
  subst hf
  exact (nrmA_ok hT.h hS h (eqA_map he) hk hd).2
theorem toO {v : Value} {d : Nat} (h : Run k is q (den P n Q w ⟨.o ops l, K, up τ d (liftV v)⟩)) : Run k is q (O P n ops l (itp P n K Q) (upd (Sg τ) d v) w) := fun hq => by
  rw [upd_Sg]; exact h hq
theorem toOp {A : Option Addr} {j d : Nat} (h : Run k is q (den P n Q w ⟨.o ops l, K, up τ d (sx (.p A j))⟩)) : Run k is q (O P n ops l (itp P n K Q) (upd (Sg τ) d (.pointer (ofs A j))) w) := fun hq => by
  rw [upd_SgP]; exact h hq
theorem toOs (h : Run k is q (den P n Q w ⟨.o ops l, K, τ⟩)) : Run k is q (O P n ops l (itp P n K Q) (Sg τ) w) := h
end
end Go.Px
namespace Go.Px
open Go.RowKit
theorem q0 {p : Prop} (h : p := by first | omega | assumption | (simp; omega) | simp | (intros; omega)) : p := h
theorem q2 {p : Prop} (h : p := by first | omega | (simp; omega)) : p := h
theorem qo {p : Prop} (h : p := by omega) : p := h
class ElC (P : Program) (T : TypeId) (zs : outParam (List Value)) (bytes : outParam Nat) (agg : outParam Bool) : Prop where h : ElT P T zs bytes agg
class UnC (P : Program) (T : TypeId) (d : outParam TypeDesc) : Prop where h : P.underlying T = some d
class FlC (P : Program) (T : TypeId) (f : Nat) (off : outParam Nat) : Prop where h : FlT P T f off
class EnC (P : Program) (f : FuncId) : Prop where h : Enters P f
class EnL {α : Type} (enc : α → List Value) (n : outParam Nat) : Prop where h : ∀ a, (enc a).length = n
class MxC (P : Program) : Prop where h : P.follows .mixedOrders = true
inductive Pk (M : List (List FE)) : List Nat → List (List FE) → Prop
  | nil : Pk M [] []
  | cons {i : Nat} {is : List Nat} {r : List FE} {N : List (List FE)} (h : M[i]? = some r) (t : Pk M is N) : Pk M (i :: is) (r :: N)
theorem Pk.eq {M N : List (List FE)} {is : List Nat} (h : Pk M is N) : Px.pick M is = N := by
  induction h with
  | nil => rfl
  | cons h _ ih => simp [Px.pick, h, ih]
theorem Pk.mem {M N : List (List FE)} {is : List Nat} {w0 w : World} {R : List (Option Nat)} (h : Pk M is N) (hn : is.Nodup) (hM : Mem w0 w R M) : Mem w0 w R N := Mem.pick hM is hn h.eq
theorem n9 {α : Type} {l l' : List α} (h : Nf l l' := by (repeat (first | exact Go.Px.Nf.nil rfl | (apply Go.Px.Nf.cons; exact rfl)))) : Nf l l' := h
section
variable {w0 w w1 : World} {R : List (Option Nat)} {M : List (List FE)}
theorem Mem.pk (h : Mem w0 w R M) (is : List Nat) {N : List (List FE)} (hp : Pk M is N := by (repeat (first | exact Go.Px.Pk.nil | (apply Go.Px.Pk.cons; exact rfl)))) (hn : is.Nodup := by decide) : Mem w0 w R N := hp.mem hn h
theorem Mem.fp (h : Mem w0 w R M) (is : List Nat) {Ma : List (List FE)} {R' : List (Option Nat)} (ha : Px.pick M is = Ma) (hR : blks Ma = R') (hn : is.Nodup := by decide) : Mem w w R' Ma := Mem.focus (rest := []) (R := R) (w0 := w0) (by rw [List.append_nil]; exact Mem.pick h is hn ha) hR
theorem Mem.cl (h : Mem w0 w R M) (k : Nat) {M1 : List (List FE)} {R' : List (Option Nat)} (h1 : Mem w w1 R' M1) {Ma rest N : List (List FE)} (ha : Nf (M.take k) Ma := by exact Go.Px.n9) (hb : Nf (M.drop k) rest := by exact Go.Px.n9) (hR : blks Ma = R' := by exact rfl) (hN : Nf (M1 ++ rest) N := by exact Go.Px.n9) : Mem w0 w1 R N := by
  have e : M = Ma ++ rest := by rw [← ha.h, ← hb.h, List.take_append_drop]
  rw [e] at h
  rw [← hN.h]
  exact Mem.call h h1 hR
theorem Mem.reM (h : Mem w0 w R M) (i : Nat) {α : Type} {l l' : List α} (e : l = l') {f : α → Value} {A : Option Addr} {n c : Nat} {t : TypeId} {N : List (List FE)} (hi : M[i]? = some [⟨.slice A n c, t, 1, n, l.map f⟩] := by exact rfl) (hn : n = l.length ∨ n = l'.length := by first | exact .inl rfl | exact .inr rfl | (left; first | (simp; done) | omega | (simp; omega)) | (right; first | (simp; done) | omega | (simp; omega))) (hN : Nf (M.set i [⟨.slice A l'.length c, t, 1, l'.length, l'.map f⟩]) N := by exact Go.Px.n9) : Mem w0 w R N := Mem.relen h i hi (hn.elim (fun h => h.trans (congrArg List.length e)) id) (by rw [e]) hN.h
theorem Mem.reF (h : Mem w0 w R M) (i : Nat) {α : Type} {l l' : List α} (e : l = l') {f : α → List Value} {A : Option Addr} {n c sz : Nat} {t : TypeId} {N : List (List FE)} (hi : M[i]? = some [⟨.slice A n c, t, sz, n, l.flatMap f⟩] := by exact rfl) (hn : n = l.length ∨ n = l'.length := by first | exact .inl rfl | exact .inr rfl | (left; first | (simp; done) | omega | (simp; omega)) | (right; first | (simp; done) | omega | (simp; omega))) (hN : Nf (M.set i [⟨.slice A l'.length c, t, sz, l'.length, l'.flatMap f⟩]) N := by exact Go.Px.n9) : Mem w0 w R N := Mem.relen h i hi (hn.elim (fun h => h.trans (congrArg List.length e)) id) (by rw [e]) hN.h
end
theorem smq {α : Type} {enc : α → List Value} {n k : Nat} {l : List α} {A : Option Addr} {w : World} (hn : ∀ a, (enc a).length = n) (h : Rd w A (l.flatMap enc)) (hk : k < l.length) (h0 : 0 < n) : A.isSome = true := by
  have h1 : 0 < (enc l[k]).length := by rw [hn]; exact h0
  exact smf (v := (enc l[k])[0]) hn h hk (by simp [h1])
theorem flat_fit {α : Type} {enc : α → List Value} {n k m : Nat} {l : List α} (hn : ∀ a, (enc a).length = n) (hk : k < l.length) {o : Nat} (ho : o + m ≤ n) : k * n + o + m ≤ (l.flatMap enc).length := by
  rw [flat_len hn]
  have : (k + 1) * n ≤ l.length * n := Nat.mul_le_mul_right _ hk
  rw [Nat.add_mul] at this
  omega
theorem set_mid {α : Type} {M M1 M2 : List α} {i : Nat} {r x : α} (hi : M[i]? = some r) (h1 : M.take i = M1) (h2 : M.drop (i + 1) = M2) : M.set i x = M1 ++ (x :: M2) := by
  obtain ⟨hlt, _⟩ := List.getElem?_eq_some_iff.1 hi
  rw [← h1, ← h2, List.set_eq_take_append_cons_drop, if_pos hlt]
theorem Has.app {σ : Sig} : ∀ {l1 l2 : List (Nat × Value)}, Has σ l1 → Has σ l2 → Has σ (l1 ++ l2)
  | [], _, _, h => h
  | _ :: _, _, h1, h2 => ⟨h1.1, Has.app h1.2 h2⟩
theorem Pk.app {M N N' : List (List FE)} {is is' : List Nat} (h : Pk M is N) (h' : Pk M is' N') : Pk M (is ++ is') (N ++ N') := by
  induction h with
  | nil => exact h'
  | cons h _ ih => exact .cons h ih
section
variable {w0 w : World} {R : List (Option Nat)} {M : List (List FE)}
theorem Mem.reR (h : Mem w0 w R M) (i : Nat) {r r' : List FE} (e : r = r') {N : List (List FE)} (hi : M[i]? = some r) (hN : Nf (M.set i r') N) : Mem w0 w R N := by
  subst e
  obtain ⟨hlt, he⟩ := List.getElem?_eq_some_iff.1 hi
  rw [← hN.h, ← he, List.set_getElem_self]
  exact h
theorem Mem.reK (h : Mem w0 w R M) (i : Nat) {α : Type} {l l' : List α} (e : l = l') {f : α → List FE} {N : List (List FE)} (hi : M[i]? = some (l.flatMap f) := by exact rfl) (hN : Nf (M.set i (l'.flatMap f)) N := by exact Go.Px.n9) : Mem w0 w R N := h.reR i (by rw [e]) hi hN
theorem Mem.reA (h : Mem w0 w R M) (i : Nat) {α : Type} {l l' : List α} (e : l = l') {f : α → Value} {v : Value} {t : TypeId} {sz m : Nat} {N : List (List FE)} (hi : M[i]? = some [⟨v, t, sz, m, l.map f⟩] := by exact rfl) (hN : Nf (M.set i [⟨v, t, sz, m, l'.map f⟩]) N := by exact Go.Px.n9) : Mem w0 w R N := h.reR i (by rw [e]) hi hN
theorem Mem.reC (h : Mem w0 w R M) (i : Nat) {xs xs' : List Value} (e : xs = xs') {v : Value} {t : TypeId} {sz m : Nat} {N : List (List FE)} (hi : M[i]? = some [⟨v, t, sz, m, xs⟩] := by exact rfl) (hN : Nf (M.set i [⟨v, t, sz, m, xs'⟩]) N := by exact Go.Px.n9) : Mem w0 w R N := h.reR i (by rw [e]) hi hN
theorem Mem.reB (h : Mem w0 w R M) (i c : Nat) {a a' : Nat} (e : a = a') {v : Value} {t : TypeId} {sz m k : Nat} {A : Option Addr} {xs xs' : List Value} {N : List (List FE)} (hi : M[i]? = some [⟨v, t, sz, m, xs⟩] := by exact rfl) (hc : xs[c]? = some (.slice A a k) := by exact rfl) (hx : Nf (xs.set c (.slice A a' k)) xs' := by exact Go.Px.n9) (hN : Nf (M.set i [⟨v, t, sz, m, xs'⟩]) N := by exact Go.Px.n9) : Mem w0 w R N := h.reC i (by
  subst e
  obtain ⟨hlt, he⟩ := List.getElem?_eq_some_iff.1 hc
  rw [← hx.h, ← he, List.set_getElem_self]) hi hN
end
def ty0 : TyI := ⟨[], none, false, false, none⟩
def FlA (P : Program) (t : Nat) : List (Nat × Nat) → Prop
  | [] => True
  | p :: l => FlT P t p.1 p.2 ∧ FlA P t l
def ElA (P : Program) (t : Nat) : Option (Nat × Bool) → Prop
  | none => True
  | some (n, a) => ∃ zs bytes, ElT P t zs bytes a ∧ zs.length = n
def ZsA (P : Program) (t : Nat) : Option (List At) → Prop
  | none => True
  | some l => OneF P t (l.map At.val)
structure TyOK (P : Program) (t : Nat) (x : TyI) : Prop where
  fl : FlA P t x.fl
  el : ElA P t x.el
  sl : x.sl = true → ∃ e, P.underlying t = some (.slice e)
  st : x.st = true → P.underlying t = some .string
  zs : ZsA P t x.zs
theorem TyOK.nil {P : Program} {t : Nat} : TyOK P t ty0 := ⟨trivial, trivial, nofun, nofun, trivial⟩
def AllT (P : Program) : Nat → List TyI → Prop
  | _, [] => True
  | k, x :: l => TyOK P k x ∧ AllT P (k + 1) l
def AllT2 (P : Program) (W : Nat) : Nat → List (List TyI) → Prop
  | _, [] => True
  | k, c :: l => AllT P k c ∧ AllT2 P W (k + W) l
def tyAt : List TyI → Nat → TyI
  | [], _ => ty0
  | x :: _, 0 => x
  | _ :: l, k + 1 => tyAt l k
def tyRow : List (List TyI) → Nat → List TyI
  | [], _ => []
  | c :: _, 0 => c
  | _ :: l, k + 1 => tyRow l k
def tyGet (W : Nat) (L : List (List TyI)) (t : Nat) : TyI := tyAt (tyRow L (t / W)) (t % W)
theorem allT_at {P : Program} : ∀ {l : List TyI} {k i : Nat}, AllT P k l → TyOK P (k + i) (tyAt l i)
  | [], _, _, _ => .nil
  | x :: l, k, 0, h => h.1
  | x :: l, k, i + 1, h => by
    have := allT_at (i := i) h.2
    rwa [Nat.add_assoc, Nat.add_comm 1 i] at this
theorem allT_row {P : Program} {W : Nat} : ∀ {L : List (List TyI)} {k i : Nat}, AllT2 P W k L → AllT P (k + i * W) (tyRow L i)
  | [], _, _, _ => trivial
  | c :: L, k, 0, h => by simpa [tyRow] using h.1
  | c :: L, k, i + 1, h => by
    have := allT_row (i := i) h.2
    rwa [Nat.add_assoc, Nat.add_comm W, ← Nat.succ_mul] at this
theorem asc1_ok {P : Program} {t f off : Nat} : ∀ {l : List (Nat × Nat)}, FlA P t l → asc1 l f = some off → FlT P t f off
  | [], _, h => by simp [asc1] at h
  | p :: l, hl, h => by
    unfold asc1 at h
    cases hb : Nat.beq p.1 f with
    | true => rw [hb] at h; simp at h; have := Nat.eq_of_beq_eq_true hb; subst this; subst h; exact hl.1
    | false => rw [hb] at h; exact asc1_ok hl.2 h
theorem tab_ok {P : Program} {W : Nat} {L : List (List TyI)} (_hW : 0 < W) (h : AllT2 P W 0 L) (_h2 : true = true) : TabOK P (tyGet W L) := by
  have key : ∀ t, TyOK P t (tyGet W L t) := by
    intro t
    have h1 := allT_at (i := t % W) (allT_row (i := t / W) h)
    rwa [Nat.zero_add, Nat.mul_comm, Nat.div_add_mod] at h1
  refine ⟨fun t f off hf => asc1_ok (key t).fl hf, fun t n a he => ?_, fun t => (key t).sl, fun t => (key t).st, fun t l hz => ?_⟩
  · have := (key t).el; rw [he] at this; exact this
  have := (key t).zs; rw [hz] at this; exact this
abbrev Vi (a : Int) : SV := sx (.i a)
abbrev Vn (k : IntKind) (a : Int) : SV := sx (.n k a)
abbrev Vb (x : Bool) : SV := sx (.b x)
abbrev Vd (p : Prop) [h : Decidable p] : SV := sx (.d p h)
abbrev Vs (l : Str) : SV := sx (.s l)
abbrev Vl (A : Option Addr) (n c : Nat) : SV := sx (.sl A n c)
abbrev Vp (A : Option Addr) (k : Nat) : SV := sx (.p A k)
abbrev Vr (v : Value) : SV := sx (.r v)
abbrev Va (l : List At) : SV := .e (.g l)
abbrev Vt (l : List EV) : SV := .t l
structure Rk (P : Program) (τ : Fm) (o : Oper) (w : World) (s : SV) : Prop where h : Ru P (Sg τ) o w s.val
def keep (τ : Fm) : List Nat → Option (List (Nat × SV))
  | [] => some []
  | k :: ks => match frc (τ k) with
    | some s => match keep τ ks with
      | some l => some ((k, s) :: l)
      | none => none
    | none => none
theorem keep_has {τ : Fm} : ∀ {ks : List Nat} {KS : List (Nat × SV)}, keep τ ks = some KS → Has (Sg τ) (vals KS)
  | [], KS, h => by simp [keep] at h; subst h; trivial
  | k :: ks, KS, h => by
    unfold keep at h
    split at h
    · rename_i s hs
      split at h
      · rename_i l hl
        cases h
        exact ⟨by rw [frc_ok hs]; rfl, keep_has hl⟩
      cases h
    cases h
theorem same_has {τ : Fm} : ∀ {KS : List (Nat × SV)}, KS.map (fun p => τ p.1) = KS.map (·.2) → Has (Sg τ) (vals KS)
  | [], _ => trivial
  | p :: l, h => by
    simp only [List.map_cons, List.cons.injEq] at h
    exact ⟨by show (τ p.1).val = p.2.val; rw [h.1], same_has h.2⟩
theorem vals_app (l l' : List (Nat × SV)) : vals (l ++ l') = vals l ++ vals l' := by simp [vals]
theorem has_app {σ : Sig} {l l' : List (Nat × SV)} (h : Has σ (vals l)) (h' : Has σ (vals l')) : Has σ (vals (l ++ l')) := by rw [vals_app]; exact Has.app h h'
def cellF : At → Option Value
  | .i a => some (I a)
  | .n k a => some (.int k a)
  | .b x => some (.bool x)
  | .d q h => some (.bool (@decide q h))
  | .s l => some (S l)
  | .sl A m c => some (.slice A m c)
  | .p A k => some (.pointer (ofs A k))
  | .r v => bif one v then some v else none
def cellsF : List At → Option (List Value)
  | [] => some []
  | a :: l => match cellF a with
    | some v => match cellsF l with
      | some r => some (v :: r)
      | none => none
    | none => none
def cls : SV → Option (List Value)
  | .e (.x a) => match cellF a with
    | some v => some [v]
    | none => none
  | .e (.g l) => cellsF l
  | .t _ => none
theorem cellF_ok {a : At} {v : Value} (h : cellF a = some v) : a.val = v ∧ one v = true := by
  cases a <;> simp only [cellF, Option.some.injEq] at h <;> first
    | (subst h; exact ⟨rfl, rfl⟩)
    | skip
  rename_i u
  cases hu : one u <;> rw [hu] at h <;> simp at h
  subst h; exact ⟨rfl, hu⟩
theorem cellsF_ok : ∀ {l : List At} {r : List Value}, cellsF l = some r → l.map At.val = r ∧ r.all one = true
  | [], r, h => by simp [cellsF] at h; subst h; simp
  | a :: l, r, h => by
    unfold cellsF at h
    split at h
    · rename_i v hv
      split at h
      · rename_i r' hr
        cases h
        obtain ⟨h1, h2⟩ := cellF_ok hv
        obtain ⟨h3, h4⟩ := cellsF_ok hr
        simp [h1, h2, h3, h4]
      cases h
    cases h
theorem one_cells {v : Value} (h : one v = true) : v.cells = #[v] := by
  cases v <;> first | rfl | exact absurd h (by simp [one, Value.oneCell'])
theorem cls_ok {s : SV} {vs : List Value} (h : cls s = some vs) : s.val.cells = vs.toArray ∧ vs.all one = true := by
  unfold cls at h
  split at h
  · split at h
    · rename_i v hv
      cases h
      obtain ⟨h1, h2⟩ := cellF_ok hv
      refine ⟨?_, by simp [h2]⟩
      show (At.val _).cells = _
      rw [h1, one_cells h2]
    cases h
  · obtain ⟨h1, h2⟩ := cellsF_ok h
    exact ⟨by rw [← h1]; rfl, h2⟩
  cases h
theorem p9 {k : Nat} {is : List Nat} {q p : Prop} (h : Run k is q p := by first | exact Go.Px.gY | exact Go.Px.gR | (refine Go.Px.toOs ?_; exact Go.Px.gR) | (refine Go.Px.toOp ?_; exact Go.Px.gR) | (refine Go.Px.toO ?_; exact Go.Px.gR) | (refine Go.Px.toC ?_; exact Go.Px.gR) | (refine Go.Px.toYp ‹_› ?_; exact Go.Px.gY) | (refine Go.Px.toY ‹_› ?_; exact Go.Px.gY)) : Run k is q p := h
theorem q9 {ix is : List Nat} {q p : Prop} (h : RunA ix is q p := by first | exact Go.Px.gA | (refine Go.Px.toAp ?_; exact Go.Px.gA) | (refine Go.Px.toA ?_; exact Go.Px.gA)) : RunA ix is q p := h
section
variable {P : Program} {n : Nat} {ops rest : List Oper} {Q : Post} {τ : Fm} {K : List Fk} {w w0 : World} {R : List (Option Nat)} {M : List (List FE)} {T U T' e t : TypeId} {pos : String} {after : Array Edge} {g : Option (Nat × Bool)} {x y z : Operand} {zs : List Value} {bytes : Nat} {agg : Bool} {d : Nat} {p : Prop} {dst : Option Tmp}
theorem go {q : Prop} (k9 : Nat) (is : List Nat) (hq : q) (pre : Run k9 is q p := by exact Go.Px.p9) : p := pre hq
theorem sevE {v : SV} (h : sev τ x = v) : ev (Sg τ) x = v.val := by rw [sev_val, h]
theorem ov {op : Op} {s : SV} (k9 : Nat) (is : List Nat)  (pre : Run k9 is (den P n Q w ⟨.o ops (⟨some d, op, T', pos, after, g⟩ :: rest), K, τ⟩) p := by exact Go.Px.p9) (hg : gok ops (Sg τ) g = true := by exact rfl) (hd : Nat.blt d n = true := by exact rfl) (a : Rk P τ ⟨some d, op, T', pos, after, g⟩ w s) (b : den P n Q w ⟨.o ops rest, K, up τ d (s)⟩) : p := pre (O.val hg a.h hd (by rw [← Sg_up]; exact b))
theorem qv {op : Op} {s : SV} {S : World → Prop} (k9 : Nat) (is : List Nat)  (pre : Run k9 is (den P n Q w ⟨.y S ops (⟨some d, op, T', pos, after, g⟩ :: rest), K, τ⟩) p := by exact Go.Px.p9) (hg : gok ops (Sg τ) g = true := by exact rfl) (hd : Nat.blt d n = true := by exact rfl) (a : ∀ w, S w → Rk P τ ⟨some d, op, T', pos, after, g⟩ w s) (b : den P n Q w ⟨.y S ops rest, K, up τ d s⟩) : p := pre (QO.val hg (fun w hw => (a w hw).h) hd (by rw [← Sg_up]; exact b))
theorem av {op : Op} {s : SV} {S : World → Prop} {f : Nat} {ls : List Bool} (ix is : List Nat) (i : Nat) (pre : RunA ix is (den P n Q w ⟨.a S ops (f + 1) ls, K, τ⟩) p := by exact Go.Px.q9) (hi : nth ops i = some ⟨some d, op, T', pos, after, g⟩ := by exact rfl) (hb : takeB ops ls i = true := by kernel_rfl) (hg : gok ops (Sg τ) g = true := by exact rfl) (hd : Nat.blt d n = true := by exact rfl) (a : ∀ w, S w → Rk P τ ⟨some d, op, T', pos, after, g⟩ w s) (b : den P n Q w ⟨.a S ops f (ls.set i true), K, up τ d s⟩) : p := pre (AO.val i hi hb rfl hg (fun w hw => (a w hw).h) hd (by rw [← Sg_up]; exact b))
theorem kadd {a b : Int}  (hx : sev τ x = Vi a := by exact rfl) (hy : sev τ y = Vi b := by exact rfl) (h : -9223372036854775808 ≤ a + b ∧ a + b ≤ 9223372036854775807 := by omega) : Rk P τ ⟨dst, .binOp .add T x y U, T', pos, after, g⟩ w (Vi (a + b)) := ⟨Ru.add (sevE hx) (sevE hy) h⟩
theorem kaddN {a b : Int} (m : Nat) (hx : sev τ x = Vi a := by exact rfl) (hy : sev τ y = Vi b := by exact rfl) (h : -9223372036854775808 ≤ a + b ∧ a + b ≤ 9223372036854775807 := by omega) (e : a + b = (m : Int) := by first | omega | simp) : Rk P τ ⟨dst, .binOp .add T x y U, T', pos, after, g⟩ w (Vi ((m : Nat) : Int)) := ⟨Ru.congr (Ru.add (sevE hx) (sevE hy) h) (I_congr e)⟩
theorem ksub {a b : Int}  (hx : sev τ x = Vi a := by exact rfl) (hy : sev τ y = Vi b := by exact rfl) (h : -9223372036854775808 ≤ a - b ∧ a - b ≤ 9223372036854775807 := by omega) : Rk P τ ⟨dst, .binOp .sub T x y U, T', pos, after, g⟩ w (Vi (a - b)) := ⟨Ru.sub (sevE hx) (sevE hy) h⟩
theorem kmulN {a b : Int} (m : Nat) (hx : sev τ x = Vi a := by exact rfl) (hy : sev τ y = Vi b := by exact rfl) (h : -9223372036854775808 ≤ a * b ∧ a * b ≤ 9223372036854775807 := by omega) (e : a * b = (m : Int) := by first | omega | simp) : Rk P τ ⟨dst, .binOp .mul T x y U, T', pos, after, g⟩ w (Vi ((m : Nat) : Int)) := ⟨Ru.congr (Ru.mul (sevE hx) (sevE hy) h) (I_congr e)⟩
theorem kquoN {a b : Int} (m : Nat) (hx : sev τ x = Vi a := by exact rfl) (hy : sev τ y = Vi b := by exact rfl) (h : 0 ≤ a ∧ a ≤ 9223372036854775807 ∧ 1 ≤ b := by omega) (e : a / b = (m : Int) := by first | omega | simp) : Rk P τ ⟨dst, .binOp .quo T x y U, T', pos, after, g⟩ w (Vi ((m : Nat) : Int)) := ⟨Ru.congr (Ru.quo (sevE hx) (sevE hy) h) (I_congr e)⟩
theorem krem {a b : Int}  (hx : sev τ x = Vi a := by exact rfl) (hy : sev τ y = Vi b := by exact rfl) (h : 0 ≤ a ∧ 1 ≤ b := by omega) : Rk P τ ⟨dst, .binOp .rem T x y U, T', pos, after, g⟩ w (Vi (a % b)) := ⟨Ru.rem (sevE hx) (sevE hy) h⟩
theorem kremN {a b : Int} (m : Nat) (hx : sev τ x = Vi a := by exact rfl) (hy : sev τ y = Vi b := by exact rfl) (h : 0 ≤ a ∧ 1 ≤ b := by omega) (e : a % b = (m : Int) := by first | omega | simp) : Rk P τ ⟨dst, .binOp .rem T x y U, T', pos, after, g⟩ w (Vi ((m : Nat) : Int)) := ⟨Ru.congr (Ru.rem (sevE hx) (sevE hy) h) (I_congr e)⟩
theorem kcv {a : Int} {dd : TypeDesc}    (hT : UnC P T dd := by exact inferInstance) (hU : UnC P U (.int .i64) := by exact inferInstance) (hx : sev τ x = Vn .u8 a := by exact rfl) (h : 0 ≤ a ∧ a ≤ 255 := by first | omega | exact Go.Px.u8_le _) : Rk P τ ⟨dst, .convert T U x, T', pos, after, g⟩ w (Vi a) := ⟨Ru.conv hT.h hU.h (sevE hx) (wrap_u8 _ h)⟩
theorem kixF {w9 : World} {α : Type} {enc : α → List Value} {nn : Nat}  {l : List α} {A : Option Addr} {j m c : Nat} {k : IntKind} {i : Int}   (hj : j < l.length) (hr : Rd w9 A (l.flatMap enc)) (hT : UnC P T (.slice e) := by exact inferInstance) (he : ElC P e zs bytes agg := by exact inferInstance) (hx : sev τ x = Vl A m c := by exact rfl) (hy : ev (Sg τ) y = .int k i := by exact rfl) (hi : i.toNat = j := by omega) (hl : EnL enc nn := by exact inferInstance) (h0 : 0 ≤ i ∧ i < m := by first | omega | (simp; omega)) (hz : zs.length = nn := by exact rfl) (hn : Nat.blt 0 nn = true := by exact rfl) : Rk P τ ⟨dst, .indexAddr T x y, T', pos, after, g⟩ w (Vp A (j * nn)) := ⟨by subst hz; exact Ru.indexA hT.h he.h (sevE hx) hy (smq hl.h hr hj (by simpa using hn)) hi h0⟩
theorem kixM {w9 : World} {α : Type} {f : α → Value} {l : List α} {A : Option Addr} {j m c : Nat} {k : IntKind} {i : Int}   (hj : j < l.length) (hr : Rd w9 A (l.map f)) (hT : UnC P T (.slice e) := by exact inferInstance) (he : ElC P e zs bytes agg := by exact inferInstance) (hx : sev τ x = Vl A m c := by exact rfl) (hy : ev (Sg τ) y = .int k i := by exact rfl) (hi : i.toNat = j := by omega) (h0 : 0 ≤ i ∧ i < m := by first | omega | (simp; omega)) (hz : zs.length = 1 := by exact rfl) : Rk P τ ⟨dst, .indexAddr T x y, T', pos, after, g⟩ w (Vp A (j * 1)) := ⟨by have h := Ru.indexA (dst := dst) (T' := T') (pos := pos) (after := after) (g := g) (w := w) hT.h he.h (sevE hx) hy (smm hr hj) hi h0; rw [hz] at h; exact h⟩
theorem kflF {w9 : World} {α : Type} {enc : α → List Value} {nn : Nat}  {l : List α} {A : Option Addr} {j k f off : Nat}  (hj : j < l.length) (hr : Rd w9 A (l.flatMap enc)) (hl : EnL enc nn := by exact inferInstance) (hf : FlC P T f off := by exact inferInstance) (hx : sev τ x = Vp A k := by exact rfl) (hn : Nat.blt 0 nn = true := by exact rfl) : Rk P τ ⟨dst, .fieldAddr T x f, T', pos, after, g⟩ w (Vp A (k + off)) := ⟨Ru.fieldA hf.h (sevE hx) (smq hl.h hr hj (by simpa using hn))⟩
theorem kldM {α : Type} {f : α → Value} {l : List α} {A : Option Addr} {j : Nat}  (hj : j < l.length) (hr : Rd w A (l.map f)) (he : ElC P T zs bytes false := by exact inferInstance) (hx : sev τ x = Vp A (j * 1) := by exact rfl) : Rk P τ ⟨dst, .load T x, T', pos, after, g⟩ w (liftV (f l[j])) := ⟨by rw [liftV_val]; exact Ru.load1 he.h (sevE hx) (ldm hr hj)⟩
theorem kldF {α : Type} {enc : α → List Value} {nn : Nat}  {l : List α} {A : Option Addr} {j off : Nat} {v : Value}  (hj : j < l.length) (hr : Rd w A (l.flatMap enc)) (hl : EnL enc nn := by exact inferInstance) (he : ElC P T zs bytes false := by exact inferInstance) (hx : sev τ x = Vp A (j * nn + off) := by exact rfl) (hv : (enc l[j])[off]? = some v := by exact rfl) : Rk P τ ⟨dst, .load T x, T', pos, after, g⟩ w (liftV v) := ⟨by rw [liftV_val]; exact Ru.load1 he.h (sevE hx) (ldf hl.h hr hj hv)⟩
theorem kldN {α : Type} {enc : α → List Value} {nn : Nat}  {l : List α} {A : Option Addr} {j : Nat} {at9 : List At}  (hj : j < l.length) (hr : Rd w A (l.flatMap enc)) (hl : EnL enc nn := by exact inferInstance) (he : ElC P T zs bytes true := by exact inferInstance) (hx : sev τ x = Vp A (j * nn) := by exact rfl) (hv : ldN (enc l[j]) nn = some at9 := by exact rfl) (hz : zs.length = nn := by exact rfl) (hn : Nat.blt 0 nn = true := by exact rfl) : Rk P τ ⟨dst, .load T x, T', pos, after, g⟩ w (Va at9) := ⟨by
  have hv1 : at9.map At.val = enc l[j] := (ldN_ok hv).1.trans (List.take_of_length_le (by rw [hl.h]; exact Nat.le_refl _))
  exact Ru.loadN (vs := at9.map At.val) he.h (sevE hx) (by rw [hv1, hl.h, hz]) (smq hl.h hr hj (by simpa using hn)) (by rw [hv1]; exact ldn hl.h hr hj)⟩
theorem cv {v : Value} {s : SV} {o : Oper} (h : Ru P (Sg τ) o w v) (e : v = s.val) : Rk P τ o w s := ⟨e ▸ h⟩
theorem Bx {k : Nat} {vs : List Value} (k9 : Nat) (is : List Nat) (h : ∀ w' b, w0.heap.size ≤ b → Mem w0 w' R ([⟨.slice (bl b) 1 1, T, k, 1, vs⟩] :: M) → den P n Q w' ⟨.o ops rest, K, up τ d (sx (.p (bl b) 0))⟩) (pre : Run k9 is (den P n Q w ⟨.o ops (⟨some d, .box T x, T', pos, after, g⟩ :: rest), K, τ⟩) p := by exact Go.Px.p9) (hg : gok ops (Sg τ) g = true := by exact rfl) (hM : Mem w0 w R M := by assumption) (hx : cls (sev τ x) = some vs := by exact rfl) (hk : vs.length = k := by exact rfl) (hd : Nat.blt d n = true := by exact rfl) : p := pre (O.mbox hM hg (sev_val x) (cls_ok hx).1 hk hd fun w' b h1 h2 => by rw [show (Value.pointer (ofs (bl b) 0)) = (sx (.p (bl b) 0)).val from rfl, ← Sg_up]; exact h w' b h1 h2)
theorem Al {k : Nat}  (k9 : Nat) (is : List Nat) (h : ∀ w' b, w0.heap.size ≤ b → Mem w0 w' R ([⟨.slice (bl b) 1 1, T, k, 1, zs⟩] :: M) → den P n Q w' ⟨.o ops rest, K, up τ d (sx (.p (bl b) 0))⟩) (pre : Run k9 is (den P n Q w ⟨.o ops (⟨some d, .alloc T, T', pos, after, g⟩ :: rest), K, τ⟩) p := by exact Go.Px.p9) (he : ElC P T zs bytes agg := by exact inferInstance) (hg : gok ops (Sg τ) g = true := by exact rfl) (hM : Mem w0 w R M := by assumption) (hk : zs.length = k := by exact rfl) (hd : Nat.blt d n = true := by exact rfl) : p := pre (O.malloc hM hg hd he.h hk fun w' b h1 h2 => by rw [show (Value.pointer (ofs (bl b) 0)) = (sx (.p (bl b) 0)).val from rfl, ← Sg_up]; exact h w' b h1 h2)
theorem Lt {len sz : Nat} {parts : List (Nat × Operand)} {ps : List (Nat × Value)}   (k9 : Nat) (is : List Nat) (cs : List Value) (h : ∀ w' b, w0.heap.size ≤ b → Mem w0 w' R ([⟨.slice (bl b) len len, e, sz, len, cs⟩] :: M) → den P n Q w' ⟨.o ops rest, K, up τ d (sx (.sl (bl b) len len))⟩) (pre : Run k9 is (den P n Q w ⟨.o ops (⟨some d, .buildSlice T len parts.toArray, T', pos, after, g⟩ :: rest), K, τ⟩) p := by exact Go.Px.p9) (hT : UnC P T (.slice e) := by exact inferInstance) (he : ElC P e zs bytes agg := by exact inferInstance) (hg : gok ops (Sg τ) g = true := by exact rfl) (hM : Mem w0 w R M := by assumption) (hp : evp (Sg τ) parts = ps := by exact rfl) (hd : Nat.blt d n = true := by exact rfl) (hsz : zs.length = sz := by exact rfl) (hsm : Nat.ble (len * zs.length) 16777216 = true := by exact rfl) (hc : fillS zs len ps = some cs.toArray := by kernel_rfl) (hl : cs.length = len * sz := by exact rfl) (hl2 : Nat.ble len 16777216 = true := by exact rfl) : p := pre (O.mlit hM hg hT.h he.h hsz hp hd hsm hc hl hl2 fun w' b h1 h2 => by rw [show (Value.slice (bl b) len len) = (sx (.sl (bl b) len len)).val from rfl, ← Sg_up]; exact h w' b h1 h2)
theorem Sb {A : Option Addr} {m c k sz : Nat} {vs xs xs' : List Value} {M' : List (List FE)}  (k9 : Nat) (is : List Nat) (i : Nat) (h : ∀ w', Mem w0 w' R M' → den P n Q w' ⟨.o ops rest, K, τ⟩) (pre : Run k9 is (den P n Q w ⟨.o ops (⟨none, .store T x y, T', pos, after, g⟩ :: rest), K, τ⟩) p := by exact Go.Px.p9) (he : ElC P T zs bytes agg := by exact inferInstance) (hg : gok ops (Sg τ) g = true := by exact rfl) (hM : Mem w0 w R M := by assumption) (hx : sev τ x = Vp A k := by exact rfl) (hi : M[i]? = some [⟨.slice A m c, t, sz, m, xs⟩] := by exact rfl) (hy : cls (sev τ y) = some vs := by exact rfl) (hvl : vs.length = zs.length := by exact rfl) (hk : Nat.ble (k + vs.length) xs.length = true := by exact rfl) (h0 : Nat.blt 0 vs.length = true := by exact rfl) (hq : Nf (spl xs k vs) xs' := by exact Go.Px.n9) (hM' : Nf (M.set i [⟨.slice A m c, t, sz, m, xs'⟩]) M' := by exact Go.Px.n9) : p := pre (O.mstore i 0 hM hi rfl hg he.h (sevE hx) (sev_val y) (cls_ok hy).1 hvl (cls_ok hy).2 (Nat.le_of_ble_eq_true hk) (by simpa using h0) hq.h hM'.h h)
theorem sX {A : Option Addr} {m c k sz : Nat} {vs xs : List Value} {M' : List (List FE)}  (k9 : Nat) (is : List Nat) (i : Nat) (xs' : List Value) (pre : Run k9 is (den P n Q w ⟨.o ops (⟨none, .store T x y, T', pos, after, g⟩ :: rest), K, τ⟩) p := by exact Go.Px.p9) (he : ElC P T zs bytes agg := by exact inferInstance) (hg : gok ops (Sg τ) g = true := by exact rfl) (hM : Mem w0 w R M := by assumption) (hx : sev τ x = Vp A k := by exact rfl) (hi : M[i]? = some [⟨.slice A m c, t, sz, m, xs⟩] := by exact rfl) (hy : cls (sev τ y) = some vs := by exact rfl) (hvl : vs.length = zs.length := by exact rfl) (h0 : Nat.blt 0 vs.length = true := by exact rfl) (hk : k + vs.length ≤ xs.length) (hq : spl xs k vs = xs') (hM' : Nf (M.set i [⟨.slice A m c, t, sz, m, xs'⟩]) M' := by exact Go.Px.n9) (h : ∀ w', Mem w0 w' R M' → den P n Q w' ⟨.o ops rest, K, τ⟩) : p := pre (O.mstore i 0 hM hi rfl hg he.h (sevE hx) (sev_val y) (cls_ok hy).1 hvl (cls_ok hy).2 hk (by simpa using h0) hq hM'.h h)
theorem sM {α : Type} {f : α → Value} {l : List α} {a : α} {A : Option Addr} {m c j : Nat} {M' : List (List FE)}  (k9 : Nat) (is : List Nat) (i : Nat) (hj : j < l.length) (h : ∀ w', Mem w0 w' R M' → den P n Q w' ⟨.o ops rest, K, τ⟩) (pre : Run k9 is (den P n Q w ⟨.o ops (⟨none, .store T x y, T', pos, after, g⟩ :: rest), K, τ⟩) p := by exact Go.Px.p9) (he : ElC P T zs bytes agg := by exact inferInstance) (hg : gok ops (Sg τ) g = true := by exact rfl) (hM : Mem w0 w R M := by assumption) (hi : M[i]? = some [⟨.slice A m c, t, 1, m, l.map f⟩] := by exact rfl) (hx : sev τ x = Vp A (j * 1) := by exact rfl) (hy : ev (Sg τ) y = f a := by exact rfl) (hv : (f a).cells = [f a].toArray := by exact rfl) (hz : zs.length = 1 := by exact rfl) (h1 : ([f a].all one) = true := by exact rfl) (hM' : Nf (M.set i [⟨.slice A m c, t, 1, m, (l.set j a).map f⟩]) M' := by exact Go.Px.n9) : p := pre (O.mstore (vs := [f a]) i 0 hM hi rfl hg he.h (sevE hx) hy hv hz.symm h1 (by simp; omega) (by simp) (spl_map hj) hM'.h h)
theorem sF {α : Type} {enc : α → List Value} {nn : Nat}  {l : List α} {A : Option Addr} {m c j : Nat} {M' : List (List FE)}  (k9 : Nat) (is : List Nat) (i : Nat) (a : α) (hj : j < l.length) (h : ∀ w', Mem w0 w' R M' → den P n Q w' ⟨.o ops rest, K, τ⟩) (pre : Run k9 is (den P n Q w ⟨.o ops (⟨none, .store T x y, T', pos, after, g⟩ :: rest), K, τ⟩) p := by exact Go.Px.p9) (he : ElC P T zs bytes agg := by exact inferInstance) (hg : gok ops (Sg τ) g = true := by exact rfl) (hM : Mem w0 w R M := by assumption) (hi : M[i]? = some [⟨.slice A m c, t, nn, m, l.flatMap enc⟩] := by exact rfl) (hl : EnL enc nn := by exact inferInstance) (hx : sev τ x = Vp A (j * nn) := by exact rfl) (hy : ev (Sg τ) y = .agg (enc a).toArray := by exact rfl) (hz : zs.length = nn := by exact rfl) (h1 : ((enc a).all one) = true := by exact rfl) (h0 : Nat.blt 0 nn = true := by exact rfl) (hM' : Nf (M.set i [⟨.slice A m c, t, nn, m, (l.set j a).flatMap enc⟩]) M' := by exact Go.Px.n9) : p := pre (O.mstore (vs := enc a) i 0 hM hi rfl hg he.h (sevE hx) hy rfl ((hl.h a).trans hz.symm) h1 (by have := flat_fit (o := 0) (m := nn) hl.h hj (by omega); rw [hl.h]; omega) (by rw [hl.h]; simpa using h0) (spl_flat hl.h hj) hM'.h h)
theorem sP {α : Type} {enc : α → List Value} {nn : Nat}  {l : List α} {A : Option Addr} {m c j k : Nat} {v : Value} {M' : List (List FE)}  (k9 : Nat) (is : List Nat) (i : Nat) (a : α) (hj : j < l.length) (h : ∀ w', Mem w0 w' R M' → den P n Q w' ⟨.o ops rest, K, τ⟩) (pre : Run k9 is (den P n Q w ⟨.o ops (⟨none, .store T x y, T', pos, after, g⟩ :: rest), K, τ⟩) p := by exact Go.Px.p9) (he : ElC P T zs bytes agg := by exact inferInstance) (hg : gok ops (Sg τ) g = true := by exact rfl) (hM : Mem w0 w R M := by assumption) (hi : M[i]? = some [⟨.slice A m c, t, nn, m, l.flatMap enc⟩] := by exact rfl) (hl : EnL enc nn := by exact inferInstance) (hx : sev τ x = Vp A (j * nn + k) := by exact rfl) (hy : cls (sev τ y) = some [v] := by exact rfl) (hz : zs.length = 1 := by exact rfl) (ho : Nat.blt k nn = true := by exact rfl) (ha : spl (enc l[j]) k [v] = enc a := by exact rfl) (hM' : Nf (M.set i [⟨.slice A m c, t, nn, m, (l.set j a).flatMap enc⟩]) M' := by exact Go.Px.n9) : p := pre (O.mstore (vs := [v]) i 0 hM hi rfl hg he.h (sevE hx) (sev_val y) (cls_ok hy).1 hz.symm (cls_ok hy).2 (flat_fit hl.h hj (by simp at ho ⊢; omega)) (by simp) (spl_part hl.h hj (by simp at ho ⊢; omega) ha) hM'.h h)
theorem aM {α : Type} {f : α → Value} {l l2 : List α} {A A2 : Option Addr} {m k c c2 : Nat} {M1 M2 : List (List FE)}   (k9 : Nat) (is : List Nat) (i : Nat) (hr : Rd w A2 (l2.map f)) (h : ∀ w' A' c', (l ++ l2).length ≤ c' → Mem w0 w' R (M1 ++ ([⟨.slice A' (l ++ l2).length c', e, 1, (l ++ l2).length, (l ++ l2).map f⟩] :: M2)) → den P n Q w' ⟨.o ops rest, K, up τ d (sx (Go.Px.At.sl A' (l ++ l2).length c'))⟩) (pre : Run k9 is (den P n Q w ⟨.o ops (⟨some d, .call ⟨.builtin .append, #[x, y], #[t, t]⟩, T', pos, after, g⟩ :: rest), K, τ⟩) p := by exact Go.Px.p9) (hT : UnC P t (.slice e) := by exact inferInstance) (he : ElC P e zs bytes agg := by exact inferInstance) (hg : gok ops (Sg τ) g = true := by exact rfl) (hM : Mem w0 w R M := by assumption) (hi : M[i]? = some [⟨.slice A m c, e, 1, m, l.map f⟩] := by exact rfl) (hx : sev τ x = Vl A m c := by exact rfl) (hy : sev τ y = Vl A2 k c2 := by exact rfl) (hd : Nat.blt d n = true := by exact rfl) (h1 : Nf (M.take i) M1 := by exact Go.Px.n9) (h2 : Nf (M.drop (i + 1)) M2 := by exact Go.Px.n9) (hz : zs.length = 1 := by exact rfl) (h0 : Nat.blt 0 1 = true := by exact rfl) (hf : ∀ a, one (f a) = true := by exact fun _ => rfl) (hl : l2.length = k := by first | rfl | (simp; done) | (simp; omega)) (hn : m + k ≤ 1152921504606846976 := by first | omega | (simp; omega)) (hb : (m + k) * bytes ≤ 140737488355328 := by first | omega | (simp; omega)) (hm : m + k = (l ++ l2).length := by first | (simp; done) | (simp; omega)) : p := pre (O.mappend i 0 hM hi rfl hg hT.h he.h ⟨hz, by decide⟩ (sevE hx) (sevE hy) hd hr (by simp [hl]) (all_map_one (fun _ => hf _) _) hn hb hm (show l.map f ++ l2.map f = (l ++ l2).map f by simp) (fun A' c' => set_mid hi h1.h h2.h) fun w' A' c' q1 q2 => by rw [show (Value.slice A' (l ++ l2).length c') = (sx (.sl A' (l ++ l2).length c')).val from rfl, ← Sg_up]; exact h w' A' c' q1 q2)
theorem aM0 {α : Type} {f : α → Value} {l2 : List α} {A A2 : Option Addr} {m k c c2 : Nat} {M1 M2 : List (List FE)}   (k9 : Nat) (is : List Nat) (i : Nat) (hr : Rd w A2 (l2.map f)) (h : ∀ w' A' c', (l2).length ≤ c' → Mem w0 w' R (M1 ++ ([⟨.slice A' (l2).length c', e, 1, (l2).length, l2.map f⟩] :: M2)) → den P n Q w' ⟨.o ops rest, K, up τ d (sx (Go.Px.At.sl A' (l2).length c'))⟩) (pre : Run k9 is (den P n Q w ⟨.o ops (⟨some d, .call ⟨.builtin .append, #[x, y], #[t, t]⟩, T', pos, after, g⟩ :: rest), K, τ⟩) p := by exact Go.Px.p9) (hT : UnC P t (.slice e) := by exact inferInstance) (he : ElC P e zs bytes agg := by exact inferInstance) (hg : gok ops (Sg τ) g = true := by exact rfl) (hM : Mem w0 w R M := by assumption) (hi : M[i]? = some [⟨.slice A m c, e, 1, m, []⟩] := by exact rfl) (hx : sev τ x = Vl A m c := by exact rfl) (hy : sev τ y = Vl A2 k c2 := by exact rfl) (hd : Nat.blt d n = true := by exact rfl) (h1 : Nf (M.take i) M1 := by exact Go.Px.n9) (h2 : Nf (M.drop (i + 1)) M2 := by exact Go.Px.n9) (hz : zs.length = 1 := by exact rfl) (h0 : Nat.blt 0 1 = true := by exact rfl) (hf : ∀ a, one (f a) = true := by exact fun _ => rfl) (hl : l2.length = k := by first | rfl | (simp; done) | (simp; omega)) (hn : m + k ≤ 1152921504606846976 := by first | omega | (simp; omega)) (hb : (m + k) * bytes ≤ 140737488355328 := by first | omega | (simp; omega)) (hm : m + k = (l2).length := by first | (simp; done) | (simp; omega)) : p := pre (O.mappend i 0 hM hi rfl hg hT.h he.h ⟨hz, by decide⟩ (sevE hx) (sevE hy) hd hr (by simp [hl]) (all_map_one (fun _ => hf _) _) hn hb hm (rfl) (fun A' c' => set_mid hi h1.h h2.h) fun w' A' c' q1 q2 => by rw [show (Value.slice A' (l2).length c') = (sx (.sl A' (l2).length c')).val from rfl, ← Sg_up]; exact h w' A' c' q1 q2)
theorem aF {α : Type} {enc : α → List Value} {nn : Nat}  {l l2 : List α} {A A2 : Option Addr} {m k c c2 : Nat} {M1 M2 : List (List FE)}   (k9 : Nat) (is : List Nat) (i : Nat) (hr : Rd w A2 (l2.flatMap enc)) (h : ∀ w' A' c', (l ++ l2).length ≤ c' → Mem w0 w' R (M1 ++ ([⟨.slice A' (l ++ l2).length c', e, nn, (l ++ l2).length, (l ++ l2).flatMap enc⟩] :: M2)) → den P n Q w' ⟨.o ops rest, K, up τ d (sx (Go.Px.At.sl A' (l ++ l2).length c'))⟩) (pre : Run k9 is (den P n Q w ⟨.o ops (⟨some d, .call ⟨.builtin .append, #[x, y], #[t, t]⟩, T', pos, after, g⟩ :: rest), K, τ⟩) p := by exact Go.Px.p9) (hT : UnC P t (.slice e) := by exact inferInstance) (he : ElC P e zs bytes agg := by exact inferInstance) (hg : gok ops (Sg τ) g = true := by exact rfl) (hM : Mem w0 w R M := by assumption) (hi : M[i]? = some [⟨.slice A m c, e, nn, m, l.flatMap enc⟩] := by exact rfl) (hE : EnL enc nn := by exact inferInstance) (hx : sev τ x = Vl A m c := by exact rfl) (hy : sev τ y = Vl A2 k c2 := by exact rfl) (hd : Nat.blt d n = true := by exact rfl) (h1 : Nf (M.take i) M1 := by exact Go.Px.n9) (h2 : Nf (M.drop (i + 1)) M2 := by exact Go.Px.n9) (hz : zs.length = nn := by exact rfl) (h0 : Nat.blt 0 nn = true := by exact rfl) (hf : ∀ a, (enc a).all one = true := by exact fun _ => rfl) (hl : l2.length = k := by first | rfl | (simp; done) | (simp; omega)) (hn : m + k ≤ 1152921504606846976 := by first | omega | (simp; omega)) (hb : (m + k) * bytes ≤ 140737488355328 := by first | omega | (simp; omega)) (hm : m + k = (l ++ l2).length := by first | (simp; done) | (simp; omega)) : p := pre (O.mappend i 0 hM hi rfl hg hT.h he.h ⟨hz, by simpa using h0⟩ (sevE hx) (sevE hy) hd hr (by rw [flat_len hE.h, hl]) (all_flat_one (fun _ => hf _) _) hn hb hm (show l.flatMap enc ++ l2.flatMap enc = (l ++ l2).flatMap enc by simp) (fun A' c' => set_mid hi h1.h h2.h) fun w' A' c' q1 q2 => by rw [show (Value.slice A' (l ++ l2).length c') = (sx (.sl A' (l ++ l2).length c')).val from rfl, ← Sg_up]; exact h w' A' c' q1 q2)
theorem aF0 {α : Type} {enc : α → List Value} {nn : Nat}  {l2 : List α} {A A2 : Option Addr} {m k c c2 : Nat} {M1 M2 : List (List FE)}   (k9 : Nat) (is : List Nat) (i : Nat) (hr : Rd w A2 (l2.flatMap enc)) (h : ∀ w' A' c', (l2).length ≤ c' → Mem w0 w' R (M1 ++ ([⟨.slice A' (l2).length c', e, nn, (l2).length, l2.flatMap enc⟩] :: M2)) → den P n Q w' ⟨.o ops rest, K, up τ d (sx (Go.Px.At.sl A' (l2).length c'))⟩) (pre : Run k9 is (den P n Q w ⟨.o ops (⟨some d, .call ⟨.builtin .append, #[x, y], #[t, t]⟩, T', pos, after, g⟩ :: rest), K, τ⟩) p := by exact Go.Px.p9) (hT : UnC P t (.slice e) := by exact inferInstance) (he : ElC P e zs bytes agg := by exact inferInstance) (hg : gok ops (Sg τ) g = true := by exact rfl) (hM : Mem w0 w R M := by assumption) (hi : M[i]? = some [⟨.slice A m c, e, nn, m, []⟩] := by exact rfl) (hE : EnL enc nn := by exact inferInstance) (hx : sev τ x = Vl A m c := by exact rfl) (hy : sev τ y = Vl A2 k c2 := by exact rfl) (hd : Nat.blt d n = true := by exact rfl) (h1 : Nf (M.take i) M1 := by exact Go.Px.n9) (h2 : Nf (M.drop (i + 1)) M2 := by exact Go.Px.n9) (hz : zs.length = nn := by exact rfl) (h0 : Nat.blt 0 nn = true := by exact rfl) (hf : ∀ a, (enc a).all one = true := by exact fun _ => rfl) (hl : l2.length = k := by first | rfl | (simp; done) | (simp; omega)) (hn : m + k ≤ 1152921504606846976 := by first | omega | (simp; omega)) (hb : (m + k) * bytes ≤ 140737488355328 := by first | omega | (simp; omega)) (hm : m + k = (l2).length := by first | (simp; done) | (simp; omega)) : p := pre (O.mappend i 0 hM hi rfl hg hT.h he.h ⟨hz, by simpa using h0⟩ (sevE hx) (sevE hy) hd hr (by rw [flat_len hE.h, hl]) (all_flat_one (fun _ => hf _) _) hn hb hm (rfl) (fun A' c' => set_mid hi h1.h h2.h) fun w' A' c' q1 q2 => by rw [show (Value.slice A' (l2).length c') = (sx (.sl A' (l2).length c')).val from rfl, ← Sg_up]; exact h w' A' c' q1 q2)
theorem cp {f : FuncId} {args : List Operand} {ts : Array TypeId} {vs : List Value}  {X : Value} (k9 : Nat) (is : List Nat)  (pre : Run k9 is (den P n Q w ⟨.o ops (⟨some d, .call ⟨.value (.func f), args.toArray, ts⟩, T', pos, after, g⟩ :: rest), K, τ⟩) p := by exact Go.Px.p9) (he : EnC P f := by exact inferInstance) (hg : gok ops (Sg τ) g = true := by exact rfl) (hvs : evs (Sg τ) args = vs := by exact rfl) (hd : Nat.blt d n = true := by exact rfl) (hM : Mem w0 w R M := by assumption) (b : Does P f vs w fun v w1 => v = X ∧ Mem w w1 [] []) (c : ∀ w1, Mem w0 w1 R M → den P n Q w1 ⟨.o ops rest, K, up τ d (liftV X)⟩) : p := pre (O.callg vs hg he.h hvs hd b fun v w1 ⟨e, h1⟩ => by subst e; rw [upd_Sg]; exact c w1 (Mem.call0 hM h1))
theorem cq {f : FuncId} {args : List Operand} {ts : Array TypeId} {vs : List Value}  {X : Value → World → Prop} (k9 : Nat) (is : List Nat)  (pre : Run k9 is (den P n Q w ⟨.o ops (⟨some d, .call ⟨.value (.func f), args.toArray, ts⟩, T', pos, after, g⟩ :: rest), K, τ⟩) p := by exact Go.Px.p9) (he : EnC P f := by exact inferInstance) (hg : gok ops (Sg τ) g = true := by exact rfl) (hvs : evs (Sg τ) args = vs := by exact rfl) (hd : Nat.blt d n = true := by exact rfl) (b : Does P f vs w X) (c : ∀ v w1, X v w1 → den P n Q w1 ⟨.o ops rest, K, up τ d (liftV v)⟩) : p := pre (O.callg vs hg he.h hvs hd b fun v w1 h => by rw [upd_Sg]; exact c v w1 h)
theorem qc {f : FuncId} {args : List Operand} {ts : Array TypeId} {vs : List Value}  {S : World → Prop} {X : Value} (k9 : Nat) (is : List Nat)  (pre : Run k9 is (den P n Q w ⟨.y S ops (⟨some d, .call ⟨.value (.func f), args.toArray, ts⟩, T', pos, after, g⟩ :: rest), K, τ⟩) p := by exact Go.Px.p9) (he : EnC P f := by exact inferInstance) (hg : gok ops (Sg τ) g = true := by exact rfl) (hvs : evs (Sg τ) args = vs := by exact rfl) (hd : Nat.blt d n = true := by exact rfl) (b : ∀ w, S w → Does P f vs w fun v w1 => v = X ∧ S w1) (c : den P n Q w ⟨.y S ops rest, K, up τ d (liftV X)⟩) : p := pre (QO.callg vs hg he.h hvs hd b (by rw [upd_Sg]; exact c))
theorem cd {cx cy : Code} {q : Prop} {inst : Decidable q} (k9 : Nat) (is : List Nat) (ht : q → den P n Q w ⟨.c cx, K, τ⟩) (hf : ¬ q → den P n Q w ⟨.c cy, K, τ⟩) (pre : Run k9 is (den P n Q w ⟨.c (.cond x cx cy), K, τ⟩) p := by exact Go.Px.p9) (hc : ev (Sg τ) x = .bool (@decide q inst) := by exact rfl) : p := pre (C.cond hc ht hf)
theorem cn {cx cy : Code} {b : Bool} (k9 : Nat) (is : List Nat) (ht : b = false → den P n Q w ⟨.c cx, K, τ⟩) (hf : b = true → den P n Q w ⟨.c cy, K, τ⟩) (pre : Run k9 is (den P n Q w ⟨.c (.cond x cx cy), K, τ⟩) p := by exact Go.Px.p9) (hc : ev (Sg τ) x = .bool (!b) := by exact rfl) : p := pre (C.condn hc ht hf)
theorem cb {cx cy : Code} {b : Bool} (k9 : Nat) (is : List Nat) (ht : b = true → den P n Q w ⟨.c cx, K, τ⟩) (hf : b = false → den P n Q w ⟨.c cy, K, τ⟩) (pre : Run k9 is (den P n Q w ⟨.c (.cond x cx cy), K, τ⟩) p := by exact Go.Px.p9) (hc : ev (Sg τ) x = .bool b := by exact rfl) : p := pre (C.condb hc ht hf)
theorem upB (τ : Fm) (d : Nat) (b : Bool) : Sg (up τ d (Vb b)) = upd (Sg τ) d (.bool b) := Sg_up _ _ _
theorem pp {l : List Oper}  {q : Prop} {inst : Decidable q} (k9 : Nat) (is : List Nat) (d : Nat) (ht : q → den P n Q w ⟨.o ops l, K, up τ d (Vb true)⟩) (hf : ¬ q → den P n Q w ⟨.o ops l, K, up τ d (Vb false)⟩) (pre : Run k9 is (den P n Q w ⟨.o ops l, K, τ⟩) p := by exact Go.Px.p9) (hb : Sg τ d = .bool (@decide q inst) := by exact rfl) : p := pre (O.partp d q hb (fun h => by rw [← upB]; exact ht h) (fun h => by rw [← upB]; exact hf h))
theorem pt {l : List Oper}  {b : Bool} (k9 : Nat) (is : List Nat) (d : Nat) (ht : b = true → den P n Q w ⟨.o ops l, K, up τ d (Vb true)⟩) (hf : b = false → den P n Q w ⟨.o ops l, K, up τ d (Vb false)⟩) (pre : Run k9 is (den P n Q w ⟨.o ops l, K, τ⟩) p := by exact Go.Px.p9) (hb : Sg τ d = .bool b := by exact rfl) : p := pre (O.part d b hb (fun h => by rw [← upB]; exact ht h) (fun h => by rw [← upB]; exact hf h))
theorem qp {l : List Oper} {S : World → Prop} {q : Prop} {inst : Decidable q} (k9 : Nat) (is : List Nat) (d : Nat) (ht : q → den P n Q w ⟨.y S ops l, K, up τ d (Vb true)⟩) (hf : ¬ q → den P n Q w ⟨.y S ops l, K, up τ d (Vb false)⟩) (pre : Run k9 is (den P n Q w ⟨.y S ops l, K, τ⟩) p := by exact Go.Px.p9) (hb : Sg τ d = .bool (@decide q inst) := by exact rfl) : p := pre (QO.partp d q hb (fun h => by rw [← upB]; exact ht h) (fun h => by rw [← upB]; exact hf h))
theorem qt {l : List Oper} {S : World → Prop} {b : Bool} (k9 : Nat) (is : List Nat) (d : Nat) (ht : b = true → den P n Q w ⟨.y S ops l, K, up τ d (Vb true)⟩) (hf : b = false → den P n Q w ⟨.y S ops l, K, up τ d (Vb false)⟩) (pre : Run k9 is (den P n Q w ⟨.y S ops l, K, τ⟩) p := by exact Go.Px.p9) (hb : Sg τ d = .bool b := by exact rfl) : p := pre (QO.part d b hb (fun h => by rw [← upB]; exact ht h) (fun h => by rw [← upB]; exact hf h))
theorem zt {S : World → Prop} {f : Nat} {ls : List Bool} {b : Bool} (ix is : List Nat) (d : Nat) (ht : b = true → den P n Q w ⟨.a S ops f ls, K, up τ d (Vb true)⟩) (hf : b = false → den P n Q w ⟨.a S ops f ls, K, up τ d (Vb false)⟩) (pre : RunA ix is (den P n Q w ⟨.a S ops f ls, K, τ⟩) p := by exact Go.Px.q9) (hb : Sg τ d = .bool b := by exact rfl) : p := pre (AO.part d b hb (fun h => by rw [← upB]; exact ht h) (fun h => by rw [← upB]; exact hf h))
theorem any {id : Nat} {l : List Oper} {N : List (List FE)}  (k9 : Nat) (is : List Nat) (f : Nat) (io : List Nat) (h : ∀ w1, Mem w0 w1 R M → den P n Q w1 ⟨.a (fun w2 => Mem w0 w2 R N) l f (List.replicate f false), K, τ⟩) (pre : Run k9 is (den P n Q w ⟨.c (.region id l.toArray true), K, τ⟩) p := by exact Go.Px.p9) (hX : MxC P := by exact inferInstance) (hM : Mem w0 w R M := by assumption) (hf : l.length = f := by exact rfl) (hp : Pk M io N := by (repeat (first | exact Go.Px.Pk.nil | (apply Go.Px.Pk.cons; exact rfl)))) (hn : io.Nodup := by decide) : p := pre (C.any (fun w2 => Mem w0 w2 R N) hX.h hf rfl (fun w2 hw2 => Mem0.ext (hp.mem hn hM) hw2) fun w1 h1 => h w1 (Mem0.ext hM h1))
theorem dr {id : Nat} {l : List Oper}  (k9 : Nat) (is : List Nat) (h : den P n Q w ⟨.y (fun w2 => Mem w0 w2 R M) l l, K, τ⟩) (pre : Run k9 is (den P n Q w ⟨.c (.region id l.toArray true), K, τ⟩) p := by exact Go.Px.p9) (hX : MxC P := by exact inferInstance) (hM : Mem w0 w R M := by assumption) (hB : Region.lexB .any l.toArray = true := by kernel_rfl) : p := pre (C.draws (fun w2 => Mem w0 w2 R M) hX.h hB (hM.ext (kdrawn _)) h)
theorem qn {ct : Ct} {K' : List Fk} (k9 : Nat) (is : List Nat) (h : ∀ w', Mem w0 w' R M → den P n Q w' ⟨ct, K', τ⟩) (pre : Run k9 is (den P n Q w ⟨.y (fun w2 => Mem w0 w2 R M) ops [], K, τ⟩) p := by exact Go.Px.p9) (hp : pop .normal K = (ct, K') := by exact rfl) : p := pre (QO.nil fun w' hw => pop_ok hp (h w' hw))
theorem an {S : World → Prop} {f : Nat} {ls : List Bool} {ct : Ct} {K' : List Fk} (ix is : List Nat) (h : den P n Q w ⟨ct, K', τ⟩) (pre : RunA ix is (den P n Q w ⟨.a S ops f ls, K, τ⟩) p := by exact Go.Px.q9) (hr : Region.ready .any ops.toArray ls.toArray = [] := by kernel_rfl) (hp : pop .normal K = (ct, K') := by exact rfl) : p := pre (AO.nil hr (pop_ok hp h))
theorem aO {S : World → Prop} {f : Nat} {ls : List Bool} {o : Oper} (ix is : List Nat) (i : Nat) (h : den P n (onlyN fun σ' w' => S w' ∧ AO P n ops S (fun σ w => itp P n K Q .normal σ w) f (ls.set i true) σ' w') w ⟨.o ops [o], [], τ⟩) (pre : RunA ix is (den P n Q w ⟨.a S ops (f + 1) ls, K, τ⟩) p := by exact Go.Px.q9) (hr : Region.ready .any ops.toArray ls.toArray = [i] := by kernel_rfl) (hi : nth ops i = some o := by exact rfl) : p := pre (AO.one i hr ⟨o, hi, h⟩)
theorem aT {S : World → Prop} {f : Nat} {ls : List Bool} {o o2 : Oper} (ix is : List Nat) (i j : Nat) (h : den P n (onlyN fun σ' w' => S w' ∧ AO P n ops S (fun σ w => itp P n K Q .normal σ w) f (ls.set i true) σ' w') w ⟨.o ops [o], [], τ⟩) (h2 : den P n (onlyN fun σ' w' => S w' ∧ AO P n ops S (fun σ w => itp P n K Q .normal σ w) f (ls.set j true) σ' w') w ⟨.o ops [o2], [], τ⟩) (pre : RunA ix is (den P n Q w ⟨.a S ops (f + 1) ls, K, τ⟩) p := by exact Go.Px.q9) (hr : Region.ready .any ops.toArray ls.toArray = [i, j] := by kernel_rfl) (hi : nth ops i = some o := by exact rfl) (hi2 : nth ops j = some o2 := by exact rfl) : p := pre (AO.two i j hr ⟨o, hi, h⟩ ⟨o2, hi2, h2⟩)
theorem aH {S : World → Prop} {f : Nat} {ls : List Bool} {o o2 o3 : Oper} (ix is : List Nat) (i j k : Nat) (h : den P n (onlyN fun σ' w' => S w' ∧ AO P n ops S (fun σ w => itp P n K Q .normal σ w) f (ls.set i true) σ' w') w ⟨.o ops [o], [], τ⟩) (h2 : den P n (onlyN fun σ' w' => S w' ∧ AO P n ops S (fun σ w => itp P n K Q .normal σ w) f (ls.set j true) σ' w') w ⟨.o ops [o2], [], τ⟩) (h3 : den P n (onlyN fun σ' w' => S w' ∧ AO P n ops S (fun σ w => itp P n K Q .normal σ w) f (ls.set k true) σ' w') w ⟨.o ops [o3], [], τ⟩) (pre : RunA ix is (den P n Q w ⟨.a S ops (f + 1) ls, K, τ⟩) p := by exact Go.Px.q9) (hr : Region.ready .any ops.toArray ls.toArray = [i, j, k] := by kernel_rfl) (hi : nth ops i = some o := by exact rfl) (hi2 : nth ops j = some o2 := by exact rfl) (hi3 : nth ops k = some o3 := by exact rfl) : p := pre (AO.three i j k hr ⟨o, hi, h⟩ ⟨o2, hi2, h2⟩ ⟨o3, hi3, h3⟩)
theorem os {f : Nat} {ls : List Bool} {N : List (List FE)} (k9 : Nat) (is : List Nat) (io : List Nat) (h : den P n Q w ⟨.a (fun w2 => Mem w0 w2 R N) ops f ls, K, τ⟩) (pre : Run k9 is (den P n (onlyN fun σ' w' => Mem w0 w' R N ∧ AO P n ops (fun w2 => Mem w0 w2 R N) (fun σ w => itp P n K Q .normal σ w) f ls σ' w') w ⟨.o ops [], [], τ⟩) p := by exact Go.Px.p9) (hM : Mem w0 w R M := by assumption) (hp : Pk M io N := by (repeat (first | exact Go.Px.Pk.nil | (apply Go.Px.Pk.cons; exact rfl)))) (hn : io.Nodup := by decide) : p := pre (O.nil ⟨hp.mem hn hM, h⟩)
def isNR : Exit → Bool
  | .normal => true
  | .ret => true
  | _ => false
theorem E1 {e9 : Exit} {t : Nat} {X : Value → World → Prop} (k9 : Nat) (is : List Nat) (v : Value) (h : X v w) (pre : Run k9 is (den P n (post1 t X) w ⟨.q e9, [], τ⟩) p := by exact Go.Px.p9) (he : isNR e9 = true := by exact rfl) (hv : Sg τ t = v := by exact rfl) : p := pre (by cases e9 <;> first | exact (P1 hv h) | cases he)
theorem E2 {e9 : Exit} {t u : Nat} {X : Value → World → Prop} (k9 : Nat) (is : List Nat) (v v' : Value) (h : X (.tuple #[v, v']) w) (pre : Run k9 is (den P n (post2 t u X) w ⟨.q e9, [], τ⟩) p := by exact Go.Px.p9) (he : isNR e9 = true := by exact rfl) (hv : Sg τ t = v := by exact rfl) (hv' : Sg τ u = v' := by exact rfl) : p := pre (by cases e9 <;> first | exact (P2 hv hv' h) | cases he)
theorem E0 {e9 : Exit} {X : Value → World → Prop} (k9 : Nat) (is : List Nat) (h : X (.tuple #[]) w) (pre : Run k9 is (den P n (post0 X) w ⟨.q e9, [], τ⟩) p := by exact Go.Px.p9) (he : isNR e9 = true := by exact rfl) : p := pre (by cases e9 <;> first | exact (P0 h) | cases he)
theorem EG {e9 : Exit} {rs : List ResultVar} {X : Value → World → Prop} (k9 : Nat) (is : List Nat) (h : RetG P rs X (Sg τ) w) (pre : Run k9 is (den P n (postG P rs X) w ⟨.q e9, [], τ⟩) p := by exact Go.Px.p9) (he : isNR e9 = true := by exact rfl) : p := pre (by cases e9 <;> first | exact h | cases he)
theorem Does.n1 {f : FuncId} {fn : Func} {c : Code} {t : Nat} {vs : List Value} {X : Value → World → Prop} (hf : P.funcs[f]? = some fn) (hb : fn.body = some c) (hr : fn.results = #[.tmp t]) (hn : fn.ntmps = n) (hl : Nat.ble vs.length n = true) (h : den P n (post1 t X) w ⟨.c c, [], lf (arg vs)⟩) : Does P f vs w X := Does.enter1 hf hb hr hn hl (by rw [← Sg_lf (arg vs)]; exact h)
theorem Does.n2 {f : FuncId} {fn : Func} {c : Code} {t u : Nat} {vs : List Value} {X : Value → World → Prop} (hf : P.funcs[f]? = some fn) (hb : fn.body = some c) (hr : fn.results = #[.tmp t, .tmp u]) (hn : fn.ntmps = n) (hl : Nat.ble vs.length n = true) (h : den P n (post2 t u X) w ⟨.c c, [], lf (arg vs)⟩) : Does P f vs w X := Does.enter2 hf hb hr hn hl (by rw [← Sg_lf (arg vs)]; exact h)
theorem Does.n0 {f : FuncId} {fn : Func} {c : Code}  {vs : List Value} {X : Value → World → Prop} (hf : P.funcs[f]? = some fn) (hb : fn.body = some c) (hr : fn.results = #[]) (hn : fn.ntmps = n) (hl : Nat.ble vs.length n = true) (h : den P n (post0 X) w ⟨.c c, [], lf (arg vs)⟩) : Does P f vs w X := Does.enter0 hf hb hr hn hl (by rw [← Sg_lf (arg vs)]; exact h)
theorem Does.nG {f : FuncId} {fn : Func} {c : Code} {rs : List ResultVar} {vs : List Value} {X : Value → World → Prop} (hf : P.funcs[f]? = some fn) (hb : fn.body = some c) (hr : fn.results = rs.toArray) (hn : fn.ntmps = n) (hl : Nat.ble vs.length n = true) (h : den P n (postG P rs X) w ⟨.c c, [], lf (arg vs)⟩) : Does P f vs w X := Does.enterG hf hb hr hn hl (by rw [← Sg_lf (arg vs)]; exact h)
variable {KS : List (Nat × SV)} {KN : List (List FE)} {c cx cy : Code} {m : Nat}
structure CE0 (L : List (Nat × SV)) (KS : List (Nat × SV)) (J : Prop) (N : List (List FE)) (KN : List (List FE)) (w0 : World) (R : List (Option Nat)) (σ : Sig) (w : World) : Prop where h : ∃ x : Unit, Has σ (vals (L ++ KS)) ∧ (fun x w => J ∧ Mem w0 w R (N ++ KN)) x w
theorem ct0  (k9 : Nat) (is : List Nat) (L : List (Nat × SV)) (J : Prop) (N : List (List FE)) (ks ik : List Nat) (h1 : den P n Q w ⟨.c cx, .nm (CE0 L KS J N KN w0 R) :: K, τ⟩) (h2 : ∀ (τ' : Fm) (w' : World), J → Mem w0 w' R (N ++ KN) → den P n Q w' ⟨.c cy, K, upl τ' (L ++ KS)⟩) (pre : Run k9 is (den P n Q w ⟨.c (.seq cx cy), K, τ⟩) p := by exact Go.Px.p9) (hM : Mem w0 w R M := by assumption) (hk : keep τ ks = some KS := by exact rfl) (hr : Pk M ik KN := by (repeat (first | exact Go.Px.Pk.nil | (apply Go.Px.Pk.cons; exact rfl)))) : p := pre (C.cut (ι := Unit) (fun x => vals (L ++ KS)) (fun x w => J ∧ Mem w0 w R (N ++ KN)) (C.mono h1 fun e σ w hh => by cases e <;> first | exact hh.h | exact hh) (fun x σ' w' hI => by have h9 := h2  (lf σ') w' hI.1 hI.2; simp only [den, Sg_upl, Sg_lf] at h9; exact h9))
theorem ce0 {L : List (Nat × SV)} {J : Prop} {N : List (List FE)} (k9 : Nat) (is : List Nat)  (io : List Nat) (pre : Run k9 is (den P n Q w ⟨.q .normal, .nm (CE0 L KS J N KN w0 R) :: K, τ⟩) p := by exact Go.Px.p9) (hM : Mem w0 w R M := by assumption) (hL : Has (Sg τ) (vals (L)) := by (repeat (first | exact True.intro | refine And.intro (by first | exact rfl | exact Go.Px.I_congr (by first | omega | (simp; omega) | simp) | exact Go.Px.sl_congr (by first | omega | (simp; done) | (simp; omega) | exact congrArg List.length (by assumption))) ?_))) (hK : KS.map (fun p => τ p.1) = KS.map (·.2) := by exact rfl) (hp : Pk M io (N ++ KN) := by (repeat (first | exact Go.Px.Pk.nil | (apply Go.Px.Pk.cons; exact rfl)))) (hn : io.Nodup := by decide) (h : J) : p := pre (show CE0 L KS J N KN w0 R (Sg τ) w from ⟨(), has_app hL (same_has hK), h, hp.mem hn hM⟩)
structure LE1 {α0 : Type} (L : α0 → List (Nat × SV)) (KS : List (Nat × SV)) (J : α0 → Prop) (N : α0 → List (List FE)) (KN : List (List FE)) (w0 : World) (R : List (Option Nat)) (μ : α0 → Nat) (m : Nat) (σ : Sig) (w : World) : Prop where h : ∃ x : α0, μ x < m ∧ Has σ (vals (L x ++ KS)) ∧ (fun x w => J x ∧ Mem w0 w R (N x ++ KN)) x w
theorem lp1 {α0 : Type}  (k9 : Nat) (is : List Nat) (L : α0 → List (Nat × SV)) (J : α0 → Prop) (N : α0 → List (List FE)) (μ : α0 → Nat) (ks io ik : List Nat) (a0 : α0) (h : ∀ (a0 : α0) (τ' : Fm) (w' : World), J a0 → Mem w0 w' R (N a0 ++ KN) → den P n Q w' ⟨.c c, .nm (LE1 L KS J N KN w0 R μ (μ a0)) :: K, upl τ' (L a0 ++ KS)⟩) (pre : Run k9 is (den P n Q w ⟨.c (.loop c), K, τ⟩) p := by exact Go.Px.p9) (hM : Mem w0 w R M := by assumption) (hk : keep τ ks = some KS := by exact rfl) (hr : Pk M ik KN := by (repeat (first | exact Go.Px.Pk.nil | (apply Go.Px.Pk.cons; exact rfl)))) (hN : Pk M io (N a0) := by (repeat (first | exact Go.Px.Pk.nil | (apply Go.Px.Pk.cons; exact rfl)))) (hn : (io ++ ik).Nodup := by decide) (hL : Has (Sg τ) (vals (L a0)) := by (repeat (first | exact True.intro | refine And.intro (by first | exact rfl | exact Go.Px.I_congr (by first | omega | (simp; omega) | simp) | exact Go.Px.sl_congr (by first | omega | (simp; done) | (simp; omega) | exact congrArg List.length (by assumption))) ?_))) (h0 : J a0) : p := pre (C.loop (ι := α0) (fun x => vals (L x ++ KS)) (fun x w => J x ∧ Mem w0 w R (N x ++ KN)) (fun x => μ x) a0 (has_app hL (keep_has hk)) ⟨h0, (hN.app hr).mem hn hM⟩ (fun x σ' w' hI => by have h9 := h x (lf σ') w' hI.1 hI.2; simp only [den, Sg_upl, Sg_lf] at h9; exact C.mono h9 fun e σ w hh => by cases e <;> first | exact hh.h | exact hh))
theorem le1 {α0 : Type} {L : α0 → List (Nat × SV)} {J : α0 → Prop} {N : α0 → List (List FE)} {μ : α0 → Nat} (k9 : Nat) (is : List Nat) (a0 : α0) (io : List Nat) (pre : Run k9 is (den P n Q w ⟨.q .normal, .nm (LE1 L KS J N KN w0 R μ m) :: K, τ⟩) p := by exact Go.Px.p9) (hM : Mem w0 w R M := by assumption) (hm : μ a0 < m := by (try dsimp only); omega) (hL : Has (Sg τ) (vals (L a0)) := by (repeat (first | exact True.intro | refine And.intro (by first | exact rfl | exact Go.Px.I_congr (by first | omega | (simp; omega) | simp) | exact Go.Px.sl_congr (by first | omega | (simp; done) | (simp; omega) | exact congrArg List.length (by assumption))) ?_))) (hK : KS.map (fun p => τ p.1) = KS.map (·.2) := by exact rfl) (hp : Pk M io (N a0 ++ KN) := by (repeat (first | exact Go.Px.Pk.nil | (apply Go.Px.Pk.cons; exact rfl)))) (hn : io.Nodup := by decide) (h : J a0) : p := pre (show LE1 L KS J N KN w0 R μ m (Sg τ) w from ⟨a0, hm, has_app hL (same_has hK), h, hp.mem hn hM⟩)
structure LE2 {α0 α1 : Type} (L : α0 → α1 → List (Nat × SV)) (KS : List (Nat × SV)) (J : α0 → α1 → Prop) (N : α0 → α1 → List (List FE)) (KN : List (List FE)) (w0 : World) (R : List (Option Nat)) (μ : α0 → α1 → Nat) (m : Nat) (σ : Sig) (w : World) : Prop where h : ∃ x : α0 × α1, μ x.1 x.2 < m ∧ Has σ (vals (L x.1 x.2 ++ KS)) ∧ (fun x w => J x.1 x.2 ∧ Mem w0 w R (N x.1 x.2 ++ KN)) x w
structure CE2 {α0 α1 : Type} (L : α0 → α1 → List (Nat × SV)) (KS : List (Nat × SV)) (J : α0 → α1 → Prop) (N : α0 → α1 → List (List FE)) (KN : List (List FE)) (w0 : World) (R : List (Option Nat)) (σ : Sig) (w : World) : Prop where h : ∃ x : α0 × α1, Has σ (vals (L x.1 x.2 ++ KS)) ∧ (fun x w => J x.1 x.2 ∧ Mem w0 w R (N x.1 x.2 ++ KN)) x w
theorem lp2 {α0 α1 : Type}  (k9 : Nat) (is : List Nat) (L : α0 → α1 → List (Nat × SV)) (J : α0 → α1 → Prop) (N : α0 → α1 → List (List FE)) (μ : α0 → α1 → Nat) (ks io ik : List Nat) (a0 : α0) (a1 : α1) (h : ∀ (a0 : α0) (a1 : α1) (τ' : Fm) (w' : World), J a0 a1 → Mem w0 w' R (N a0 a1 ++ KN) → den P n Q w' ⟨.c c, .nm (LE2 L KS J N KN w0 R μ (μ a0 a1)) :: K, upl τ' (L a0 a1 ++ KS)⟩) (pre : Run k9 is (den P n Q w ⟨.c (.loop c), K, τ⟩) p := by exact Go.Px.p9) (hM : Mem w0 w R M := by assumption) (hk : keep τ ks = some KS := by exact rfl) (hr : Pk M ik KN := by (repeat (first | exact Go.Px.Pk.nil | (apply Go.Px.Pk.cons; exact rfl)))) (hN : Pk M io (N a0 a1) := by (repeat (first | exact Go.Px.Pk.nil | (apply Go.Px.Pk.cons; exact rfl)))) (hn : (io ++ ik).Nodup := by decide) (hL : Has (Sg τ) (vals (L a0 a1)) := by (repeat (first | exact True.intro | refine And.intro (by first | exact rfl | exact Go.Px.I_congr (by first | omega | (simp; omega) | simp) | exact Go.Px.sl_congr (by first | omega | (simp; done) | (simp; omega) | exact congrArg List.length (by assumption))) ?_))) (h0 : J a0 a1) : p := pre (C.loop (ι := α0 × α1) (fun x => vals (L x.1 x.2 ++ KS)) (fun x w => J x.1 x.2 ∧ Mem w0 w R (N x.1 x.2 ++ KN)) (fun x => μ x.1 x.2) (a0, a1) (has_app hL (keep_has hk)) ⟨h0, (hN.app hr).mem hn hM⟩ (fun x σ' w' hI => by have h9 := h x.1 x.2 (lf σ') w' hI.1 hI.2; simp only [den, Sg_upl, Sg_lf] at h9; exact C.mono h9 fun e σ w hh => by cases e <;> first | exact hh.h | exact hh))
theorem le2 {α0 α1 : Type} {L : α0 → α1 → List (Nat × SV)} {J : α0 → α1 → Prop} {N : α0 → α1 → List (List FE)} {μ : α0 → α1 → Nat} (k9 : Nat) (is : List Nat) (a0 : α0) (a1 : α1) (io : List Nat) (pre : Run k9 is (den P n Q w ⟨.q .normal, .nm (LE2 L KS J N KN w0 R μ m) :: K, τ⟩) p := by exact Go.Px.p9) (hM : Mem w0 w R M := by assumption) (hm : μ a0 a1 < m := by (try dsimp only); omega) (hL : Has (Sg τ) (vals (L a0 a1)) := by (repeat (first | exact True.intro | refine And.intro (by first | exact rfl | exact Go.Px.I_congr (by first | omega | (simp; omega) | simp) | exact Go.Px.sl_congr (by first | omega | (simp; done) | (simp; omega) | exact congrArg List.length (by assumption))) ?_))) (hK : KS.map (fun p => τ p.1) = KS.map (·.2) := by exact rfl) (hp : Pk M io (N a0 a1 ++ KN) := by (repeat (first | exact Go.Px.Pk.nil | (apply Go.Px.Pk.cons; exact rfl)))) (hn : io.Nodup := by decide) (h : J a0 a1) : p := pre (show LE2 L KS J N KN w0 R μ m (Sg τ) w from ⟨(a0, a1), hm, has_app hL (same_has hK), h, hp.mem hn hM⟩)
theorem ct2 {α0 α1 : Type}  (k9 : Nat) (is : List Nat) (L : α0 → α1 → List (Nat × SV)) (J : α0 → α1 → Prop) (N : α0 → α1 → List (List FE)) (ks ik : List Nat) (h1 : den P n Q w ⟨.c cx, .nm (CE2 L KS J N KN w0 R) :: K, τ⟩) (h2 : ∀ (a0 : α0) (a1 : α1) (τ' : Fm) (w' : World), J a0 a1 → Mem w0 w' R (N a0 a1 ++ KN) → den P n Q w' ⟨.c cy, K, upl τ' (L a0 a1 ++ KS)⟩) (pre : Run k9 is (den P n Q w ⟨.c (.seq cx cy), K, τ⟩) p := by exact Go.Px.p9) (hM : Mem w0 w R M := by assumption) (hk : keep τ ks = some KS := by exact rfl) (hr : Pk M ik KN := by (repeat (first | exact Go.Px.Pk.nil | (apply Go.Px.Pk.cons; exact rfl)))) : p := pre (C.cut (ι := α0 × α1) (fun x => vals (L x.1 x.2 ++ KS)) (fun x w => J x.1 x.2 ∧ Mem w0 w R (N x.1 x.2 ++ KN)) (C.mono h1 fun e σ w hh => by cases e <;> first | exact hh.h | exact hh) (fun x σ' w' hI => by have h9 := h2 x.1 x.2 (lf σ') w' hI.1 hI.2; simp only [den, Sg_upl, Sg_lf] at h9; exact h9))
theorem ce2 {α0 α1 : Type} {L : α0 → α1 → List (Nat × SV)} {J : α0 → α1 → Prop} {N : α0 → α1 → List (List FE)} (k9 : Nat) (is : List Nat) (a0 : α0) (a1 : α1) (io : List Nat) (pre : Run k9 is (den P n Q w ⟨.q .normal, .nm (CE2 L KS J N KN w0 R) :: K, τ⟩) p := by exact Go.Px.p9) (hM : Mem w0 w R M := by assumption) (hL : Has (Sg τ) (vals (L a0 a1)) := by (repeat (first | exact True.intro | refine And.intro (by first | exact rfl | exact Go.Px.I_congr (by first | omega | (simp; omega) | simp) | exact Go.Px.sl_congr (by first | omega | (simp; done) | (simp; omega) | exact congrArg List.length (by assumption))) ?_))) (hK : KS.map (fun p => τ p.1) = KS.map (·.2) := by exact rfl) (hp : Pk M io (N a0 a1 ++ KN) := by (repeat (first | exact Go.Px.Pk.nil | (apply Go.Px.Pk.cons; exact rfl)))) (hn : io.Nodup := by decide) (h : J a0 a1) : p := pre (show CE2 L KS J N KN w0 R (Sg τ) w from ⟨(a0, a1), has_app hL (same_has hK), h, hp.mem hn hM⟩)
structure LE3 {α0 α1 α2 : Type} (L : α0 → α1 → α2 → List (Nat × SV)) (KS : List (Nat × SV)) (J : α0 → α1 → α2 → Prop) (N : α0 → α1 → α2 → List (List FE)) (KN : List (List FE)) (w0 : World) (R : List (Option Nat)) (μ : α0 → α1 → α2 → Nat) (m : Nat) (σ : Sig) (w : World) : Prop where h : ∃ x : α0 × α1 × α2, μ x.1 x.2.1 x.2.2 < m ∧ Has σ (vals (L x.1 x.2.1 x.2.2 ++ KS)) ∧ (fun x w => J x.1 x.2.1 x.2.2 ∧ Mem w0 w R (N x.1 x.2.1 x.2.2 ++ KN)) x w
structure CE3 {α0 α1 α2 : Type} (L : α0 → α1 → α2 → List (Nat × SV)) (KS : List (Nat × SV)) (J : α0 → α1 → α2 → Prop) (N : α0 → α1 → α2 → List (List FE)) (KN : List (List FE)) (w0 : World) (R : List (Option Nat)) (σ : Sig) (w : World) : Prop where h : ∃ x : α0 × α1 × α2, Has σ (vals (L x.1 x.2.1 x.2.2 ++ KS)) ∧ (fun x w => J x.1 x.2.1 x.2.2 ∧ Mem w0 w R (N x.1 x.2.1 x.2.2 ++ KN)) x w
theorem lp3 {α0 α1 α2 : Type}  (k9 : Nat) (is : List Nat) (L : α0 → α1 → α2 → List (Nat × SV)) (J : α0 → α1 → α2 → Prop) (N : α0 → α1 → α2 → List (List FE)) (μ : α0 → α1 → α2 → Nat) (ks io ik : List Nat) (a0 : α0) (a1 : α1) (a2 : α2) (h : ∀ (a0 : α0) (a1 : α1) (a2 : α2) (τ' : Fm) (w' : World), J a0 a1 a2 → Mem w0 w' R (N a0 a1 a2 ++ KN) → den P n Q w' ⟨.c c, .nm (LE3 L KS J N KN w0 R μ (μ a0 a1 a2)) :: K, upl τ' (L a0 a1 a2 ++ KS)⟩) (pre : Run k9 is (den P n Q w ⟨.c (.loop c), K, τ⟩) p := by exact Go.Px.p9) (hM : Mem w0 w R M := by assumption) (hk : keep τ ks = some KS := by exact rfl) (hr : Pk M ik KN := by (repeat (first | exact Go.Px.Pk.nil | (apply Go.Px.Pk.cons; exact rfl)))) (hN : Pk M io (N a0 a1 a2) := by (repeat (first | exact Go.Px.Pk.nil | (apply Go.Px.Pk.cons; exact rfl)))) (hn : (io ++ ik).Nodup := by decide) (hL : Has (Sg τ) (vals (L a0 a1 a2)) := by (repeat (first | exact True.intro | refine And.intro (by first | exact rfl | exact Go.Px.I_congr (by first | omega | (simp; omega) | simp) | exact Go.Px.sl_congr (by first | omega | (simp; done) | (simp; omega) | exact congrArg List.length (by assumption))) ?_))) (h0 : J a0 a1 a2) : p := pre (C.loop (ι := α0 × α1 × α2) (fun x => vals (L x.1 x.2.1 x.2.2 ++ KS)) (fun x w => J x.1 x.2.1 x.2.2 ∧ Mem w0 w R (N x.1 x.2.1 x.2.2 ++ KN)) (fun x => μ x.1 x.2.1 x.2.2) (a0, a1, a2) (has_app hL (keep_has hk)) ⟨h0, (hN.app hr).mem hn hM⟩ (fun x σ' w' hI => by have h9 := h x.1 x.2.1 x.2.2 (lf σ') w' hI.1 hI.2; simp only [den, Sg_upl, Sg_lf] at h9; exact C.mono h9 fun e σ w hh => by cases e <;> first | exact hh.h | exact hh))
theorem le3 {α0 α1 α2 : Type} {L : α0 → α1 → α2 → List (Nat × SV)} {J : α0 → α1 → α2 → Prop} {N : α0 → α1 → α2 → List (List FE)} {μ : α0 → α1 → α2 → Nat} (k9 : Nat) (is : List Nat) (a0 : α0) (a1 : α1) (a2 : α2) (io : List Nat) (pre : Run k9 is (den P n Q w ⟨.q .normal, .nm (LE3 L KS J N KN w0 R μ m) :: K, τ⟩) p := by exact Go.Px.p9) (hM : Mem w0 w R M := by assumption) (hm : μ a0 a1 a2 < m := by (try dsimp only); omega) (hL : Has (Sg τ) (vals (L a0 a1 a2)) := by (repeat (first | exact True.intro | refine And.intro (by first | exact rfl | exact Go.Px.I_congr (by first | omega | (simp; omega) | simp) | exact Go.Px.sl_congr (by first | omega | (simp; done) | (simp; omega) | exact congrArg List.length (by assumption))) ?_))) (hK : KS.map (fun p => τ p.1) = KS.map (·.2) := by exact rfl) (hp : Pk M io (N a0 a1 a2 ++ KN) := by (repeat (first | exact Go.Px.Pk.nil | (apply Go.Px.Pk.cons; exact rfl)))) (hn : io.Nodup := by decide) (h : J a0 a1 a2) : p := pre (show LE3 L KS J N KN w0 R μ m (Sg τ) w from ⟨(a0, a1, a2), hm, has_app hL (same_has hK), h, hp.mem hn hM⟩)
theorem ct3 {α0 α1 α2 : Type}  (k9 : Nat) (is : List Nat) (L : α0 → α1 → α2 → List (Nat × SV)) (J : α0 → α1 → α2 → Prop) (N : α0 → α1 → α2 → List (List FE)) (ks ik : List Nat) (h1 : den P n Q w ⟨.c cx, .nm (CE3 L KS J N KN w0 R) :: K, τ⟩) (h2 : ∀ (a0 : α0) (a1 : α1) (a2 : α2) (τ' : Fm) (w' : World), J a0 a1 a2 → Mem w0 w' R (N a0 a1 a2 ++ KN) → den P n Q w' ⟨.c cy, K, upl τ' (L a0 a1 a2 ++ KS)⟩) (pre : Run k9 is (den P n Q w ⟨.c (.seq cx cy), K, τ⟩) p := by exact Go.Px.p9) (hM : Mem w0 w R M := by assumption) (hk : keep τ ks = some KS := by exact rfl) (hr : Pk M ik KN := by (repeat (first | exact Go.Px.Pk.nil | (apply Go.Px.Pk.cons; exact rfl)))) : p := pre (C.cut (ι := α0 × α1 × α2) (fun x => vals (L x.1 x.2.1 x.2.2 ++ KS)) (fun x w => J x.1 x.2.1 x.2.2 ∧ Mem w0 w R (N x.1 x.2.1 x.2.2 ++ KN)) (C.mono h1 fun e σ w hh => by cases e <;> first | exact hh.h | exact hh) (fun x σ' w' hI => by have h9 := h2 x.1 x.2.1 x.2.2 (lf σ') w' hI.1 hI.2; simp only [den, Sg_upl, Sg_lf] at h9; exact h9))
theorem ce3 {α0 α1 α2 : Type} {L : α0 → α1 → α2 → List (Nat × SV)} {J : α0 → α1 → α2 → Prop} {N : α0 → α1 → α2 → List (List FE)} (k9 : Nat) (is : List Nat) (a0 : α0) (a1 : α1) (a2 : α2) (io : List Nat) (pre : Run k9 is (den P n Q w ⟨.q .normal, .nm (CE3 L KS J N KN w0 R) :: K, τ⟩) p := by exact Go.Px.p9) (hM : Mem w0 w R M := by assumption) (hL : Has (Sg τ) (vals (L a0 a1 a2)) := by (repeat (first | exact True.intro | refine And.intro (by first | exact rfl | exact Go.Px.I_congr (by first | omega | (simp; omega) | simp) | exact Go.Px.sl_congr (by first | omega | (simp; done) | (simp; omega) | exact congrArg List.length (by assumption))) ?_))) (hK : KS.map (fun p => τ p.1) = KS.map (·.2) := by exact rfl) (hp : Pk M io (N a0 a1 a2 ++ KN) := by (repeat (first | exact Go.Px.Pk.nil | (apply Go.Px.Pk.cons; exact rfl)))) (hn : io.Nodup := by decide) (h : J a0 a1 a2) : p := pre (show CE3 L KS J N KN w0 R (Sg τ) w from ⟨(a0, a1, a2), has_app hL (same_has hK), h, hp.mem hn hM⟩)
structure LE4 {α0 α1 α2 α3 : Type} (L : α0 → α1 → α2 → α3 → List (Nat × SV)) (KS : List (Nat × SV)) (J : α0 → α1 → α2 → α3 → Prop) (N : α0 → α1 → α2 → α3 → List (List FE)) (KN : List (List FE)) (w0 : World) (R : List (Option Nat)) (μ : α0 → α1 → α2 → α3 → Nat) (m : Nat) (σ : Sig) (w : World) : Prop where h : ∃ x : α0 × α1 × α2 × α3, μ x.1 x.2.1 x.2.2.1 x.2.2.2 < m ∧ Has σ (vals (L x.1 x.2.1 x.2.2.1 x.2.2.2 ++ KS)) ∧ (fun x w => J x.1 x.2.1 x.2.2.1 x.2.2.2 ∧ Mem w0 w R (N x.1 x.2.1 x.2.2.1 x.2.2.2 ++ KN)) x w
structure CE4 {α0 α1 α2 α3 : Type} (L : α0 → α1 → α2 → α3 → List (Nat × SV)) (KS : List (Nat × SV)) (J : α0 → α1 → α2 → α3 → Prop) (N : α0 → α1 → α2 → α3 → List (List FE)) (KN : List (List FE)) (w0 : World) (R : List (Option Nat)) (σ : Sig) (w : World) : Prop where h : ∃ x : α0 × α1 × α2 × α3, Has σ (vals (L x.1 x.2.1 x.2.2.1 x.2.2.2 ++ KS)) ∧ (fun x w => J x.1 x.2.1 x.2.2.1 x.2.2.2 ∧ Mem w0 w R (N x.1 x.2.1 x.2.2.1 x.2.2.2 ++ KN)) x w
theorem lp4 {α0 α1 α2 α3 : Type}  (k9 : Nat) (is : List Nat) (L : α0 → α1 → α2 → α3 → List (Nat × SV)) (J : α0 → α1 → α2 → α3 → Prop) (N : α0 → α1 → α2 → α3 → List (List FE)) (μ : α0 → α1 → α2 → α3 → Nat) (ks io ik : List Nat) (a0 : α0) (a1 : α1) (a2 : α2) (a3 : α3) (h : ∀ (a0 : α0) (a1 : α1) (a2 : α2) (a3 : α3) (τ' : Fm) (w' : World), J a0 a1 a2 a3 → Mem w0 w' R (N a0 a1 a2 a3 ++ KN) → den P n Q w' ⟨.c c, .nm (LE4 L KS J N KN w0 R μ (μ a0 a1 a2 a3)) :: K, upl τ' (L a0 a1 a2 a3 ++ KS)⟩) (pre : Run k9 is (den P n Q w ⟨.c (.loop c), K, τ⟩) p := by exact Go.Px.p9) (hM : Mem w0 w R M := by assumption) (hk : keep τ ks = some KS := by exact rfl) (hr : Pk M ik KN := by (repeat (first | exact Go.Px.Pk.nil | (apply Go.Px.Pk.cons; exact rfl)))) (hN : Pk M io (N a0 a1 a2 a3) := by (repeat (first | exact Go.Px.Pk.nil | (apply Go.Px.Pk.cons; exact rfl)))) (hn : (io ++ ik).Nodup := by decide) (hL : Has (Sg τ) (vals (L a0 a1 a2 a3)) := by (repeat (first | exact True.intro | refine And.intro (by first | exact rfl | exact Go.Px.I_congr (by first | omega | (simp; omega) | simp) | exact Go.Px.sl_congr (by first | omega | (simp; done) | (simp; omega) | exact congrArg List.length (by assumption))) ?_))) (h0 : J a0 a1 a2 a3) : p := pre (C.loop (ι := α0 × α1 × α2 × α3) (fun x => vals (L x.1 x.2.1 x.2.2.1 x.2.2.2 ++ KS)) (fun x w => J x.1 x.2.1 x.2.2.1 x.2.2.2 ∧ Mem w0 w R (N x.1 x.2.1 x.2.2.1 x.2.2.2 ++ KN)) (fun x => μ x.1 x.2.1 x.2.2.1 x.2.2.2) (a0, a1, a2, a3) (has_app hL (keep_has hk)) ⟨h0, (hN.app hr).mem hn hM⟩ (fun x σ' w' hI => by have h9 := h x.1 x.2.1 x.2.2.1 x.2.2.2 (lf σ') w' hI.1 hI.2; simp only [den, Sg_upl, Sg_lf] at h9; exact C.mono h9 fun e σ w hh => by cases e <;> first | exact hh.h | exact hh))
theorem le4 {α0 α1 α2 α3 : Type} {L : α0 → α1 → α2 → α3 → List (Nat × SV)} {J : α0 → α1 → α2 → α3 → Prop} {N : α0 → α1 → α2 → α3 → List (List FE)} {μ : α0 → α1 → α2 → α3 → Nat} (k9 : Nat) (is : List Nat) (a0 : α0) (a1 : α1) (a2 : α2) (a3 : α3) (io : List Nat) (pre : Run k9 is (den P n Q w ⟨.q .normal, .nm (LE4 L KS J N KN w0 R μ m) :: K, τ⟩) p := by exact Go.Px.p9) (hM : Mem w0 w R M := by assumption) (hm : μ a0 a1 a2 a3 < m := by (try dsimp only); omega) (hL : Has (Sg τ) (vals (L a0 a1 a2 a3)) := by (repeat (first | exact True.intro | refine And.intro (by first | exact rfl | exact Go.Px.I_congr (by first | omega | (simp; omega) | simp) | exact Go.Px.sl_congr (by first | omega | (simp; done) | (simp; omega) | exact congrArg List.length (by assumption))) ?_))) (hK : KS.map (fun p => τ p.1) = KS.map (·.2) := by exact rfl) (hp : Pk M io (N a0 a1 a2 a3 ++ KN) := by (repeat (first | exact Go.Px.Pk.nil | (apply Go.Px.Pk.cons; exact rfl)))) (hn : io.Nodup := by decide) (h : J a0 a1 a2 a3) : p := pre (show LE4 L KS J N KN w0 R μ m (Sg τ) w from ⟨(a0, a1, a2, a3), hm, has_app hL (same_has hK), h, hp.mem hn hM⟩)
theorem ct4 {α0 α1 α2 α3 : Type}  (k9 : Nat) (is : List Nat) (L : α0 → α1 → α2 → α3 → List (Nat × SV)) (J : α0 → α1 → α2 → α3 → Prop) (N : α0 → α1 → α2 → α3 → List (List FE)) (ks ik : List Nat) (h1 : den P n Q w ⟨.c cx, .nm (CE4 L KS J N KN w0 R) :: K, τ⟩) (h2 : ∀ (a0 : α0) (a1 : α1) (a2 : α2) (a3 : α3) (τ' : Fm) (w' : World), J a0 a1 a2 a3 → Mem w0 w' R (N a0 a1 a2 a3 ++ KN) → den P n Q w' ⟨.c cy, K, upl τ' (L a0 a1 a2 a3 ++ KS)⟩) (pre : Run k9 is (den P n Q w ⟨.c (.seq cx cy), K, τ⟩) p := by exact Go.Px.p9) (hM : Mem w0 w R M := by assumption) (hk : keep τ ks = some KS := by exact rfl) (hr : Pk M ik KN := by (repeat (first | exact Go.Px.Pk.nil | (apply Go.Px.Pk.cons; exact rfl)))) : p := pre (C.cut (ι := α0 × α1 × α2 × α3) (fun x => vals (L x.1 x.2.1 x.2.2.1 x.2.2.2 ++ KS)) (fun x w => J x.1 x.2.1 x.2.2.1 x.2.2.2 ∧ Mem w0 w R (N x.1 x.2.1 x.2.2.1 x.2.2.2 ++ KN)) (C.mono h1 fun e σ w hh => by cases e <;> first | exact hh.h | exact hh) (fun x σ' w' hI => by have h9 := h2 x.1 x.2.1 x.2.2.1 x.2.2.2 (lf σ') w' hI.1 hI.2; simp only [den, Sg_upl, Sg_lf] at h9; exact h9))
theorem ce4 {α0 α1 α2 α3 : Type} {L : α0 → α1 → α2 → α3 → List (Nat × SV)} {J : α0 → α1 → α2 → α3 → Prop} {N : α0 → α1 → α2 → α3 → List (List FE)} (k9 : Nat) (is : List Nat) (a0 : α0) (a1 : α1) (a2 : α2) (a3 : α3) (io : List Nat) (pre : Run k9 is (den P n Q w ⟨.q .normal, .nm (CE4 L KS J N KN w0 R) :: K, τ⟩) p := by exact Go.Px.p9) (hM : Mem w0 w R M := by assumption) (hL : Has (Sg τ) (vals (L a0 a1 a2 a3)) := by (repeat (first | exact True.intro | refine And.intro (by first | exact rfl | exact Go.Px.I_congr (by first | omega | (simp; omega) | simp) | exact Go.Px.sl_congr (by first | omega | (simp; done) | (simp; omega) | exact congrArg List.length (by assumption))) ?_))) (hK : KS.map (fun p => τ p.1) = KS.map (·.2) := by exact rfl) (hp : Pk M io (N a0 a1 a2 a3 ++ KN) := by (repeat (first | exact Go.Px.Pk.nil | (apply Go.Px.Pk.cons; exact rfl)))) (hn : io.Nodup := by decide) (h : J a0 a1 a2 a3) : p := pre (show CE4 L KS J N KN w0 R (Sg τ) w from ⟨(a0, a1, a2, a3), has_app hL (same_has hK), h, hp.mem hn hM⟩)
structure LE5 {α0 α1 α2 α3 α4 : Type} (L : α0 → α1 → α2 → α3 → α4 → List (Nat × SV)) (KS : List (Nat × SV)) (J : α0 → α1 → α2 → α3 → α4 → Prop) (N : α0 → α1 → α2 → α3 → α4 → List (List FE)) (KN : List (List FE)) (w0 : World) (R : List (Option Nat)) (μ : α0 → α1 → α2 → α3 → α4 → Nat) (m : Nat) (σ : Sig) (w : World) : Prop where h : ∃ x : α0 × α1 × α2 × α3 × α4, μ x.1 x.2.1 x.2.2.1 x.2.2.2.1 x.2.2.2.2 < m ∧ Has σ (vals (L x.1 x.2.1 x.2.2.1 x.2.2.2.1 x.2.2.2.2 ++ KS)) ∧ (fun x w => J x.1 x.2.1 x.2.2.1 x.2.2.2.1 x.2.2.2.2 ∧ Mem w0 w R (N x.1 x.2.1 x.2.2.1 x.2.2.2.1 x.2.2.2.2 ++ KN)) x w
structure CE5 {α0 α1 α2 α3 α4 : Type} (L : α0 → α1 → α2 → α3 → α4 → List (Nat × SV)) (KS : List (Nat × SV)) (J : α0 → α1 → α2 → α3 → α4 → Prop) (N : α0 → α1 → α2 → α3 → α4 → List (List FE)) (KN : List (List FE)) (w0 : World) (R : List (Option Nat)) (σ : Sig) (w : World) : Prop where h : ∃ x : α0 × α1 × α2 × α3 × α4, Has σ (vals (L x.1 x.2.1 x.2.2.1 x.2.2.2.1 x.2.2.2.2 ++ KS)) ∧ (fun x w => J x.1 x.2.1 x.2.2.1 x.2.2.2.1 x.2.2.2.2 ∧ Mem w0 w R (N x.1 x.2.1 x.2.2.1 x.2.2.2.1 x.2.2.2.2 ++ KN)) x w
theorem lp5 {α0 α1 α2 α3 α4 : Type}  (k9 : Nat) (is : List Nat) (L : α0 → α1 → α2 → α3 → α4 → List (Nat × SV)) (J : α0 → α1 → α2 → α3 → α4 → Prop) (N : α0 → α1 → α2 → α3 → α4 → List (List FE)) (μ : α0 → α1 → α2 → α3 → α4 → Nat) (ks io ik : List Nat) (a0 : α0) (a1 : α1) (a2 : α2) (a3 : α3) (a4 : α4) (h : ∀ (a0 : α0) (a1 : α1) (a2 : α2) (a3 : α3) (a4 : α4) (τ' : Fm) (w' : World), J a0 a1 a2 a3 a4 → Mem w0 w' R (N a0 a1 a2 a3 a4 ++ KN) → den P n Q w' ⟨.c c, .nm (LE5 L KS J N KN w0 R μ (μ a0 a1 a2 a3 a4)) :: K, upl τ' (L a0 a1 a2 a3 a4 ++ KS)⟩) (pre : Run k9 is (den P n Q w ⟨.c (.loop c), K, τ⟩) p := by exact Go.Px.p9) (hM : Mem w0 w R M := by assumption) (hk : keep τ ks = some KS := by exact rfl) (hr : Pk M ik KN := by (repeat (first | exact Go.Px.Pk.nil | (apply Go.Px.Pk.cons; exact rfl)))) (hN : Pk M io (N a0 a1 a2 a3 a4) := by (repeat (first | exact Go.Px.Pk.nil | (apply Go.Px.Pk.cons; exact rfl)))) (hn : (io ++ ik).Nodup := by decide) (hL : Has (Sg τ) (vals (L a0 a1 a2 a3 a4)) := by (repeat (first | exact True.intro | refine And.intro (by first | exact rfl | exact Go.Px.I_congr (by first | omega | (simp; omega) | simp) | exact Go.Px.sl_congr (by first | omega | (simp; done) | (simp; omega) | exact congrArg List.length (by assumption))) ?_))) (h0 : J a0 a1 a2 a3 a4) : p := pre (C.loop (ι := α0 × α1 × α2 × α3 × α4) (fun x => vals (L x.1 x.2.1 x.2.2.1 x.2.2.2.1 x.2.2.2.2 ++ KS)) (fun x w => J x.1 x.2.1 x.2.2.1 x.2.2.2.1 x.2.2.2.2 ∧ Mem w0 w R (N x.1 x.2.1 x.2.2.1 x.2.2.2.1 x.2.2.2.2 ++ KN)) (fun x => μ x.1 x.2.1 x.2.2.1 x.2.2.2.1 x.2.2.2.2) (a0, a1, a2, a3, a4) (has_app hL (keep_has hk)) ⟨h0, (hN.app hr).mem hn hM⟩ (fun x σ' w' hI => by have h9 := h x.1 x.2.1 x.2.2.1 x.2.2.2.1 x.2.2.2.2 (lf σ') w' hI.1 hI.2; simp only [den, Sg_upl, Sg_lf] at h9; exact C.mono h9 fun e σ w hh => by cases e <;> first | exact hh.h | exact hh))
theorem le5 {α0 α1 α2 α3 α4 : Type} {L : α0 → α1 → α2 → α3 → α4 → List (Nat × SV)} {J : α0 → α1 → α2 → α3 → α4 → Prop} {N : α0 → α1 → α2 → α3 → α4 → List (List FE)} {μ : α0 → α1 → α2 → α3 → α4 → Nat} (k9 : Nat) (is : List Nat) (a0 : α0) (a1 : α1) (a2 : α2) (a3 : α3) (a4 : α4) (io : List Nat) (pre : Run k9 is (den P n Q w ⟨.q .normal, .nm (LE5 L KS J N KN w0 R μ m) :: K, τ⟩) p := by exact Go.Px.p9) (hM : Mem w0 w R M := by assumption) (hm : μ a0 a1 a2 a3 a4 < m := by (try dsimp only); omega) (hL : Has (Sg τ) (vals (L a0 a1 a2 a3 a4)) := by (repeat (first | exact True.intro | refine And.intro (by first | exact rfl | exact Go.Px.I_congr (by first | omega | (simp; omega) | simp) | exact Go.Px.sl_congr (by first | omega | (simp; done) | (simp; omega) | exact congrArg List.length (by assumption))) ?_))) (hK : KS.map (fun p => τ p.1) = KS.map (·.2) := by exact rfl) (hp : Pk M io (N a0 a1 a2 a3 a4 ++ KN) := by (repeat (first | exact Go.Px.Pk.nil | (apply Go.Px.Pk.cons; exact rfl)))) (hn : io.Nodup := by decide) (h : J a0 a1 a2 a3 a4) : p := pre (show LE5 L KS J N KN w0 R μ m (Sg τ) w from ⟨(a0, a1, a2, a3, a4), hm, has_app hL (same_has hK), h, hp.mem hn hM⟩)
theorem ct5 {α0 α1 α2 α3 α4 : Type}  (k9 : Nat) (is : List Nat) (L : α0 → α1 → α2 → α3 → α4 → List (Nat × SV)) (J : α0 → α1 → α2 → α3 → α4 → Prop) (N : α0 → α1 → α2 → α3 → α4 → List (List FE)) (ks ik : List Nat) (h1 : den P n Q w ⟨.c cx, .nm (CE5 L KS J N KN w0 R) :: K, τ⟩) (h2 : ∀ (a0 : α0) (a1 : α1) (a2 : α2) (a3 : α3) (a4 : α4) (τ' : Fm) (w' : World), J a0 a1 a2 a3 a4 → Mem w0 w' R (N a0 a1 a2 a3 a4 ++ KN) → den P n Q w' ⟨.c cy, K, upl τ' (L a0 a1 a2 a3 a4 ++ KS)⟩) (pre : Run k9 is (den P n Q w ⟨.c (.seq cx cy), K, τ⟩) p := by exact Go.Px.p9) (hM : Mem w0 w R M := by assumption) (hk : keep τ ks = some KS := by exact rfl) (hr : Pk M ik KN := by (repeat (first | exact Go.Px.Pk.nil | (apply Go.Px.Pk.cons; exact rfl)))) : p := pre (C.cut (ι := α0 × α1 × α2 × α3 × α4) (fun x => vals (L x.1 x.2.1 x.2.2.1 x.2.2.2.1 x.2.2.2.2 ++ KS)) (fun x w => J x.1 x.2.1 x.2.2.1 x.2.2.2.1 x.2.2.2.2 ∧ Mem w0 w R (N x.1 x.2.1 x.2.2.1 x.2.2.2.1 x.2.2.2.2 ++ KN)) (C.mono h1 fun e σ w hh => by cases e <;> first | exact hh.h | exact hh) (fun x σ' w' hI => by have h9 := h2 x.1 x.2.1 x.2.2.1 x.2.2.2.1 x.2.2.2.2 (lf σ') w' hI.1 hI.2; simp only [den, Sg_upl, Sg_lf] at h9; exact h9))
theorem ce5 {α0 α1 α2 α3 α4 : Type} {L : α0 → α1 → α2 → α3 → α4 → List (Nat × SV)} {J : α0 → α1 → α2 → α3 → α4 → Prop} {N : α0 → α1 → α2 → α3 → α4 → List (List FE)} (k9 : Nat) (is : List Nat) (a0 : α0) (a1 : α1) (a2 : α2) (a3 : α3) (a4 : α4) (io : List Nat) (pre : Run k9 is (den P n Q w ⟨.q .normal, .nm (CE5 L KS J N KN w0 R) :: K, τ⟩) p := by exact Go.Px.p9) (hM : Mem w0 w R M := by assumption) (hL : Has (Sg τ) (vals (L a0 a1 a2 a3 a4)) := by (repeat (first | exact True.intro | refine And.intro (by first | exact rfl | exact Go.Px.I_congr (by first | omega | (simp; omega) | simp) | exact Go.Px.sl_congr (by first | omega | (simp; done) | (simp; omega) | exact congrArg List.length (by assumption))) ?_))) (hK : KS.map (fun p => τ p.1) = KS.map (·.2) := by exact rfl) (hp : Pk M io (N a0 a1 a2 a3 a4 ++ KN) := by (repeat (first | exact Go.Px.Pk.nil | (apply Go.Px.Pk.cons; exact rfl)))) (hn : io.Nodup := by decide) (h : J a0 a1 a2 a3 a4) : p := pre (show CE5 L KS J N KN w0 R (Sg τ) w from ⟨(a0, a1, a2, a3, a4), has_app hL (same_has hK), h, hp.mem hn hM⟩)
structure LE6 {α0 α1 α2 α3 α4 α5 : Type} (L : α0 → α1 → α2 → α3 → α4 → α5 → List (Nat × SV)) (KS : List (Nat × SV)) (J : α0 → α1 → α2 → α3 → α4 → α5 → Prop) (N : α0 → α1 → α2 → α3 → α4 → α5 → List (List FE)) (KN : List (List FE)) (w0 : World) (R : List (Option Nat)) (μ : α0 → α1 → α2 → α3 → α4 → α5 → Nat) (m : Nat) (σ : Sig) (w : World) : Prop where h : ∃ x : α0 × α1 × α2 × α3 × α4 × α5, μ x.1 x.2.1 x.2.2.1 x.2.2.2.1 x.2.2.2.2.1 x.2.2.2.2.2 < m ∧ Has σ (vals (L x.1 x.2.1 x.2.2.1 x.2.2.2.1 x.2.2.2.2.1 x.2.2.2.2.2 ++ KS)) ∧ (fun x w => J x.1 x.2.1 x.2.2.1 x.2.2.2.1 x.2.2.2.2.1 x.2.2.2.2.2 ∧ Mem w0 w R (N x.1 x.2.1 x.2.2.1 x.2.2.2.1 x.2.2.2.2.1 x.2.2.2.2.2 ++ KN)) x w
structure CE6 {α0 α1 α2 α3 α4 α5 : Type} (L : α0 → α1 → α2 → α3 → α4 → α5 → List (Nat × SV)) (KS : List (Nat × SV)) (J : α0 → α1 → α2 → α3 → α4 → α5 → Prop) (N : α0 → α1 → α2 → α3 → α4 → α5 → List (List FE)) (KN : List (List FE)) (w0 : World) (R : List (Option Nat)) (σ : Sig) (w : World) : Prop where h : ∃ x : α0 × α1 × α2 × α3 × α4 × α5, Has σ (vals (L x.1 x.2.1 x.2.2.1 x.2.2.2.1 x.2.2.2.2.1 x.2.2.2.2.2 ++ KS)) ∧ (fun x w => J x.1 x.2.1 x.2.2.1 x.2.2.2.1 x.2.2.2.2.1 x.2.2.2.2.2 ∧ Mem w0 w R (N x.1 x.2.1 x.2.2.1 x.2.2.2.1 x.2.2.2.2.1 x.2.2.2.2.2 ++ KN)) x w
theorem lp6 {α0 α1 α2 α3 α4 α5 : Type}  (k9 : Nat) (is : List Nat) (L : α0 → α1 → α2 → α3 → α4 → α5 → List (Nat × SV)) (J : α0 → α1 → α2 → α3 → α4 → α5 → Prop) (N : α0 → α1 → α2 → α3 → α4 → α5 → List (List FE)) (μ : α0 → α1 → α2 → α3 → α4 → α5 → Nat) (ks io ik : List Nat) (a0 : α0) (a1 : α1) (a2 : α2) (a3 : α3) (a4 : α4) (a5 : α5) (h : ∀ (a0 : α0) (a1 : α1) (a2 : α2) (a3 : α3) (a4 : α4) (a5 : α5) (τ' : Fm) (w' : World), J a0 a1 a2 a3 a4 a5 → Mem w0 w' R (N a0 a1 a2 a3 a4 a5 ++ KN) → den P n Q w' ⟨.c c, .nm (LE6 L KS J N KN w0 R μ (μ a0 a1 a2 a3 a4 a5)) :: K, upl τ' (L a0 a1 a2 a3 a4 a5 ++ KS)⟩) (pre : Run k9 is (den P n Q w ⟨.c (.loop c), K, τ⟩) p := by exact Go.Px.p9) (hM : Mem w0 w R M := by assumption) (hk : keep τ ks = some KS := by exact rfl) (hr : Pk M ik KN := by (repeat (first | exact Go.Px.Pk.nil | (apply Go.Px.Pk.cons; exact rfl)))) (hN : Pk M io (N a0 a1 a2 a3 a4 a5) := by (repeat (first | exact Go.Px.Pk.nil | (apply Go.Px.Pk.cons; exact rfl)))) (hn : (io ++ ik).Nodup := by decide) (hL : Has (Sg τ) (vals (L a0 a1 a2 a3 a4 a5)) := by (repeat (first | exact True.intro | refine And.intro (by first | exact rfl | exact Go.Px.I_congr (by first | omega | (simp; omega) | simp) | exact Go.Px.sl_congr (by first | omega | (simp; done) | (simp; omega) | exact congrArg List.length (by assumption))) ?_))) (h0 : J a0 a1 a2 a3 a4 a5) : p := pre (C.loop (ι := α0 × α1 × α2 × α3 × α4 × α5) (fun x => vals (L x.1 x.2.1 x.2.2.1 x.2.2.2.1 x.2.2.2.2.1 x.2.2.2.2.2 ++ KS)) (fun x w => J x.1 x.2.1 x.2.2.1 x.2.2.2.1 x.2.2.2.2.1 x.2.2.2.2.2 ∧ Mem w0 w R (N x.1 x.2.1 x.2.2.1 x.2.2.2.1 x.2.2.2.2.1 x.2.2.2.2.2 ++ KN)) (fun x => μ x.1 x.2.1 x.2.2.1 x.2.2.2.1 x.2.2.2.2.1 x.2.2.2.2.2) (a0, a1, a2, a3, a4, a5) (has_app hL (keep_has hk)) ⟨h0, (hN.app hr).mem hn hM⟩ (fun x σ' w' hI => by have h9 := h x.1 x.2.1 x.2.2.1 x.2.2.2.1 x.2.2.2.2.1 x.2.2.2.2.2 (lf σ') w' hI.1 hI.2; simp only [den, Sg_upl, Sg_lf] at h9; exact C.mono h9 fun e σ w hh => by cases e <;> first | exact hh.h | exact hh))
theorem le6 {α0 α1 α2 α3 α4 α5 : Type} {L : α0 → α1 → α2 → α3 → α4 → α5 → List (Nat × SV)} {J : α0 → α1 → α2 → α3 → α4 → α5 → Prop} {N : α0 → α1 → α2 → α3 → α4 → α5 → List (List FE)} {μ : α0 → α1 → α2 → α3 → α4 → α5 → Nat} (k9 : Nat) (is : List Nat) (a0 : α0) (a1 : α1) (a2 : α2) (a3 : α3) (a4 : α4) (a5 : α5) (io : List Nat) (pre : Run k9 is (den P n Q w ⟨.q .normal, .nm (LE6 L KS J N KN w0 R μ m) :: K, τ⟩) p := by exact Go.Px.p9) (hM : Mem w0 w R M := by assumption) (hm : μ a0 a1 a2 a3 a4 a5 < m := by (try dsimp only); omega) (hL : Has (Sg τ) (vals (L a0 a1 a2 a3 a4 a5)) := by (repeat (first | exact True.intro | refine And.intro (by first | exact rfl | exact Go.Px.I_congr (by first | omega | (simp; omega) | simp) | exact Go.Px.sl_congr (by first | omega | (simp; done) | (simp; omega) | exact congrArg List.length (by assumption))) ?_))) (hK : KS.map (fun p => τ p.1) = KS.map (·.2) := by exact rfl) (hp : Pk M io (N a0 a1 a2 a3 a4 a5 ++ KN) := by (repeat (first | exact Go.Px.Pk.nil | (apply Go.Px.Pk.cons; exact rfl)))) (hn : io.Nodup := by decide) (h : J a0 a1 a2 a3 a4 a5) : p := pre (show LE6 L KS J N KN w0 R μ m (Sg τ) w from ⟨(a0, a1, a2, a3, a4, a5), hm, has_app hL (same_has hK), h, hp.mem hn hM⟩)
theorem ct6 {α0 α1 α2 α3 α4 α5 : Type}  (k9 : Nat) (is : List Nat) (L : α0 → α1 → α2 → α3 → α4 → α5 → List (Nat × SV)) (J : α0 → α1 → α2 → α3 → α4 → α5 → Prop) (N : α0 → α1 → α2 → α3 → α4 → α5 → List (List FE)) (ks ik : List Nat) (h1 : den P n Q w ⟨.c cx, .nm (CE6 L KS J N KN w0 R) :: K, τ⟩) (h2 : ∀ (a0 : α0) (a1 : α1) (a2 : α2) (a3 : α3) (a4 : α4) (a5 : α5) (τ' : Fm) (w' : World), J a0 a1 a2 a3 a4 a5 → Mem w0 w' R (N a0 a1 a2 a3 a4 a5 ++ KN) → den P n Q w' ⟨.c cy, K, upl τ' (L a0 a1 a2 a3 a4 a5 ++ KS)⟩) (pre : Run k9 is (den P n Q w ⟨.c (.seq cx cy), K, τ⟩) p := by exact Go.Px.p9) (hM : Mem w0 w R M := by assumption) (hk : keep τ ks = some KS := by exact rfl) (hr : Pk M ik KN := by (repeat (first | exact Go.Px.Pk.nil | (apply Go.Px.Pk.cons; exact rfl)))) : p := pre (C.cut (ι := α0 × α1 × α2 × α3 × α4 × α5) (fun x => vals (L x.1 x.2.1 x.2.2.1 x.2.2.2.1 x.2.2.2.2.1 x.2.2.2.2.2 ++ KS)) (fun x w => J x.1 x.2.1 x.2.2.1 x.2.2.2.1 x.2.2.2.2.1 x.2.2.2.2.2 ∧ Mem w0 w R (N x.1 x.2.1 x.2.2.1 x.2.2.2.1 x.2.2.2.2.1 x.2.2.2.2.2 ++ KN)) (C.mono h1 fun e σ w hh => by cases e <;> first | exact hh.h | exact hh) (fun x σ' w' hI => by have h9 := h2 x.1 x.2.1 x.2.2.1 x.2.2.2.1 x.2.2.2.2.1 x.2.2.2.2.2 (lf σ') w' hI.1 hI.2; simp only [den, Sg_upl, Sg_lf] at h9; exact h9))
theorem ce6 {α0 α1 α2 α3 α4 α5 : Type} {L : α0 → α1 → α2 → α3 → α4 → α5 → List (Nat × SV)} {J : α0 → α1 → α2 → α3 → α4 → α5 → Prop} {N : α0 → α1 → α2 → α3 → α4 → α5 → List (List FE)} (k9 : Nat) (is : List Nat) (a0 : α0) (a1 : α1) (a2 : α2) (a3 : α3) (a4 : α4) (a5 : α5) (io : List Nat) (pre : Run k9 is (den P n Q w ⟨.q .normal, .nm (CE6 L KS J N KN w0 R) :: K, τ⟩) p := by exact Go.Px.p9) (hM : Mem w0 w R M := by assumption) (hL : Has (Sg τ) (vals (L a0 a1 a2 a3 a4 a5)) := by (repeat (first | exact True.intro | refine And.intro (by first | exact rfl | exact Go.Px.I_congr (by first | omega | (simp; omega) | simp) | exact Go.Px.sl_congr (by first | omega | (simp; done) | (simp; omega) | exact congrArg List.length (by assumption))) ?_))) (hK : KS.map (fun p => τ p.1) = KS.map (·.2) := by exact rfl) (hp : Pk M io (N a0 a1 a2 a3 a4 a5 ++ KN) := by (repeat (first | exact Go.Px.Pk.nil | (apply Go.Px.Pk.cons; exact rfl)))) (hn : io.Nodup := by decide) (h : J a0 a1 a2 a3 a4 a5) : p := pre (show CE6 L KS J N KN w0 R (Sg τ) w from ⟨(a0, a1, a2, a3, a4, a5), has_app hL (same_has hK), h, hp.mem hn hM⟩)
structure LE7 {α0 α1 α2 α3 α4 α5 α6 : Type} (L : α0 → α1 → α2 → α3 → α4 → α5 → α6 → List (Nat × SV)) (KS : List (Nat × SV)) (J : α0 → α1 → α2 → α3 → α4 → α5 → α6 → Prop) (N : α0 → α1 → α2 → α3 → α4 → α5 → α6 → List (List FE)) (KN : List (List FE)) (w0 : World) (R : List (Option Nat)) (μ : α0 → α1 → α2 → α3 → α4 → α5 → α6 → Nat) (m : Nat) (σ : Sig) (w : World) : Prop where h : ∃ x : α0 × α1 × α2 × α3 × α4 × α5 × α6, μ x.1 x.2.1 x.2.2.1 x.2.2.2.1 x.2.2.2.2.1 x.2.2.2.2.2.1 x.2.2.2.2.2.2 < m ∧ Has σ (vals (L x.1 x.2.1 x.2.2.1 x.2.2.2.1 x.2.2.2.2.1 x.2.2.2.2.2.1 x.2.2.2.2.2.2 ++ KS)) ∧ (fun x w => J x.1 x.2.1 x.2.2.1 x.2.2.2.1 x.2.2.2.2.1 x.2.2.2.2.2.1 x.2.2.2.2.2.2 ∧ Mem w0 w R (N x.1 x.2.1 x.2.2.1 x.2.2.2.1 x.2.2.2.2.1 x.2.2.2.2.2.1 x.2.2.2.2.2.2 ++ KN)) x w
structure CE7 {α0 α1 α2 α3 α4 α5 α6 : Type} (L : α0 → α1 → α2 → α3 → α4 → α5 → α6 → List (Nat × SV)) (KS : List (Nat × SV)) (J : α0 → α1 → α2 → α3 → α4 → α5 → α6 → Prop) (N : α0 → α1 → α2 → α3 → α4 → α5 → α6 → List (List FE)) (KN : List (List FE)) (w0 : World) (R : List (Option Nat)) (σ : Sig) (w : World) : Prop where h : ∃ x : α0 × α1 × α2 × α3 × α4 × α5 × α6, Has σ (vals (L x.1 x.2.1 x.2.2.1 x.2.2.2.1 x.2.2.2.2.1 x.2.2.2.2.2.1 x.2.2.2.2.2.2 ++ KS)) ∧ (fun x w => J x.1 x.2.1 x.2.2.1 x.2.2.2.1 x.2.2.2.2.1 x.2.2.2.2.2.1 x.2.2.2.2.2.2 ∧ Mem w0 w R (N x.1 x.2.1 x.2.2.1 x.2.2.2.1 x.2.2.2.2.1 x.2.2.2.2.2.1 x.2.2.2.2.2.2 ++ KN)) x w
theorem lp7 {α0 α1 α2 α3 α4 α5 α6 : Type}  (k9 : Nat) (is : List Nat) (L : α0 → α1 → α2 → α3 → α4 → α5 → α6 → List (Nat × SV)) (J : α0 → α1 → α2 → α3 → α4 → α5 → α6 → Prop) (N : α0 → α1 → α2 → α3 → α4 → α5 → α6 → List (List FE)) (μ : α0 → α1 → α2 → α3 → α4 → α5 → α6 → Nat) (ks io ik : List Nat) (a0 : α0) (a1 : α1) (a2 : α2) (a3 : α3) (a4 : α4) (a5 : α5) (a6 : α6) (h : ∀ (a0 : α0) (a1 : α1) (a2 : α2) (a3 : α3) (a4 : α4) (a5 : α5) (a6 : α6) (τ' : Fm) (w' : World), J a0 a1 a2 a3 a4 a5 a6 → Mem w0 w' R (N a0 a1 a2 a3 a4 a5 a6 ++ KN) → den P n Q w' ⟨.c c, .nm (LE7 L KS J N KN w0 R μ (μ a0 a1 a2 a3 a4 a5 a6)) :: K, upl τ' (L a0 a1 a2 a3 a4 a5 a6 ++ KS)⟩) (pre : Run k9 is (den P n Q w ⟨.c (.loop c), K, τ⟩) p := by exact Go.Px.p9) (hM : Mem w0 w R M := by assumption) (hk : keep τ ks = some KS := by exact rfl) (hr : Pk M ik KN := by (repeat (first | exact Go.Px.Pk.nil | (apply Go.Px.Pk.cons; exact rfl)))) (hN : Pk M io (N a0 a1 a2 a3 a4 a5 a6) := by (repeat (first | exact Go.Px.Pk.nil | (apply Go.Px.Pk.cons; exact rfl)))) (hn : (io ++ ik).Nodup := by decide) (hL : Has (Sg τ) (vals (L a0 a1 a2 a3 a4 a5 a6)) := by (repeat (first | exact True.intro | refine And.intro (by first | exact rfl | exact Go.Px.I_congr (by first | omega | (simp; omega) | simp) | exact Go.Px.sl_congr (by first | omega | (simp; done) | (simp; omega) | exact congrArg List.length (by assumption))) ?_))) (h0 : J a0 a1 a2 a3 a4 a5 a6) : p := pre (C.loop (ι := α0 × α1 × α2 × α3 × α4 × α5 × α6) (fun x => vals (L x.1 x.2.1 x.2.2.1 x.2.2.2.1 x.2.2.2.2.1 x.2.2.2.2.2.1 x.2.2.2.2.2.2 ++ KS)) (fun x w => J x.1 x.2.1 x.2.2.1 x.2.2.2.1 x.2.2.2.2.1 x.2.2.2.2.2.1 x.2.2.2.2.2.2 ∧ Mem w0 w R (N x.1 x.2.1 x.2.2.1 x.2.2.2.1 x.2.2.2.2.1 x.2.2.2.2.2.1 x.2.2.2.2.2.2 ++ KN)) (fun x => μ x.1 x.2.1 x.2.2.1 x.2.2.2.1 x.2.2.2.2.1 x.2.2.2.2.2.1 x.2.2.2.2.2.2) (a0, a1, a2, a3, a4, a5, a6) (has_app hL (keep_has hk)) ⟨h0, (hN.app hr).mem hn hM⟩ (fun x σ' w' hI => by have h9 := h x.1 x.2.1 x.2.2.1 x.2.2.2.1 x.2.2.2.2.1 x.2.2.2.2.2.1 x.2.2.2.2.2.2 (lf σ') w' hI.1 hI.2; simp only [den, Sg_upl, Sg_lf] at h9; exact C.mono h9 fun e σ w hh => by cases e <;> first | exact hh.h | exact hh))
theorem le7 {α0 α1 α2 α3 α4 α5 α6 : Type} {L : α0 → α1 → α2 → α3 → α4 → α5 → α6 → List (Nat × SV)} {J : α0 → α1 → α2 → α3 → α4 → α5 → α6 → Prop} {N : α0 → α1 → α2 → α3 → α4 → α5 → α6 → List (List FE)} {μ : α0 → α1 → α2 → α3 → α4 → α5 → α6 → Nat} (k9 : Nat) (is : List Nat) (a0 : α0) (a1 : α1) (a2 : α2) (a3 : α3) (a4 : α4) (a5 : α5) (a6 : α6) (io : List Nat) (pre : Run k9 is (den P n Q w ⟨.q .normal, .nm (LE7 L KS J N KN w0 R μ m) :: K, τ⟩) p := by exact Go.Px.p9) (hM : Mem w0 w R M := by assumption) (hm : μ a0 a1 a2 a3 a4 a5 a6 < m := by (try dsimp only); omega) (hL : Has (Sg τ) (vals (L a0 a1 a2 a3 a4 a5 a6)) := by (repeat (first | exact True.intro | refine And.intro (by first | exact rfl | exact Go.Px.I_congr (by first | omega | (simp; omega) | simp) | exact Go.Px.sl_congr (by first | omega | (simp; done) | (simp; omega) | exact congrArg List.length (by assumption))) ?_))) (hK : KS.map (fun p => τ p.1) = KS.map (·.2) := by exact rfl) (hp : Pk M io (N a0 a1 a2 a3 a4 a5 a6 ++ KN) := by (repeat (first | exact Go.Px.Pk.nil | (apply Go.Px.Pk.cons; exact rfl)))) (hn : io.Nodup := by decide) (h : J a0 a1 a2 a3 a4 a5 a6) : p := pre (show LE7 L KS J N KN w0 R μ m (Sg τ) w from ⟨(a0, a1, a2, a3, a4, a5, a6), hm, has_app hL (same_has hK), h, hp.mem hn hM⟩)
theorem ct7 {α0 α1 α2 α3 α4 α5 α6 : Type}  (k9 : Nat) (is : List Nat) (L : α0 → α1 → α2 → α3 → α4 → α5 → α6 → List (Nat × SV)) (J : α0 → α1 → α2 → α3 → α4 → α5 → α6 → Prop) (N : α0 → α1 → α2 → α3 → α4 → α5 → α6 → List (List FE)) (ks ik : List Nat) (h1 : den P n Q w ⟨.c cx, .nm (CE7 L KS J N KN w0 R) :: K, τ⟩) (h2 : ∀ (a0 : α0) (a1 : α1) (a2 : α2) (a3 : α3) (a4 : α4) (a5 : α5) (a6 : α6) (τ' : Fm) (w' : World), J a0 a1 a2 a3 a4 a5 a6 → Mem w0 w' R (N a0 a1 a2 a3 a4 a5 a6 ++ KN) → den P n Q w' ⟨.c cy, K, upl τ' (L a0 a1 a2 a3 a4 a5 a6 ++ KS)⟩) (pre : Run k9 is (den P n Q w ⟨.c (.seq cx cy), K, τ⟩) p := by exact Go.Px.p9) (hM : Mem w0 w R M := by assumption) (hk : keep τ ks = some KS := by exact rfl) (hr : Pk M ik KN := by (repeat (first | exact Go.Px.Pk.nil | (apply Go.Px.Pk.cons; exact rfl)))) : p := pre (C.cut (ι := α0 × α1 × α2 × α3 × α4 × α5 × α6) (fun x => vals (L x.1 x.2.1 x.2.2.1 x.2.2.2.1 x.2.2.2.2.1 x.2.2.2.2.2.1 x.2.2.2.2.2.2 ++ KS)) (fun x w => J x.1 x.2.1 x.2.2.1 x.2.2.2.1 x.2.2.2.2.1 x.2.2.2.2.2.1 x.2.2.2.2.2.2 ∧ Mem w0 w R (N x.1 x.2.1 x.2.2.1 x.2.2.2.1 x.2.2.2.2.1 x.2.2.2.2.2.1 x.2.2.2.2.2.2 ++ KN)) (C.mono h1 fun e σ w hh => by cases e <;> first | exact hh.h | exact hh) (fun x σ' w' hI => by have h9 := h2 x.1 x.2.1 x.2.2.1 x.2.2.2.1 x.2.2.2.2.1 x.2.2.2.2.2.1 x.2.2.2.2.2.2 (lf σ') w' hI.1 hI.2; simp only [den, Sg_upl, Sg_lf] at h9; exact h9))
theorem ce7 {α0 α1 α2 α3 α4 α5 α6 : Type} {L : α0 → α1 → α2 → α3 → α4 → α5 → α6 → List (Nat × SV)} {J : α0 → α1 → α2 → α3 → α4 → α5 → α6 → Prop} {N : α0 → α1 → α2 → α3 → α4 → α5 → α6 → List (List FE)} (k9 : Nat) (is : List Nat) (a0 : α0) (a1 : α1) (a2 : α2) (a3 : α3) (a4 : α4) (a5 : α5) (a6 : α6) (io : List Nat) (pre : Run k9 is (den P n Q w ⟨.q .normal, .nm (CE7 L KS J N KN w0 R) :: K, τ⟩) p := by exact Go.Px.p9) (hM : Mem w0 w R M := by assumption) (hL : Has (Sg τ) (vals (L a0 a1 a2 a3 a4 a5 a6)) := by (repeat (first | exact True.intro | refine And.intro (by first | exact rfl | exact Go.Px.I_congr (by first | omega | (simp; omega) | simp) | exact Go.Px.sl_congr (by first | omega | (simp; done) | (simp; omega) | exact congrArg List.length (by assumption))) ?_))) (hK : KS.map (fun p => τ p.1) = KS.map (·.2) := by exact rfl) (hp : Pk M io (N a0 a1 a2 a3 a4 a5 a6 ++ KN) := by (repeat (first | exact Go.Px.Pk.nil | (apply Go.Px.Pk.cons; exact rfl)))) (hn : io.Nodup := by decide) (h : J a0 a1 a2 a3 a4 a5 a6) : p := pre (show CE7 L KS J N KN w0 R (Sg τ) w from ⟨(a0, a1, a2, a3, a4, a5, a6), has_app hL (same_has hK), h, hp.mem hn hM⟩)
structure LE8 {α0 α1 α2 α3 α4 α5 α6 α7 : Type} (L : α0 → α1 → α2 → α3 → α4 → α5 → α6 → α7 → List (Nat × SV)) (KS : List (Nat × SV)) (J : α0 → α1 → α2 → α3 → α4 → α5 → α6 → α7 → Prop) (N : α0 → α1 → α2 → α3 → α4 → α5 → α6 → α7 → List (List FE)) (KN : List (List FE)) (w0 : World) (R : List (Option Nat)) (μ : α0 → α1 → α2 → α3 → α4 → α5 → α6 → α7 → Nat) (m : Nat) (σ : Sig) (w : World) : Prop where h : ∃ x : α0 × α1 × α2 × α3 × α4 × α5 × α6 × α7, μ x.1 x.2.1 x.2.2.1 x.2.2.2.1 x.2.2.2.2.1 x.2.2.2.2.2.1 x.2.2.2.2.2.2.1 x.2.2.2.2.2.2.2 < m ∧ Has σ (vals (L x.1 x.2.1 x.2.2.1 x.2.2.2.1 x.2.2.2.2.1 x.2.2.2.2.2.1 x.2.2.2.2.2.2.1 x.2.2.2.2.2.2.2 ++ KS)) ∧ (fun x w => J x.1 x.2.1 x.2.2.1 x.2.2.2.1 x.2.2.2.2.1 x.2.2.2.2.2.1 x.2.2.2.2.2.2.1 x.2.2.2.2.2.2.2 ∧ Mem w0 w R (N x.1 x.2.1 x.2.2.1 x.2.2.2.1 x.2.2.2.2.1 x.2.2.2.2.2.1 x.2.2.2.2.2.2.1 x.2.2.2.2.2.2.2 ++ KN)) x w
theorem lp8 {α0 α1 α2 α3 α4 α5 α6 α7 : Type}  (k9 : Nat) (is : List Nat) (L : α0 → α1 → α2 → α3 → α4 → α5 → α6 → α7 → List (Nat × SV)) (J : α0 → α1 → α2 → α3 → α4 → α5 → α6 → α7 → Prop) (N : α0 → α1 → α2 → α3 → α4 → α5 → α6 → α7 → List (List FE)) (μ : α0 → α1 → α2 → α3 → α4 → α5 → α6 → α7 → Nat) (ks io ik : List Nat) (a0 : α0) (a1 : α1) (a2 : α2) (a3 : α3) (a4 : α4) (a5 : α5) (a6 : α6) (a7 : α7) (h : ∀ (a0 : α0) (a1 : α1) (a2 : α2) (a3 : α3) (a4 : α4) (a5 : α5) (a6 : α6) (a7 : α7) (τ' : Fm) (w' : World), J a0 a1 a2 a3 a4 a5 a6 a7 → Mem w0 w' R (N a0 a1 a2 a3 a4 a5 a6 a7 ++ KN) → den P n Q w' ⟨.c c, .nm (LE8 L KS J N KN w0 R μ (μ a0 a1 a2 a3 a4 a5 a6 a7)) :: K, upl τ' (L a0 a1 a2 a3 a4 a5 a6 a7 ++ KS)⟩) (pre : Run k9 is (den P n Q w ⟨.c (.loop c), K, τ⟩) p := by exact Go.Px.p9) (hM : Mem w0 w R M := by assumption) (hk : keep τ ks = some KS := by exact rfl) (hr : Pk M ik KN := by (repeat (first | exact Go.Px.Pk.nil | (apply Go.Px.Pk.cons; exact rfl)))) (hN : Pk M io (N a0 a1 a2 a3 a4 a5 a6 a7) := by (repeat (first | exact Go.Px.Pk.nil | (apply Go.Px.Pk.cons; exact rfl)))) (hn : (io ++ ik).Nodup := by decide) (hL : Has (Sg τ) (vals (L a0 a1 a2 a3 a4 a5 a6 a7)) := by (repeat (first | exact True.intro | refine And.intro (by first | exact rfl | exact Go.Px.I_congr (by first | omega | (simp; omega) | simp) | exact Go.Px.sl_congr (by first | omega | (simp; done) | (simp; omega) | exact congrArg List.length (by assumption))) ?_))) (h0 : J a0 a1 a2 a3 a4 a5 a6 a7) : p := pre (C.loop (ι := α0 × α1 × α2 × α3 × α4 × α5 × α6 × α7) (fun x => vals (L x.1 x.2.1 x.2.2.1 x.2.2.2.1 x.2.2.2.2.1 x.2.2.2.2.2.1 x.2.2.2.2.2.2.1 x.2.2.2.2.2.2.2 ++ KS)) (fun x w => J x.1 x.2.1 x.2.2.1 x.2.2.2.1 x.2.2.2.2.1 x.2.2.2.2.2.1 x.2.2.2.2.2.2.1 x.2.2.2.2.2.2.2 ∧ Mem w0 w R (N x.1 x.2.1 x.2.2.1 x.2.2.2.1 x.2.2.2.2.1 x.2.2.2.2.2.1 x.2.2.2.2.2.2.1 x.2.2.2.2.2.2.2 ++ KN)) (fun x => μ x.1 x.2.1 x.2.2.1 x.2.2.2.1 x.2.2.2.2.1 x.2.2.2.2.2.1 x.2.2.2.2.2.2.1 x.2.2.2.2.2.2.2) (a0, a1, a2, a3, a4, a5, a6, a7) (has_app hL (keep_has hk)) ⟨h0, (hN.app hr).mem hn hM⟩ (fun x σ' w' hI => by have h9 := h x.1 x.2.1 x.2.2.1 x.2.2.2.1 x.2.2.2.2.1 x.2.2.2.2.2.1 x.2.2.2.2.2.2.1 x.2.2.2.2.2.2.2 (lf σ') w' hI.1 hI.2; simp only [den, Sg_upl, Sg_lf] at h9; exact C.mono h9 fun e σ w hh => by cases e <;> first | exact hh.h | exact hh))
theorem le8 {α0 α1 α2 α3 α4 α5 α6 α7 : Type} {L : α0 → α1 → α2 → α3 → α4 → α5 → α6 → α7 → List (Nat × SV)} {J : α0 → α1 → α2 → α3 → α4 → α5 → α6 → α7 → Prop} {N : α0 → α1 → α2 → α3 → α4 → α5 → α6 → α7 → List (List FE)} {μ : α0 → α1 → α2 → α3 → α4 → α5 → α6 → α7 → Nat} (k9 : Nat) (is : List Nat) (a0 : α0) (a1 : α1) (a2 : α2) (a3 : α3) (a4 : α4) (a5 : α5) (a6 : α6) (a7 : α7) (io : List Nat) (pre : Run k9 is (den P n Q w ⟨.q .normal, .nm (LE8 L KS J N KN w0 R μ m) :: K, τ⟩) p := by exact Go.Px.p9) (hM : Mem w0 w R M := by assumption) (hm : μ a0 a1 a2 a3 a4 a5 a6 a7 < m := by (try dsimp only); omega) (hL : Has (Sg τ) (vals (L a0 a1 a2 a3 a4 a5 a6 a7)) := by (repeat (first | exact True.intro | refine And.intro (by first | exact rfl | exact Go.Px.I_congr (by first | omega | (simp; omega) | simp) | exact Go.Px.sl_congr (by first | omega | (simp; done) | (simp; omega) | exact congrArg List.length (by assumption))) ?_))) (hK : KS.map (fun p => τ p.1) = KS.map (·.2) := by exact rfl) (hp : Pk M io (N a0 a1 a2 a3 a4 a5 a6 a7 ++ KN) := by (repeat (first | exact Go.Px.Pk.nil | (apply Go.Px.Pk.cons; exact rfl)))) (hn : io.Nodup := by decide) (h : J a0 a1 a2 a3 a4 a5 a6 a7) : p := pre (show LE8 L KS J N KN w0 R μ m (Sg τ) w from ⟨(a0, a1, a2, a3, a4, a5, a6, a7), hm, has_app hL (same_has hK), h, hp.mem hn hM⟩)
structure CE10 {α0 α1 α2 α3 α4 α5 α6 α7 α8 α9 : Type} (L : α0 → α1 → α2 → α3 → α4 → α5 → α6 → α7 → α8 → α9 → List (Nat × SV)) (KS : List (Nat × SV)) (J : α0 → α1 → α2 → α3 → α4 → α5 → α6 → α7 → α8 → α9 → Prop) (N : α0 → α1 → α2 → α3 → α4 → α5 → α6 → α7 → α8 → α9 → List (List FE)) (KN : List (List FE)) (w0 : World) (R : List (Option Nat)) (σ : Sig) (w : World) : Prop where h : ∃ x : α0 × α1 × α2 × α3 × α4 × α5 × α6 × α7 × α8 × α9, Has σ (vals (L x.1 x.2.1 x.2.2.1 x.2.2.2.1 x.2.2.2.2.1 x.2.2.2.2.2.1 x.2.2.2.2.2.2.1 x.2.2.2.2.2.2.2.1 x.2.2.2.2.2.2.2.2.1 x.2.2.2.2.2.2.2.2.2 ++ KS)) ∧ (fun x w => J x.1 x.2.1 x.2.2.1 x.2.2.2.1 x.2.2.2.2.1 x.2.2.2.2.2.1 x.2.2.2.2.2.2.1 x.2.2.2.2.2.2.2.1 x.2.2.2.2.2.2.2.2.1 x.2.2.2.2.2.2.2.2.2 ∧ Mem w0 w R (N x.1 x.2.1 x.2.2.1 x.2.2.2.1 x.2.2.2.2.1 x.2.2.2.2.2.1 x.2.2.2.2.2.2.1 x.2.2.2.2.2.2.2.1 x.2.2.2.2.2.2.2.2.1 x.2.2.2.2.2.2.2.2.2 ++ KN)) x w
theorem ct10 {α0 α1 α2 α3 α4 α5 α6 α7 α8 α9 : Type}  (k9 : Nat) (is : List Nat) (L : α0 → α1 → α2 → α3 → α4 → α5 → α6 → α7 → α8 → α9 → List (Nat × SV)) (J : α0 → α1 → α2 → α3 → α4 → α5 → α6 → α7 → α8 → α9 → Prop) (N : α0 → α1 → α2 → α3 → α4 → α5 → α6 → α7 → α8 → α9 → List (List FE)) (ks ik : List Nat) (h1 : den P n Q w ⟨.c cx, .nm (CE10 L KS J N KN w0 R) :: K, τ⟩) (h2 : ∀ (a0 : α0) (a1 : α1) (a2 : α2) (a3 : α3) (a4 : α4) (a5 : α5) (a6 : α6) (a7 : α7) (a8 : α8) (a9 : α9) (τ' : Fm) (w' : World), J a0 a1 a2 a3 a4 a5 a6 a7 a8 a9 → Mem w0 w' R (N a0 a1 a2 a3 a4 a5 a6 a7 a8 a9 ++ KN) → den P n Q w' ⟨.c cy, K, upl τ' (L a0 a1 a2 a3 a4 a5 a6 a7 a8 a9 ++ KS)⟩) (pre : Run k9 is (den P n Q w ⟨.c (.seq cx cy), K, τ⟩) p := by exact Go.Px.p9) (hM : Mem w0 w R M := by assumption) (hk : keep τ ks = some KS := by exact rfl) (hr : Pk M ik KN := by (repeat (first | exact Go.Px.Pk.nil | (apply Go.Px.Pk.cons; exact rfl)))) : p := pre (C.cut (ι := α0 × α1 × α2 × α3 × α4 × α5 × α6 × α7 × α8 × α9) (fun x => vals (L x.1 x.2.1 x.2.2.1 x.2.2.2.1 x.2.2.2.2.1 x.2.2.2.2.2.1 x.2.2.2.2.2.2.1 x.2.2.2.2.2.2.2.1 x.2.2.2.2.2.2.2.2.1 x.2.2.2.2.2.2.2.2.2 ++ KS)) (fun x w => J x.1 x.2.1 x.2.2.1 x.2.2.2.1 x.2.2.2.2.1 x.2.2.2.2.2.1 x.2.2.2.2.2.2.1 x.2.2.2.2.2.2.2.1 x.2.2.2.2.2.2.2.2.1 x.2.2.2.2.2.2.2.2.2 ∧ Mem w0 w R (N x.1 x.2.1 x.2.2.1 x.2.2.2.1 x.2.2.2.2.1 x.2.2.2.2.2.1 x.2.2.2.2.2.2.1 x.2.2.2.2.2.2.2.1 x.2.2.2.2.2.2.2.2.1 x.2.2.2.2.2.2.2.2.2 ++ KN)) (C.mono h1 fun e σ w hh => by cases e <;> first | exact hh.h | exact hh) (fun x σ' w' hI => by have h9 := h2 x.1 x.2.1 x.2.2.1 x.2.2.2.1 x.2.2.2.2.1 x.2.2.2.2.2.1 x.2.2.2.2.2.2.1 x.2.2.2.2.2.2.2.1 x.2.2.2.2.2.2.2.2.1 x.2.2.2.2.2.2.2.2.2 (lf σ') w' hI.1 hI.2; simp only [den, Sg_upl, Sg_lf] at h9; exact h9))
theorem ce10 {α0 α1 α2 α3 α4 α5 α6 α7 α8 α9 : Type} {L : α0 → α1 → α2 → α3 → α4 → α5 → α6 → α7 → α8 → α9 → List (Nat × SV)} {J : α0 → α1 → α2 → α3 → α4 → α5 → α6 → α7 → α8 → α9 → Prop} {N : α0 → α1 → α2 → α3 → α4 → α5 → α6 → α7 → α8 → α9 → List (List FE)} (k9 : Nat) (is : List Nat) (a0 : α0) (a1 : α1) (a2 : α2) (a3 : α3) (a4 : α4) (a5 : α5) (a6 : α6) (a7 : α7) (a8 : α8) (a9 : α9) (io : List Nat) (pre : Run k9 is (den P n Q w ⟨.q .normal, .nm (CE10 L KS J N KN w0 R) :: K, τ⟩) p := by exact Go.Px.p9) (hM : Mem w0 w R M := by assumption) (hL : Has (Sg τ) (vals (L a0 a1 a2 a3 a4 a5 a6 a7 a8 a9)) := by (repeat (first | exact True.intro | refine And.intro (by first | exact rfl | exact Go.Px.I_congr (by first | omega | (simp; omega) | simp) | exact Go.Px.sl_congr (by first | omega | (simp; done) | (simp; omega) | exact congrArg List.length (by assumption))) ?_))) (hK : KS.map (fun p => τ p.1) = KS.map (·.2) := by exact rfl) (hp : Pk M io (N a0 a1 a2 a3 a4 a5 a6 a7 a8 a9 ++ KN) := by (repeat (first | exact Go.Px.Pk.nil | (apply Go.Px.Pk.cons; exact rfl)))) (hn : io.Nodup := by decide) (h : J a0 a1 a2 a3 a4 a5 a6 a7 a8 a9) : p := pre (show CE10 L KS J N KN w0 R (Sg τ) w from ⟨(a0, a1, a2, a3, a4, a5, a6, a7, a8, a9), has_app hL (same_has hK), h, hp.mem hn hM⟩)
theorem jn10 {α0 α1 α2 α3 α4 α5 α6 α7 α8 α9 : Type} {S : World → Prop} {f : Nat} {ls : List Bool} (ix is : List Nat) (L : α0 → α1 → α2 → α3 → α4 → α5 → α6 → α7 → α8 → α9 → List (Nat × SV)) (N : α0 → α1 → α2 → α3 → α4 → α5 → α6 → α7 → α8 → α9 → List (List FE)) (ks ik : List Nat) (fJ : Nat) (lsJ : List Bool) (h1 : (∀ (a0 : α0) (a1 : α1) (a2 : α2) (a3 : α3) (a4 : α4) (a5 : α5) (a6 : α6) (a7 : α7) (a8 : α8) (a9 : α9) (τ' : Fm) (w' : World), Mem w0 w' R (N a0 a1 a2 a3 a4 a5 a6 a7 a8 a9 ++ KN) → den P n Q w' ⟨.a S ops fJ lsJ, K, upl τ' (L a0 a1 a2 a3 a4 a5 a6 a7 a8 a9 ++ KS)⟩) → den P n Q w ⟨.a S ops f ls, K, τ⟩) (h2 : ∀ (a0 : α0) (a1 : α1) (a2 : α2) (a3 : α3) (a4 : α4) (a5 : α5) (a6 : α6) (a7 : α7) (a8 : α8) (a9 : α9) (τ' : Fm) (w' : World), Mem w0 w' R (N a0 a1 a2 a3 a4 a5 a6 a7 a8 a9 ++ KN) → den P n Q w' ⟨.a S ops fJ lsJ, K, upl τ' (L a0 a1 a2 a3 a4 a5 a6 a7 a8 a9 ++ KS)⟩) (pre : RunA ix is (den P n Q w ⟨.a S ops f ls, K, τ⟩) p := by exact Go.Px.q9) (hM : Mem w0 w R M := by assumption) (hk : keep τ ks = some KS := by exact rfl) (hr : Pk M ik KN := by (repeat (first | exact Go.Px.Pk.nil | (apply Go.Px.Pk.cons; exact rfl)))) : p := pre (h1 h2)
theorem jd10 {α0 α1 α2 α3 α4 α5 α6 α7 α8 α9 : Type} {S : World → Prop} {fJ : Nat} {lsJ : List Bool} {L : α0 → α1 → α2 → α3 → α4 → α5 → α6 → α7 → α8 → α9 → List (Nat × SV)} {N : α0 → α1 → α2 → α3 → α4 → α5 → α6 → α7 → α8 → α9 → List (List FE)} (ix is : List Nat) (J : ∀ (a0 : α0) (a1 : α1) (a2 : α2) (a3 : α3) (a4 : α4) (a5 : α5) (a6 : α6) (a7 : α7) (a8 : α8) (a9 : α9) (τ' : Fm) (w' : World), Mem w0 w' R (N a0 a1 a2 a3 a4 a5 a6 a7 a8 a9 ++ KN) → den P n Q w' ⟨.a S ops fJ lsJ, K, upl τ' (L a0 a1 a2 a3 a4 a5 a6 a7 a8 a9 ++ KS)⟩) (a0 : α0) (a1 : α1) (a2 : α2) (a3 : α3) (a4 : α4) (a5 : α5) (a6 : α6) (a7 : α7) (a8 : α8) (a9 : α9) (io : List Nat) (pre : RunA ix is (den P n Q w ⟨.a S ops fJ lsJ, K, τ⟩) p := by exact Go.Px.q9) (hM : Mem w0 w R M := by assumption) (hL : Has (Sg τ) (vals (L a0 a1 a2 a3 a4 a5 a6 a7 a8 a9)) := by (repeat (first | exact True.intro | refine And.intro (by first | exact rfl | exact Go.Px.I_congr (by first | omega | (simp; omega) | simp) | exact Go.Px.sl_congr (by first | omega | (simp; done) | (simp; omega) | exact congrArg List.length (by assumption))) ?_))) (hK : KS.map (fun p => τ p.1) = KS.map (·.2) := by exact rfl) (hp : Pk M io (N a0 a1 a2 a3 a4 a5 a6 a7 a8 a9 ++ KN) := by (repeat (first | exact Go.Px.Pk.nil | (apply Go.Px.Pk.cons; exact rfl)))) (hn : io.Nodup := by decide) : p := pre (by have h := J a0 a1 a2 a3 a4 a5 a6 a7 a8 a9 τ w (hp.mem hn hM); simp only [den, Sg_upl, ups_has (has_app hL (same_has hK))] at h; exact h)
end
end Go.Px
end
section
namespace Go.Px
open Go.RowKit
section
variable {w0 w : World} {R : List (Option Nat)} {M : List (List FE)} {l l' : List PgL} {e : TypeId}
theorem Mem.gperm (hp : l.Perm l') (h : Mem w0 w R (l.flatMap (pgF e) :: M)) : Mem w0 w R (l'.flatMap (pgF e) :: M) :=
  h.permg (by rw [List.flatten_cons, List.flatten_cons]; exact List.Perm.append_right _ (hp.flatMap_right _))
theorem Mem.gout {j : Nat} (hj : j < l.length) (h : Mem w0 w R (l.flatMap (pgF e) :: M)) : Mem w0 w R ((l.eraseIdx j).flatMap (pgF e) :: [slF e l[j].k] :: [slF e l[j].c] :: [slF e l[j].v] :: M) := by
  refine h.permg ?_
  have e1 : l.flatMap (pgF e) = (l.take j).flatMap (pgF e) ++ (pgF e l[j] ++ (l.drop (j + 1)).flatMap (pgF e)) := by
    conv => lhs; rw [split_mid hj]
    rw [List.flatMap_append, List.flatMap_cons]
  have e2 : (l.eraseIdx j).flatMap (pgF e) = (l.take j).flatMap (pgF e) ++ (l.drop (j + 1)).flatMap (pgF e) := by
    rw [List.eraseIdx_eq_take_drop_succ, List.flatMap_append]
  have e3 : ((l.eraseIdx j).flatMap (pgF e) :: [slF e l[j].k] :: [slF e l[j].c] :: [slF e l[j].v] :: M).flatten = (l.eraseIdx j).flatMap (pgF e) ++ (pgF e l[j] ++ M.flatten) := by simp [pgF]
  rw [e3, List.flatten_cons, e1, e2]
  generalize (l.take j).flatMap (pgF e) = a
  generalize (l.drop (j + 1)).flatMap (pgF e) = b
  generalize pgF e l[j] = q
  generalize M.flatten = m
  simp only [List.append_assoc]
  refine List.Perm.append_left a ?_
  rw [← List.append_assoc q b, ← List.append_assoc b q]
  exact List.Perm.append_right m List.perm_append_comm
theorem Mem.gback {j : Nat} (hj : j < l.length) {k c v : SlL} (h : Mem w0 w R ((l.eraseIdx j).flatMap (pgF e) :: [slF e k] :: [slF e c] :: [slF e v] :: M)) : Mem w0 w R ((l.set j (⟨k, c, v⟩ : PgL)).flatMap (pgF e) :: M) := by
  refine h.permg ?_
  have e1 : (l.set j (⟨k, c, v⟩ : PgL)).flatMap (pgF e) = (l.take j).flatMap (pgF e) ++ ([slF e k, slF e c, slF e v] ++ (l.drop (j + 1)).flatMap (pgF e)) := by
    rw [List.set_eq_take_append_cons_drop, if_pos hj, List.flatMap_append, List.flatMap_cons]; rfl
  have e2 : (l.eraseIdx j).flatMap (pgF e) = (l.take j).flatMap (pgF e) ++ (l.drop (j + 1)).flatMap (pgF e) := by
    rw [List.eraseIdx_eq_take_drop_succ, List.flatMap_append]
  have e3 : ((l.eraseIdx j).flatMap (pgF e) :: [slF e k] :: [slF e c] :: [slF e v] :: M).flatten = (l.eraseIdx j).flatMap (pgF e) ++ ([slF e k, slF e c, slF e v] ++ M.flatten) := by simp
  rw [e3, List.flatten_cons, e1, e2]
  generalize (l.take j).flatMap (pgF e) = a
  generalize (l.drop (j + 1)).flatMap (pgF e) = b
  generalize [slF e k, slF e c, slF e v] = q
  generalize M.flatten = m
  simp only [List.append_assoc]
  refine List.Perm.append_left a ?_
  rw [← List.append_assoc q b, ← List.append_assoc b q]
  exact List.Perm.append_right m List.perm_append_comm
theorem Mem.reE (h : Mem w0 w R M) (i : Nat) {xs xs' : List Value} (ex : xs = xs') {n n' : Nat} (hn : n = n') {A : Option Addr} {c sz : Nat} {t : TypeId} {N : List (List FE)} (hi : M[i]? = some [⟨.slice A n c, t, sz, n, xs⟩] := by exact rfl) (hN : Nf (M.set i [⟨.slice A n' c, t, sz, n', xs'⟩]) N := by exact Go.Px.n9) : Mem w0 w R N := h.reR i (by rw [ex, hn]) hi hN
end
def nbL (l : List Int) : List Int := (List.range 16).map fun (i : Nat) => if (i : Int) ∈ l then (l.idxOf (i : Int) : Int) else 0
theorem nb_len (l : List Int) : (nbL l).length = 16 := by simp [nbL]
theorem nb_nil : List.replicate 16 (0 : Int) = nbL [] := by decide
theorem nb_get {l : List Int} {x : Int} (hx : x ∈ l) (h : 0 ≤ x ∧ x < 16) (h2 : x.toNat < (nbL l).length) : (nbL l)[x.toNat] = plcI l x := by
  simp only [nbL, List.getElem_map, List.getElem_range]
  rw [show ((x.toNat : Nat) : Int) = x by omega]
  unfold plcI; rw [if_pos hx, if_pos hx]
theorem nb_set {l : List Int} (hn : l.Nodup) {k : Nat} (hk : k < l.length) (h : 0 ≤ l[k] ∧ l[k] < 16) : (nbL (l.take k)).set (l[k]).toNat ((k : Nat) : Int) = nbL (l.take (k + 1)) := by
  have hnk : l[k] ∉ l.take k := fun hm => by
    obtain ⟨j, hj, e⟩ := List.mem_take_iff_getElem.1 hm
    exact absurd e ((List.pairwise_iff_getElem.1 hn) j k (by omega) hk (by omega))
  apply List.ext_getElem
  · simp [nbL]
  intro i h1 h2
  have hi : i < 16 := by simpa [nbL] using h2
  rw [List.getElem_set]
  simp only [nbL, List.getElem_map, List.getElem_range]
  rw [take_snoc hk]
  by_cases he : (l[k]).toNat = i
  · have e2 : (i : Int) = l[k] := by omega
    rw [if_pos he, e2, if_pos (List.mem_append_right _ (List.mem_singleton.2 rfl)), List.idxOf_append, if_neg hnk, List.idxOf_cons_self, List.length_take]
    omega
  have e2 : (i : Int) ≠ l[k] := by omega
  rw [if_neg he]
  by_cases hm : (i : Int) ∈ l.take k
  · rw [if_pos hm, if_pos (List.mem_append_left _ hm), List.idxOf_append, if_pos hm]
  rw [if_neg hm, if_neg (fun h9 => by rcases List.mem_append.1 h9 with h9 | h9; exact hm h9; exact e2 (List.mem_singleton.1 h9))]
def doneP (f : Int → Int) (X : PgL) : PgL := ⟨X.k, ⟨X.c.A, X.c.cp, X.c.l.map f⟩, X.v⟩
structure RN (T : TrT) (Ch Q : List PgL) (k : Nat) : Prop where
  len : Ch.length = T.pages.length
  ql : Q.length = k
  qk : ∀ j, j < k → Q[j]? = Ch[((ordK T).getD j 0).toNat]?
  dn : ∀ j, j < k → gP ⟨0, tsG Ch⟩ ((ordK T).getD j 0) = relP (plcI (ordK T)) (gP T ((ordK T).getD j 0))
  td : ∀ j, k ≤ j → j < (ordK T).length → gP ⟨0, tsG Ch⟩ ((ordK T).getD j 0) = gP T ((ordK T).getD j 0)
section
variable {T : TrT} {Ch Q : List PgL} {k : Nat} {e : TypeId}
theorem RN.start {L : List PgL} {l : List PgL} (hT : T.pages = tsG l) (h : tsG L = tsG l) : RN T L [] 0 :=
  ⟨by rw [hT]; have := tsg_eq_len h; simp; exact this, rfl, fun j hj => absurd hj (by omega), fun j hj => absurd hj (by omega), fun j _ _ => by unfold gP; rw [hT, ← h]⟩
theorem RN.step (h : RN T Ch Q k) (hv : validT T = true) (hk : k < (ordK T).length) {x : Int} (hx : x = (ordK T)[k]) (hj : x.toNat < Ch.length) : RN T (Ch.set x.toNat (doneP (plcI (ordK T)) Ch[x.toNat])) (Q ++ [doneP (plcI (ordK T)) Ch[x.toNat]]) (k + 1) := by
  obtain ⟨_, hn, hl, hi, _⟩ := ord_yes hv
  have hxk : x = (ordK T).getD k 0 := by rw [hx, getD_in hk]
  have h0 : ∀ j, (hj : j < (ordK T).length) → 0 ≤ (ordK T).getD j 0 := fun j hj => by rw [getD_in hj]; exact (inT_iff.1 (hi _ (List.getElem_mem hj)).1).1
  have hne : ∀ j, (hj : j < (ordK T).length) → j ≠ k → ((ordK T).getD j 0).toNat ≠ x.toNat := fun j hj hjk e9 => by
    have a := h0 j hj
    have b := h0 k hk
    rw [hxk] at e9
    have e8 : (ordK T).getD j 0 = (ordK T).getD k 0 := by omega
    rw [getD_in hj, getD_in hk] at e8
    rcases Nat.lt_or_gt_of_ne hjk with h9 | h9
    · exact (List.pairwise_iff_getElem.1 hn) j k hj hk h9 e8
    exact (List.pairwise_iff_getElem.1 hn) k j hk hj h9 e8.symm
  have hg : ∀ j, (hj : j < (ordK T).length) → j ≠ k → gP ⟨0, tsG (Ch.set x.toNat (doneP (plcI (ordK T)) Ch[x.toNat]))⟩ ((ordK T).getD j 0) = gP ⟨0, tsG Ch⟩ ((ordK T).getD j 0) := fun j hj hjk => by
    unfold gP
    rw [tsg_set, List.getD_eq_getElem?_getD, List.getElem?_set_ne (fun e9 => hne j hj hjk e9.symm), ← List.getD_eq_getElem?_getD]
  refine ⟨by rw [List.length_set]; exact h.len, by rw [List.length_append, h.ql]; rfl, fun j hjk => ?_, fun j hjk => ?_, fun j h1 h2 => by rw [hg j h2 (by omega)]; exact h.td j (by omega) h2⟩
  · by_cases hjk2 : j = k
    · subst hjk2
      rw [List.getElem?_append_right (by rw [h.ql]; omega), h.ql, Nat.sub_self, ← hxk, List.getElem?_set_self hj]; rfl
    rw [List.getElem?_append_left (by rw [h.ql]; omega), h.qk j (by omega), List.getElem?_set_ne (fun e9 => hne j (by omega) hjk2 e9.symm)]
  by_cases hjk2 : j = k
  · subst hjk2
    rw [← hxk]
    have h2 := h.td j (Nat.le_refl _) hk
    rw [← hxk] at h2
    have h3 : gP ⟨0, tsG Ch⟩ x = (Ch[x.toNat]).t := gP_ch hj
    rw [h3] at h2
    rw [← h2, gP_ch (show x.toNat < (Ch.set x.toNat _).length by rw [List.length_set]; exact hj), List.getElem_set_self]
    rfl
  rw [hg j (by omega) hjk2]; exact h.dn j (by omega)
theorem RN.fin (h : RN T Ch Q k) (hv : validT T = true) (hk : k = (ordK T).length) : (⟨0, tsG Q⟩ : TrT) = renF T ∧ Ch.Perm Q := by
  obtain ⟨_, hn, hl, hi, _⟩ := ord_yes hv
  subst hk
  have hb : ∀ j, (hj : j < (ordK T).length) → ((ordK T).getD j 0).toNat < Ch.length := fun j hj => by
    rw [getD_in hj, h.len]; have := inT_iff.1 (hi _ (List.getElem_mem hj)).1; omega
  have hq : ∀ j, (hj : j < (ordK T).length) → ∃ h1 : j < Q.length, Q[j] = Ch[((ordK T).getD j 0).toNat]'(hb j hj) := fun j hj => by
    have h1 : j < Q.length := by rw [h.ql]; exact hj
    refine ⟨h1, ?_⟩
    have := h.qk j hj
    rw [List.getElem?_eq_getElem h1, List.getElem?_eq_getElem (hb j hj)] at this
    exact Option.some.inj this
  constructor
  · unfold renF
    congr 1
    apply List.ext_getElem
    · simp [h.ql]
    intro j h1 h2
    have hj : j < (ordK T).length := by simpa using h2
    obtain ⟨h3, h4⟩ := hq j hj
    simp only [tsG, List.getElem_map]
    rw [h4]
    have h5 := h.dn j hj
    rw [gP_ch (hb j hj)] at h5
    rw [h5, getD_in hj]
  have hz : ∀ (l : List PgL) (z : PgL), (List.range l.length).map (fun i => l.getD i z) = l := fun l z => by
    apply List.ext_getElem
    · simp
    intro i h1 h2
    simp only [List.getElem_map, List.getElem_range]
    rw [List.getD_eq_getElem?_getD, List.getElem?_eq_getElem h2]; rfl
  have z : PgL := ⟨⟨none, 0, []⟩, ⟨none, 0, []⟩, ⟨none, 0, []⟩⟩
  have hQ : Q = ((ordK T).map Int.toNat).map (fun i => Ch.getD i z) := by
    apply List.ext_getElem
    · simp [h.ql]
    intro j h1 h2
    have hj : j < (ordK T).length := by simpa using h2
    obtain ⟨h3, h4⟩ := hq j hj
    simp only [List.getElem_map]
    rw [h4, ← getD_in hj, List.getD_eq_getElem?_getD (l := Ch), List.getElem?_eq_getElem (hb j hj)]
    rfl
  have hp : (List.range Ch.length).Perm ((ordK T).map Int.toNat) := by
    have hnd : ((ordK T).map Int.toNat).Nodup := by
      refine List.pairwise_map.2 (hn.imp_of_mem fun ha hb2 hab e9 => hab ?_)
      have a := inT_iff.1 (hi _ ha).1
      have b := inT_iff.1 (hi _ hb2).1
      omega
    refine (List.perm_ext_iff_of_nodup List.nodup_range hnd).2 fun a => ?_
    have hc := (cover hn (fun x hx => inT_iff.1 (hi x hx).1)).2 hl
    constructor
    · intro ha
      have := hc a (by rw [← h.len]; exact List.mem_range.1 ha)
      exact List.mem_map.2 ⟨_, this, by simp⟩
    intro ha
    obtain ⟨x, hx, rfl⟩ := List.mem_map.1 ha
    have := inT_iff.1 (hi x hx).1
    exact List.mem_range.2 (by rw [h.len]; omega)
  rw [hQ]
  conv => lhs; rw [← hz Ch z]
  exact hp.map _
theorem done_enc {f : Int → Int} {X : PgL} : encPg (doneP f X) = encPg X := by unfold encPg doneP; simp
theorem done_set {f : Int → Int} {l : List PgL} {j : Nat} (hj : j < l.length) : l.flatMap encPg = (l.set j (doneP f l[j])).flatMap encPg := by
  conv => lhs; rw [split_mid hj]
  rw [List.set_eq_take_append_cons_drop, if_pos hj, List.flatMap_append, List.flatMap_append, List.flatMap_cons, List.flatMap_cons, done_enc]
theorem done_app {f : Int → Int} {l : List PgL} {X : PgL} : (l ++ [X]).flatMap encPg = (l ++ [doneP f X]).flatMap encPg := by
  rw [List.flatMap_append, List.flatMap_append]
  simp [done_enc]
end
end Go.Px
namespace Go.Px
def renO (T : TrT) : TrT := if validT T then renF T else ⟨0, []⟩
theorem renO_yes {T : TrT} (h : validT T = true) : renO T = renF T := by unfold renO; rw [if_pos h]
theorem renO_no {T : TrT} (h : validT T = false) : renO T = ⟨0, []⟩ := by unfold renO; rw [h]; rfl
theorem ren_plen {T : TrT} : (renF T).pages.length = (ordK T).length := by simp [renF]
theorem ren_snoc {T : TrT} {Ch : List PgL} {k : Nat} {x : Int} {X : PgL} (h : tsG Ch = (renF T).pages.take k) (hk : k < (ordK T).length) (hx : x = (ordK T)[k]) (hX : X.t = relP (plcI (ordK T)) (gP T x)) : tsG (Ch ++ [X]) = (renF T).pages.take (k + 1) := by
  rw [tsg_app, h, take_snoc (by rw [ren_plen]; exact hk), hX, hx]
  simp [renF]
theorem ren_all {T : TrT} {Ch : List PgL} {k : Nat} (h : tsG Ch = (renF T).pages.take k) (hk : (ordK T).length ≤ k) : (⟨0, tsG Ch⟩ : TrT) = renF T := by
  rw [h, List.take_of_length_le (by rw [ren_plen]; exact hk)]; rfl
theorem ren_clen {T : TrT} {Ch : List PgL} {k : Nat} (h : tsG Ch = (renF T).pages.take k) (hk : k ≤ (ordK T).length) : Ch.length = k := by
  have := congrArg List.length h
  rw [List.length_take, ren_plen] at this
  simp at this; omega
theorem tree_dec {X Y : TreeL} : decide (X.t = Y.t) = (decide (X.root = Y.root) && decide (tsG X.l = tsG Y.l)) := by
  rw [Bool.eq_iff_iff]
  simp only [Bool.and_eq_true, decide_eq_true_eq]
  exact ⟨fun e => ⟨congrArg TrT.root e, congrArg TrT.pages e⟩, fun ⟨h1, h2⟩ => tree_eq h1 h2⟩
theorem ren_kidG {T : TrT} {L : List PgL} {r : Int} (hv : validT T = true) (h : (⟨r, tsG L⟩ : TrT) = renF T) {k : Nat} (hk : k < L.length) : ∀ y ∈ (L[k]).c.l, (k : Int) < y := by
  have hp : tsG L = (renF T).pages := congrArg TrT.pages h
  have hk2 : k < (renF T).pages.length := by rw [← hp]; simpa using hk
  have he : (renF T).pages[k] = (L[k]).t := by simp only [← hp]; simp [tsG]
  have := ren_kid hv hk2
  rw [he] at this
  exact this
theorem pairsI_len {T : TrT} : (pairsI T).length ≤ 1715 := by
  unfold pairsI
  cases hv : validT T with
  | false => (unfold leavesI; rw [hv]; simp [pairsOn])
  | true =>
    have hwk := valid_WK hv
    have hsl := wk_len3 hwk.2.2 hwk.1 (by omega)
    have hl := leavesI_yes hv
    rw [hl]
    have hpl := pairsOn_len hwk.2.2 (l := leavesK T) fun x hx => (wk_mem hwk.1 (List.mem_filter.1 hx).1).1
    have hll : (leavesK T).length ≤ 343 := Nat.le_trans leaf_len hsl
    omega
end Go.Px
end
