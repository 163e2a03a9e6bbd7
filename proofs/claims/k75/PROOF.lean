import PyProof.Rows.All
import Wide.All
import OpenK.AllK
import Wide.FinOn
import HandS.ForMost
import HandS.Walk
import HandS.Zip
import HandS.Style
import HandS.Flow
import HandS.Lambda
import HandS.Nested
import HandS.EndTab
import HandS.Defaults
import PySem.Challenge.RW_circlesettle_k75_whole_needs_and_answers
set_option Elab.async false
set_option linter.all false
set_option maxRecDepth 100000
set_option maxHeartbeats 4000000
namespace CS
abbrev Am := Option Nat
abbrev Arc := Nat × Int
inductive Fm where
  | amt (a : Am)
  | lst (as : List Arc)
  | gst (as : List Arc)
  | whn (j a k : Nat)
abbrev Vec := Nat → Am

def leA : Am → Am → Prop
  | _, none => True
  | none, some _ => False
  | some a, some b => a ≤ b
instance leA_dec : (a b : Am) → Decidable (leA a b)
  | _, none => isTrue (by cases ‹Am› <;> trivial)
  | none, some _ => isFalse (fun h => h)
  | some a, some b => inferInstanceAs (Decidable (a ≤ b))
theorem leA_none (a : Am) : leA a none := by cases a <;> trivial
theorem leA_refl (a : Am) : leA a a := by
  cases a with
  | none => trivial
  | some n => exact Nat.le_refl n
theorem leA_trans {a b c : Am} (h : leA a b) (k : leA b c) : leA a c := by
  cases c with
  | none => exact leA_none a
  | some c =>
    cases b with
    | none => exact absurd k id
    | some b =>
      cases a with
      | none => exact absurd h id
      | some a => exact Nat.le_trans h k
theorem leA_antisymm {a b : Am} (h : leA a b) (k : leA b a) : a = b := by
  cases a with
  | none =>
    cases b with
    | none => rfl
    | some b => exact absurd h id
  | some a =>
    cases b with
    | none => exact absurd k id
    | some b => exact congrArg some (Nat.le_antisymm h k)
theorem leA_total (a b : Am) : leA a b ∨ leA b a := by
  cases a with
  | none => exact .inr (leA_none b)
  | some a =>
    cases b with
    | none => exact .inl trivial
    | some b => exact (Nat.le_total a b)
theorem leA_zero (a : Am) : leA (some 0) a := by
  cases a with
  | none => trivial
  | some a => exact Nat.zero_le a
theorem not_leA {a b : Am} (h : ¬ leA a b) : leA b a := (leA_total a b).resolve_left h
theorem leA_some {a b : Nat} : leA (some a) (some b) ↔ a ≤ b := Iff.rfl
theorem leA_some_r {a : Am} {b : Nat} : leA a (some b) ↔ ∃ n, a = some n ∧ n ≤ b := by
  cases a with
  | none => exact ⟨fun h => absurd h id, fun ⟨n, h, _⟩ => nomatch h⟩
  | some a => exact ⟨fun h => ⟨a, rfl, h⟩, fun ⟨n, h, k⟩ => by cases h; exact k⟩

/-- an amount with a shift -/
def shA (a : Am) (c : Int) : Am := a.map fun n => ((n : Int) + c).toNat
theorem shA_none (c : Int) : shA none c = none := rfl
theorem shA_some (n : Nat) (c : Int) : shA (some n) c = some ((n : Int) + c).toNat := rfl
theorem shA_mono {a b : Am} (c : Int) (h : leA a b) : leA (shA a c) (shA b c) := by
  cases b with
  | none => exact leA_none _
  | some b =>
    cases a with
    | none => exact absurd h id
    | some a =>
      have h : a ≤ b := h
      show ((a : Int) + c).toNat ≤ ((b : Int) + c).toNat
      omega

def minA (a b : Am) : Am := if leA a b then a else b
def maxA (a b : Am) : Am := if leA a b then b else a
def minOf : List Am → Am
  | [] => none
  | a :: l => minA a (minOf l)
def maxOf : List Am → Am
  | [] => some 0
  | a :: l => maxA a (maxOf l)
theorem le_minA {v a b : Am} : leA v (minA a b) ↔ leA v a ∧ leA v b := by
  unfold minA
  split
  · rename_i h
    exact ⟨fun k => ⟨k, leA_trans k h⟩, fun k => k.1⟩
  · rename_i h
    exact ⟨fun k => ⟨leA_trans k (not_leA h), k⟩, fun k => k.2⟩
theorem minA_le {v a b : Am} : leA (minA a b) v ↔ leA a v ∨ leA b v := by
  unfold minA
  split
  · rename_i h
    exact ⟨.inl, fun k => k.elim id fun z => leA_trans h z⟩
  · rename_i h
    exact ⟨.inr, fun k => k.elim (fun z => leA_trans (not_leA h) z) id⟩
theorem maxA_le {v a b : Am} : leA (maxA a b) v ↔ leA a v ∧ leA b v := by
  unfold maxA
  split
  · rename_i h
    exact ⟨fun k => ⟨leA_trans h k, k⟩, fun k => k.2⟩
  · rename_i h
    exact ⟨fun k => ⟨k, leA_trans (not_leA h) k⟩, fun k => k.1⟩
theorem le_maxA {v a b : Am} : leA v (maxA a b) ↔ leA v a ∨ leA v b := by
  unfold maxA
  split
  · rename_i h
    exact ⟨.inr, fun k => k.elim (fun z => leA_trans z h) id⟩
  · rename_i h
    exact ⟨.inl, fun k => k.elim id fun z => leA_trans z (not_leA h)⟩
theorem le_minOf {v : Am} : ∀ {l : List Am}, leA v (minOf l) ↔ ∀ y ∈ l, leA v y
  | [] => ⟨fun _ y h => (List.not_mem_nil h).elim, fun _ => leA_none v⟩
  | a :: l => by
    show leA v (minA a (minOf l)) ↔ _
    rw [le_minA, le_minOf (l := l)]
    exact ⟨fun h y hy => (List.mem_cons.mp hy).elim (fun e => e ▸ h.1) (h.2 y), fun h => ⟨h a List.mem_cons_self, fun y hy => h y (List.mem_cons_of_mem _ hy)⟩⟩
theorem minOf_le {v : Nat} : ∀ {l : List Am}, leA (minOf l) (some v) ↔ ∃ y ∈ l, leA y (some v)
  | [] => ⟨fun h => absurd h id, fun ⟨_, h, _⟩ => (List.not_mem_nil h).elim⟩
  | a :: l => by
    show leA (minA a (minOf l)) (some v) ↔ _
    rw [minA_le, minOf_le (l := l)]
    constructor
    · rintro (h | ⟨y, hy, h⟩)
      · exact ⟨a, List.mem_cons_self, h⟩
      · exact ⟨y, List.mem_cons_of_mem _ hy, h⟩
    · rintro ⟨y, hy, h⟩
      rcases List.mem_cons.mp hy with e | e
      · exact .inl (e ▸ h)
      · exact .inr ⟨y, e, h⟩
theorem maxOf_le {v : Am} : ∀ {l : List Am}, leA (maxOf l) v ↔ ∀ y ∈ l, leA y v
  | [] => ⟨fun _ y h => (List.not_mem_nil h).elim, fun _ => leA_zero v⟩
  | a :: l => by
    show leA (maxA a (maxOf l)) v ↔ _
    rw [maxA_le, maxOf_le (l := l)]
    exact ⟨fun h y hy => (List.mem_cons.mp hy).elim (fun e => e ▸ h.1) (h.2 y), fun h => ⟨h a List.mem_cons_self, fun y hy => h y (List.mem_cons_of_mem _ hy)⟩⟩
/-- something in a list that is not empty is its greatest one -/
theorem maxOf_mem : ∀ {l : List Am}, l ≠ [] → maxOf l ∈ l
  | [], h => absurd rfl h
  | [a], _ => by
    have e : maxOf [a] = a := by
      show maxA a (some 0) = a
      unfold maxA
      split
      · rename_i h
        exact leA_antisymm (leA_zero a) h
      · rfl
    rw [e]
    exact List.mem_cons_self
  | a :: b :: l, _ => by
    have ih := maxOf_mem (l := b :: l) (List.cons_ne_nil _ _)
    show maxA a (maxOf (b :: l)) ∈ _
    unfold maxA
    split
    · exact List.mem_cons_of_mem _ ih
    · exact List.mem_cons_self
theorem minOf_mem : ∀ {l : List Am}, l ≠ [] → minOf l ∈ l
  | [], h => absurd rfl h
  | [a], _ => by
    have e : minOf [a] = a := by
      show minA a none = a
      unfold minA
      rw [if_pos (leA_none a)]
    rw [e]
    exact List.mem_cons_self
  | a :: b :: l, _ => by
    have ih := minOf_mem (l := b :: l) (List.cons_ne_nil _ _)
    show minA a (minOf (b :: l)) ∈ _
    unfold minA
    split
    · exact List.mem_cons_self
    · exact List.mem_cons_of_mem _ ih

/-! ### formulas and sheets -/
def arcV (x : Vec) (p : Arc) : Am := shA (x p.1) p.2
def val : Fm → Vec → Am
  | .amt a, _ => a
  | .lst as, x => minOf (as.map (arcV x))
  | .gst as, x => maxOf (as.map (arcV x))
  | .whn j a k, x => if leA (some a) (x j) then x k else some 0
def leV (x y : Vec) : Prop := ∀ i, leA (x i) (y i)
theorem leV.trans {x y z : Vec} (h : leV x y) (k : leV y z) : leV x z := fun i => leA_trans (h i) (k i)
theorem arcV_mono {x y : Vec} (h : leV x y) (p : Arc) : leA (arcV x p) (arcV y p) := shA_mono _ (h _)
theorem val_mono {x y : Vec} (h : leV x y) : ∀ F : Fm, leA (val F x) (val F y)
  | .amt a => leA_refl a
  | .lst as => by
    refine le_minOf.mpr fun v hv => ?_
    obtain ⟨p, hp, e⟩ := List.mem_map.mp hv
    exact leA_trans (le_minOf.mp (leA_refl _) _ (List.mem_map.mpr ⟨p, hp, rfl⟩)) (e ▸ arcV_mono h p)
  | .gst as => by
    refine maxOf_le.mpr fun v hv => ?_
    obtain ⟨p, hp, e⟩ := List.mem_map.mp hv
    exact leA_trans (e ▸ arcV_mono h p) (maxOf_le.mp (leA_refl _) _ (List.mem_map.mpr ⟨p, hp, rfl⟩))
  | .whn j a k => by
    show leA (if leA (some a) (x j) then x k else some 0) (if leA (some a) (y j) then y k else some 0)
    by_cases c : leA (some a) (x j)
    · rw [if_pos c, if_pos (leA_trans c (h j))]
      exact h k
    · rw [if_neg c]
      exact leA_zero _
def High (S : List Fm) (z : Vec) : Prop := ∀ (i : Nat) (F : Fm), S[i]? = some F → leA (val F z) (z i)
theorem high_none (S : List Fm) : High S (fun _ => none) := fun _ _ _ => leA_none _
theorem nat_least {P : Nat → Prop} (h : ∃ n, P n) : ∃ n, P n ∧ ∀ m, P m → n ≤ m := by
  obtain ⟨n, hn⟩ := h
  induction n using Nat.strongRecOn with
  | ind n ih =>
    by_cases hm : ∃ m, m < n ∧ P m
    · obtain ⟨m, h1, h2⟩ := hm
      exact ih m h1 h2
    · exact ⟨n, hn, fun m h2 => Nat.le_of_not_lt fun h1 => hm ⟨m, h1, h2⟩⟩
theorem inf_at (S : List Fm) (i : Nat) : ∃ v : Am, (∀ z, High S z → leA v (z i)) ∧ ∃ z, High S z ∧ z i = v := by
  by_cases h : ∃ n, ∃ z, High S z ∧ z i = some n
  · obtain ⟨n, ⟨z, hz, e⟩, hm⟩ := nat_least h
    refine ⟨some n, fun y hy => ?_, z, hz, e⟩
    cases q : y i with
    | none => trivial
    | some m => exact hm m ⟨y, hy, q⟩
  · refine ⟨none, fun z hz => ?_, fun _ => none, high_none S, rfl⟩
    cases q : z i with
    | none => trivial
    | some m => exact absurd ⟨m, z, hz, q⟩ h
/-- the least solution -/
noncomputable def lfp (S : List Fm) : Vec := fun i => Classical.choose (inf_at S i)
theorem lfp_le {S : List Fm} {z : Vec} (h : High S z) : leV (lfp S) z := fun i => (Classical.choose_spec (inf_at S i)).1 z h
theorem lfp_high (S : List Fm) : High S (lfp S) := fun i F hF => by
  obtain ⟨z, hz, e⟩ := (Classical.choose_spec (inf_at S i)).2
  have e2 : z i = lfp S i := e
  exact leA_trans (val_mono (lfp_le hz) F) (e2 ▸ hz i F hF)
def updV (x : Vec) (i : Nat) (v : Am) : Vec := fun j => if j = i then v else x j
theorem updV_same (x : Vec) (i : Nat) (v : Am) : updV x i v i = v := if_pos rfl
theorem updV_ne {x : Vec} {i j : Nat} {v : Am} (h : j ≠ i) : updV x i v j = x j := if_neg h
theorem lfp_eq {S : List Fm} {i : Nat} {F : Fm} (h : S[i]? = some F) : val F (lfp S) = lfp S i := by
  have h1 := lfp_high S i F h
  refine leA_antisymm h1 ?_
  have hle : leV (updV (lfp S) i (val F (lfp S))) (lfp S) := fun j => by
    by_cases e : j = i
    · subst e
      rw [updV_same]
      exact h1
    · rw [updV_ne e]
      exact leA_refl _
  have hz : High S (updV (lfp S) i (val F (lfp S))) := fun j G hG => by
    by_cases e : j = i
    · subst e
      rw [h] at hG
      cases hG
      rw [updV_same]
      exact val_mono hle F
    · rw [updV_ne e]
      exact leA_trans (val_mono hle G) (lfp_high S j G hG)
  have q := lfp_le hz i
  rw [updV_same] at q
  exact q
/-- what is high and at most every high one agrees with the least solution -/
theorem lfp_unique {S : List Fm} {x : Vec} (h : High S x) (k : ∀ z, High S z → ∀ i, i < S.length → leA (x i) (z i)) {i : Nat} (hi : i < S.length) : x i = lfp S i :=
  leA_antisymm (k _ (lfp_high S) i hi) (lfp_le h i)
/-- formulas that are worth less, a lesser solution -/
theorem lfp_mono {S T : List Fm} (h : ∀ (i : Nat) (F : Fm) (z : Vec), S[i]? = some F → High T z → leA (val F z) (z i)) : leV (lfp S) (lfp T) := lfp_le fun i F hF => h i F _ hF (lfp_high T)

/-- cells within n -/
def WFm (n : Nat) : Fm → Prop
  | .amt _ => True
  | .lst as => as ≠ [] ∧ ∀ p ∈ as, p.1 < n
  | .gst as => as ≠ [] ∧ ∀ p ∈ as, p.1 < n
  | .whn j _ k => j < n ∧ k < n
def WFs (S : List Fm) : Prop := ∀ (i : Nat) (F : Fm), S[i]? = some F → WFm S.length F
theorem map_congr_mem {α β : Type} {f g : α → β} : ∀ {l : List α}, (∀ a ∈ l, f a = g a) → l.map f = l.map g
  | [], _ => rfl
  | a :: l, h => by
    rw [List.map_cons, List.map_cons, h a List.mem_cons_self, map_congr_mem fun b hb => h b (List.mem_cons_of_mem _ hb)]
theorem val_congr {n : Nat} {x y : Vec} (h : ∀ i, i < n → x i = y i) : ∀ {F : Fm}, WFm n F → val F x = val F y
  | .amt a, _ => rfl
  | .lst as, w => congrArg minOf (map_congr_mem fun p hp => congrArg (fun v => shA v p.2) (h _ (w.2 p hp)))
  | .gst as, w => congrArg maxOf (map_congr_mem fun p hp => congrArg (fun v => shA v p.2) (h _ (w.2 p hp)))
  | .whn j a k, w => by
    show (if leA (some a) (x j) then x k else some 0) = (if leA (some a) (y j) then y k else some 0)
    rw [h _ w.1, h _ w.2]
end CS
namespace CS
theorem php : ∀ (n : Nat) (f : Nat → Nat), (∀ k, k ≤ n → f k < n) → ∃ a b, a < b ∧ b ≤ n ∧ f a = f b
  | 0, f, h => absurd (h 0 (Nat.le_refl 0)) (Nat.not_lt_zero _)
  | n + 1, f, h => by
    by_cases hk : ∃ k, k ≤ n ∧ f k = f (n + 1)
    · obtain ⟨k, h1, h2⟩ := hk
      exact ⟨k, n + 1, by omega, Nat.le_refl _, h2⟩
    · have ne : ∀ k, k ≤ n → f k ≠ f (n + 1) := fun k h1 h2 => hk ⟨k, h1, h2⟩
      have hl := h (n + 1) (Nat.le_refl _)
      obtain ⟨a, b, h1, h2, h3⟩ := php n (fun k => if f (n + 1) < f k then f k - 1 else f k) (fun k hk => by
        have e1 := ne k hk
        have e2 := h k (by omega)
        show (if f (n + 1) < f k then f k - 1 else f k) < n
        split <;> omega)
      refine ⟨a, b, h1, by omega, ?_⟩
      have e1 := ne a (by omega)
      have e2 := ne b h2
      have h3 : (if f (n + 1) < f a then f a - 1 else f a) = (if f (n + 1) < f b then f b - 1 else f b) := h3
      split at h3 <;> split at h3 <;> omega
/-- of n + 1 intervals one after another, one is met by none of n values -/
theorem gap_of (n : Nat) (x : Vec) (T D : Nat) : ∃ k, k ≤ n ∧ ∀ i, i < n → ∀ v, x i = some v → ¬ (T + k * D ≤ v ∧ v < T + k * D + D) := by
  apply Classical.byContradiction
  intro h
  have h1 : ∀ k, ∃ i, k ≤ n → i < n ∧ ∃ v, x i = some v ∧ T + k * D ≤ v ∧ v < T + k * D + D := fun k => by
    by_cases hk : k ≤ n
    · apply Classical.byContradiction
      intro h2
      refine h ⟨k, hk, fun i hi v hv q => h2 ⟨i, fun _ => ⟨hi, v, hv, q.1, q.2⟩⟩⟩
    · exact ⟨0, fun z => absurd z hk⟩
  have h2 := fun k => Classical.choose_spec (h1 k)
  obtain ⟨a, b, h3, h4, h5⟩ := php n (fun k => Classical.choose (h1 k)) (fun k hk => (h2 k hk).1)
  obtain ⟨_, v, e1, l1, l2⟩ := h2 a (by omega)
  obtain ⟨_, w, e2, m1, m2⟩ := h2 b h4
  have h5 : Classical.choose (h1 a) = Classical.choose (h1 b) := h5
  rw [h5, e2] at e1
  have e : w = v := Option.some.inj e1
  subst e
  have : a * D + D ≤ b * D := by
    have := Nat.mul_le_mul_right D (show a + 1 ≤ b from h3)
    rw [Nat.add_mul] at this
    omega
  omega

theorem lst_some {as : List Arc} {x : Vec} {v : Nat} (h : val (.lst as) x = some v) : ∃ p ∈ as, arcV x p = some v := by
  have h : minOf (as.map (arcV x)) = some v := h
  obtain ⟨y, hy, l⟩ := minOf_le.mp (show leA (minOf (as.map (arcV x))) (some v) by rw [h]; exact leA_refl _)
  have l2 : leA (some v) y := by
    rw [← h]
    exact le_minOf.mp (leA_refl _) y hy
  obtain ⟨p, hp, e⟩ := List.mem_map.mp hy
  exact ⟨p, hp, e.trans (leA_antisymm l l2)⟩
theorem lst_le {as : List Arc} {x : Vec} {v : Am} {p : Arc} (hp : p ∈ as) (h : leA (arcV x p) v) : leA (val (.lst as) x) v :=
  leA_trans (le_minOf.mp (leA_refl _) _ (List.mem_map.mpr ⟨p, hp, rfl⟩)) h
theorem gst_le {as : List Arc} {x : Vec} {v : Am} : leA (val (.gst as) x) v ↔ ∀ p ∈ as, leA (arcV x p) v := by
  refine Iff.trans maxOf_le ⟨fun h p hp => h _ (List.mem_map.mpr ⟨p, hp, rfl⟩), fun h y hy => ?_⟩
  obtain ⟨p, hp, e⟩ := List.mem_map.mp hy
  exact e ▸ h p hp
theorem gst_mem {as : List Arc} {x : Vec} (h : as ≠ []) : ∃ p ∈ as, arcV x p = val (.gst as) x := by
  have q := maxOf_mem (l := as.map (arcV x)) (fun e => h (List.map_eq_nil_iff.mp e))
  obtain ⟨p, hp, e⟩ := List.mem_map.mp q
  exact ⟨p, hp, e⟩
theorem arcV_some {x : Vec} {p : Arc} {v : Nat} (h : arcV x p = some v) : ∃ u, x p.1 = some u ∧ ((u : Int) + p.2).toNat = v := by
  unfold arcV at h
  cases q : x p.1 with
  | none =>
    rw [q] at h
    cases h
  | some u =>
    rw [q] at h
    exact ⟨u, rfl, Option.some.inj h⟩
theorem arcV_le_some {x : Vec} {p : Arc} {v : Nat} (h : leA (arcV x p) (some v)) : ∃ u, x p.1 = some u ∧ ((u : Int) + p.2).toNat ≤ v := by
  obtain ⟨n, e, l⟩ := leA_some_r.mp h
  obtain ⟨u, e1, e2⟩ := arcV_some e
  exact ⟨u, e1, by omega⟩
theorem arcV_of {x : Vec} {p : Arc} {u : Nat} (h : x p.1 = some u) : arcV x p = some ((u : Int) + p.2).toNat := by
  unfold arcV
  rw [h]
  rfl

/-- bounds of what stands in a formula: numbers up to a, shifts up to C -/
def FmBd (a C : Nat) : Fm → Prop
  | .amt (some v) => v ≤ a
  | .amt none => True
  | .lst as => ∀ p ∈ as, p.2 ≤ (C : Int)
  | .gst as => ∀ p ∈ as, p.2 ≤ (C : Int)
  | .whn _ _ _ => True
def ShBd (a C : Nat) (S : List Fm) : Prop := ∀ (i : Nat) (F : Fm), S[i]? = some F → FmBd a C F

def lowered (x : Vec) (T : Nat) : Vec := fun i => (x i).map fun v => if T ≤ v then v - 1 else v
theorem lowered_some {x : Vec} {T i v : Nat} (h : x i = some v) : lowered x T i = some (if T ≤ v then v - 1 else v) := by
  unfold lowered
  rw [h]
  rfl
theorem lowered_le (x : Vec) (T : Nat) : leV (lowered x T) x := fun i => by
  unfold lowered
  cases q : x i with
  | none => trivial
  | some v =>
    show (if T ≤ v then v - 1 else v) ≤ v
    split <;> omega
theorem no_above {S : List Fm} (W : WFs S) {a C T : Nat} (B : ShBd a C S) (hT : a < T) (gap : ∀ i, i < S.length → ∀ v, lfp S i = some v → ¬ (T ≤ v ∧ v < T + C)) :
    ∀ i, i < S.length → ∀ v, lfp S i = some v → v < T + C := by
  have hz : High S (lowered (lfp S) (T + C)) := by
    intro i F hF
    have hi : i < S.length := (List.getElem?_eq_some_iff.mp hF).1
    have wF := W i F hF
    have bF := B i F hF
    have eq := lfp_eq hF
    cases hv : lfp S i with
    | none =>
      unfold lowered
      rw [hv]
      exact leA_none _
    | some v =>
      rw [lowered_some hv]
      rw [hv] at eq
      by_cases hlt : T + C ≤ v
      · rw [if_pos hlt]
        cases F with
        | amt b =>
          have e : b = some v := eq
          subst e
          have : v ≤ a := bF
          omega
        | lst as =>
          obtain ⟨p, hp, e⟩ := lst_some eq
          obtain ⟨u, e1, e2⟩ := arcV_some e
          have hc : p.2 ≤ (C : Int) := bF p hp
          have g := gap p.1 (wF.2 p hp) u e1
          refine lst_le hp ?_
          rw [arcV_of (lowered_some e1)]
          show ((((if T + C ≤ u then u - 1 else u : Nat)) : Int) + p.2).toNat ≤ v - 1
          rw [if_pos (by omega)]
          omega
        | gst as =>
          refine gst_le.mpr fun p hp => ?_
          obtain ⟨u, e1, e2⟩ := arcV_le_some (gst_le.mp (show leA (val (.gst as) (lfp S)) (some v) by rw [eq]; exact leA_refl _) p hp)
          have hc : p.2 ≤ (C : Int) := bF p hp
          have g := gap p.1 (wF.2 p hp) u e1
          rw [arcV_of (lowered_some e1)]
          show ((((if T + C ≤ u then u - 1 else u : Nat)) : Int) + p.2).toNat ≤ v - 1
          split <;> omega
        | whn j b k =>
          have eq : (if leA (some b) (lfp S j) then lfp S k else some 0) = some v := eq
          show leA (if leA (some b) (lowered (lfp S) (T + C) j) then lowered (lfp S) (T + C) k else some 0) (some (v - 1))
          split
          · by_cases c : leA (some b) (lfp S j)
            · rw [if_pos c] at eq
              rw [lowered_some eq, if_pos hlt]
              exact leA_refl _
            · rw [if_neg c] at eq
              have : 0 = v := Option.some.inj eq
              omega
          · exact leA_zero _
      · rw [if_neg hlt, ← eq]
        exact val_mono (lowered_le _ _) F
  intro i hi v hv
  have q := lfp_le hz i
  rw [lowered_some hv, hv] at q
  have q : v ≤ (if T + C ≤ v then v - 1 else v) := q
  split at q <;> omega
/-- an amount of the least solution that is a number is within the bound -/
theorem lfp_bound {S : List Fm} (W : WFs S) {a C : Nat} (B : ShBd a C S) {i v : Nat} (hi : i < S.length) (h : lfp S i = some v) : v ≤ a + S.length * C := by
  apply Classical.byContradiction
  intro hn
  -- each of the n intervals below the bound is met
  have met : ∀ k, ∃ j, k < S.length → j < S.length ∧ ∃ u, lfp S j = some u ∧ a + 1 + k * C ≤ u ∧ u < a + 1 + k * C + C := fun k => by
    by_cases hk : k < S.length
    · apply Classical.byContradiction
      intro h2
      have q := no_above W B (T := a + 1 + k * C) (by omega) (fun j hj u hu g => h2 ⟨j, fun _ => ⟨hj, u, hu, g.1, g.2⟩⟩) i hi v h
      have : k * C + C ≤ S.length * C := by
        have := Nat.mul_le_mul_right C (show k + 1 ≤ S.length from hk)
        rw [Nat.add_mul] at this
        omega
      omega
    · exact ⟨0, fun z => absurd z hk⟩
  have sp := fun k => Classical.choose_spec (met k)
  obtain ⟨b, c, h3, h4, h5⟩ := php S.length (fun k => if k < S.length then Classical.choose (met k) else i) (fun k hk => by
    show (if k < S.length then Classical.choose (met k) else i) < S.length
    split
    · rename_i z
      exact (sp k z).1
    · exact hi)
  have h5 : (if b < S.length then Classical.choose (met b) else i) = (if c < S.length then Classical.choose (met c) else i) := h5
  rw [if_pos (show b < S.length by omega)] at h5
  obtain ⟨_, u, e1, l1, l2⟩ := sp b (by omega)
  by_cases hc : c < S.length
  · rw [if_pos hc] at h5
    obtain ⟨_, w, e2, m1, m2⟩ := sp c hc
    rw [h5, e2] at e1
    have e : w = u := Option.some.inj e1
    subst e
    have : b * C + C ≤ c * C := by
      have := Nat.mul_le_mul_right C (show b + 1 ≤ c from h3)
      rw [Nat.add_mul] at this
      omega
    omega
  · rw [if_neg hc] at h5
    rw [h5, h] at e1
    have e : v = u := Option.some.inj e1
    subst e
    have : b * C + C ≤ S.length * C := by
      have := Nat.mul_le_mul_right C (show b + 1 ≤ S.length by omega)
      rw [Nat.add_mul] at this
      omega
    omega

/-! ### inputs -/
def setIn (S : List Fm) (at_ : Nat) (a : Am) : List Fm := S.set at_ (.amt a)
theorem setIn_same {S : List Fm} {i : Nat} {a : Am} (h : i < S.length) : (setIn S i a)[i]? = some (.amt a) := by
  unfold setIn
  rw [List.getElem?_set_self h]
theorem setIn_ne {S : List Fm} {i j : Nat} {a : Am} (h : j ≠ i) : (setIn S i a)[j]? = S[j]? := by
  unfold setIn
  rw [List.getElem?_set_ne (Ne.symm h)]
theorem setIn_len (S : List Fm) (i : Nat) (a : Am) : (setIn S i a).length = S.length := by
  unfold setIn
  rw [List.length_set]
theorem setIn_wf {S : List Fm} (W : WFs S) (i : Nat) (a : Am) : WFs (setIn S i a) := fun j F h => by
  rw [setIn_len]
  by_cases e : j = i
  · subst e
    have hl := (List.getElem?_eq_some_iff.mp h).1
    rw [setIn_len] at hl
    rw [setIn_same hl] at h
    cases h
    trivial
  · rw [setIn_ne e] at h
    exact W j F h
theorem setIn_mono {S : List Fm} {i : Nat} {a b : Am} (h : leA a b) : leV (lfp (setIn S i a)) (lfp (setIn S i b)) := lfp_mono fun j F z hF hz => by
  by_cases e : j = i
  · subst e
    have hl := (List.getElem?_eq_some_iff.mp hF).1
    rw [setIn_len] at hl
    rw [setIn_same hl] at hF
    cases hF
    exact leA_trans h (hz j _ (setIn_same hl))
  · rw [setIn_ne e] at hF
    exact hz j F (by rw [setIn_ne e]; exact hF)
/-- shifts downwards by at most D, conditions at most T -/
def FmDn (T D : Nat) : Fm → Prop
  | .amt _ => True
  | .lst as => ∀ p ∈ as, -(D : Int) ≤ p.2
  | .gst as => ∀ p ∈ as, -(D : Int) ≤ p.2
  | .whn _ a _ => a ≤ T
theorem FmDn.mono {T T' D : Nat} (h : T ≤ T') : ∀ {F : Fm}, FmDn T D F → FmDn T' D F
  | .amt _, _ => trivial
  | .lst _, q => q
  | .gst _, q => q
  | .whn _ _ _, q => Nat.le_trans q h
def cutAt (x : Vec) (T : Nat) : Vec := fun i => if leA (some T) (x i) then none else x i
theorem cut_lt {x : Vec} {T i v : Nat} (h : x i = some v) (l : v < T) : cutAt x T i = some v := by
  unfold cutAt
  rw [h, if_neg (show ¬ leA (some T) (some v) from fun z => absurd (show T ≤ v from z) (by omega))]
theorem cut_high {S : List Fm} (W : WFs S) {i T D b : Nat} {b' : Am} (hT : T ≤ b) (hD : ∀ (j : Nat) (F : Fm), S[j]? = some F → FmDn T D F)
    (gap : ∀ j, j < S.length → ∀ v, lfp (setIn S i (some b)) j = some v → ¬ (T ≤ v ∧ v < T + D)) : High (setIn S i b') (cutAt (lfp (setIn S i (some b))) T) := by
  intro j F hF
  have hj : j < S.length := by
    have := (List.getElem?_eq_some_iff.mp hF).1
    rw [setIn_len] at this
    exact this
  by_cases e : j = i
  · subst e
    have q := lfp_eq (setIn_same (a := some b) hj)
    have q : some b = lfp (setIn S j (some b)) j := q
    unfold cutAt
    rw [← q, if_pos (show leA (some T) (some b) from hT)]
    exact leA_none _
  · rw [setIn_ne e] at hF
    have hF' : (setIn S i (some b))[j]? = some F := by rw [setIn_ne e]; exact hF
    have wF := W j F hF
    have dF := hD j F hF
    have eq := lfp_eq hF'
    by_cases hc : leA (some T) (lfp (setIn S i (some b)) j)
    · unfold cutAt
      rw [if_pos hc]
      exact leA_none _
    · obtain ⟨v, hv⟩ : ∃ v, lfp (setIn S i (some b)) j = some v := by
        cases q : lfp (setIn S i (some b)) j with
        | none =>
          rw [q] at hc
          exact absurd (leA_none _) hc
        | some v => exact ⟨v, rfl⟩
      have hlt : v < T := by
        rw [hv] at hc
        exact Nat.lt_of_not_le hc
      rw [cut_lt hv hlt]
      rw [hv] at eq
      cases F with
      | amt a =>
        rw [← eq]
        exact leA_refl _
      | lst as =>
        obtain ⟨p, hp, e⟩ := lst_some eq
        obtain ⟨u, e1, e2⟩ := arcV_some e
        have hd : -(D : Int) ≤ p.2 := dF p hp
        have g := gap p.1 (wF.2 p hp) u e1
        refine lst_le hp ?_
        rw [arcV_of (cut_lt e1 (by omega)), e2]
        exact leA_refl _
      | gst as =>
        refine gst_le.mpr fun p hp => ?_
        obtain ⟨u, e1, e2⟩ := arcV_le_some (gst_le.mp (show leA (val (.gst as) (lfp (setIn S i (some b)))) (some v) by rw [eq]; exact leA_refl _) p hp)
        have hd : -(D : Int) ≤ p.2 := dF p hp
        have g := gap p.1 (wF.2 p hp) u e1
        rw [arcV_of (cut_lt e1 (by omega))]
        exact e2
      | whn k a l =>
        have hT2 : a ≤ T := dF
        have eq : (if leA (some a) (lfp (setIn S i (some b)) k) then lfp (setIn S i (some b)) l else some 0) = some v := eq
        show leA (if leA (some a) (cutAt (lfp (setIn S i (some b))) T k) then cutAt (lfp (setIn S i (some b))) T l else some 0) (some v)
        by_cases c : leA (some a) (lfp (setIn S i (some b)) k)
        · rw [if_pos c] at eq
          split
          · rw [cut_lt eq hlt]
            exact leA_refl _
          · exact leA_zero _
        · have c2 : ¬ leA (some a) (cutAt (lfp (setIn S i (some b))) T k) := by
            intro z
            cases q : lfp (setIn S i (some b)) k with
            | none =>
              rw [q] at c
              exact c (leA_none _)
            | some u =>
              rw [q] at c
              have c : ¬ a ≤ u := c
              rw [cut_lt q (by omega)] at z
              exact c z
          rw [if_neg c2]
          exact leA_zero _
/-- what is reached at all is reached by a small number -/
theorem reach_small {S : List Fm} (W : WFs S) {i cell m T D b : Nat} {b' : Am} (hm : m ≤ T) (hb : T + (S.length + 1) * D ≤ b) (hD : ∀ (j : Nat) (F : Fm), S[j]? = some F → FmDn T D F)
    (h : leA (some m) (lfp (setIn S i b') cell)) : leA (some m) (lfp (setIn S i (some b)) cell) := by
  obtain ⟨k, hk, gap⟩ := gap_of S.length (lfp (setIn S i (some b))) T D
  have hkD : k * D ≤ S.length * D := Nat.mul_le_mul_right D hk
  rw [Nat.add_mul] at hb
  have hz := cut_high W (T := T + k * D) (b' := b') (by omega) (fun j F e => (hD j F e).mono (by omega)) gap
  apply Classical.byContradiction
  intro hn
  have q := leA_trans h (lfp_le hz cell)
  cases e : lfp (setIn S i (some b)) cell with
  | none =>
    rw [e] at hn
    exact hn (leA_none _)
  | some v =>
    rw [e] at hn
    have hn : ¬ m ≤ v := hn
    rw [cut_lt e (by omega)] at q
    exact hn q
end CS
namespace CS
/-- no condition; each "greatest" has one arc -/
def ToldF : Fm → Prop
  | .amt _ => True
  | .lst _ => True
  | .gst as => ∃ p, as = [p]
  | .whn _ _ _ => False
def Told (S : List Fm) : Prop := ∀ (i : Nat) (F : Fm), S[i]? = some F → ToldF F
theorem gst1 (x : Vec) (p : Arc) : val (.gst [p]) x = arcV x p := by
  obtain ⟨q, hq, e⟩ := gst_mem (as := [p]) (x := x) (List.cons_ne_nil _ _)
  rw [List.mem_singleton.mp hq] at e
  exact e.symm
theorem lst_none {as : List Arc} {x : Vec} (h : val (.lst as) x = none) {p : Arc} (hp : p ∈ as) : x p.1 = none := by
  have q : leA none (arcV x p) := by
    rw [← h]
    exact le_minOf.mp (leA_refl _) _ (List.mem_map.mpr ⟨p, hp, rfl⟩)
  cases e : x p.1 with
  | none => rfl
  | some u =>
    rw [arcV_of e] at q
    exact absurd q id
theorem arcV_none {x : Vec} {p : Arc} (h : arcV x p = none) : x p.1 = none := by
  cases e : x p.1 with
  | none => rfl
  | some u =>
    rw [arcV_of e] at h
    cases h
theorem max_at (f : Nat → Nat) : ∀ (n : Nat), (∃ i, i < n ∧ 0 < f i) → ∃ i, i < n ∧ 0 < f i ∧ ∀ j, j < n → f j ≤ f i
  | 0, ⟨_, h, _⟩ => absurd h (Nat.not_lt_zero _)
  | n + 1, ⟨i, h1, h2⟩ => by
    by_cases hn : ∃ i, i < n ∧ 0 < f i
    · obtain ⟨k, k1, k2, k3⟩ := max_at f n hn
      by_cases hc : f k < f n
      · refine ⟨n, by omega, by omega, fun j hj => ?_⟩
        by_cases e : j = n
        · subst e
          exact Nat.le_refl _
        · have := k3 j (by omega)
          omega
      · refine ⟨k, by omega, k2, fun j hj => ?_⟩
        by_cases e : j = n
        · subst e
          omega
        · exact k3 j (by omega)
    · have e : i = n := by
        apply Classical.byContradiction
        intro z
        exact hn ⟨i, by omega, h2⟩
      subst e
      refine ⟨i, by omega, h2, fun j hj => ?_⟩
      by_cases e : j = i
      · subst e
        exact Nat.le_refl _
      · by_cases z : 0 < f j
        · exact absurd ⟨j, by omega, z⟩ hn
        · omega
/-- how two sheets lie to each other, of which the second one is changed for the better -/
structure Better (S T : List Fm) : Prop where
  len : T.length = S.length
  wf1 : WFs S
  wf2 : WFs T
  told : Told S
  same : ∀ (i : Nat) (F G : Fm), S[i]? = some F → T[i]? = some G → F = G ∨ (∃ p, G = .gst [p]) ∧ ¬ leA (val G (lfp S)) (lfp S i)
theorem Better.ends {S T : List Fm} (B : Better S T) : ∀ i, i < S.length → lfp S i = none → lfp T i = none := by
  have hzle : leV (fun i => if lfp S i = none then lfp T i else lfp S i) (lfp S) := fun i => by
    by_cases e : lfp S i = none
    · rw [e]
      exact leA_none _
    · show leA (if lfp S i = none then lfp T i else lfp S i) (lfp S i)
      rw [if_neg e]
      exact leA_refl _
  have hz : High S (fun i => if lfp S i = none then lfp T i else lfp S i) := by
    intro i F hF
    have hi := (List.getElem?_eq_some_iff.mp hF).1
    by_cases e : lfp S i = none
    · show leA _ (if lfp S i = none then lfp T i else lfp S i)
      rw [if_pos e]
      obtain ⟨G, hG⟩ : ∃ G, T[i]? = some G := ⟨T[i]'(by rw [B.len]; exact hi), List.getElem?_eq_getElem _⟩
      rcases B.same i F G hF hG with q | ⟨_, q⟩
      · subst q
        have e1 := lfp_eq hF
        have e2 := lfp_eq hG
        rw [e] at e1
        cases hv : lfp T i with
        | none => exact leA_none _
        | some v =>
          rw [hv] at e2
          have tF := B.told i F hF
          cases F with
          | amt a =>
            have e1 : a = none := e1
            have e2 : a = some v := e2
            rw [e1] at e2
            cases e2
          | lst as =>
            obtain ⟨p, hp, e3⟩ := lst_some e2
            refine lst_le hp ?_
            have n1 := lst_none e1 hp
            show leA (shA (if lfp S p.1 = none then lfp T p.1 else lfp S p.1) p.2) (some v)
            rw [if_pos n1, show shA (lfp T p.1) p.2 = some v from e3]
            exact leA_refl _
          | gst as =>
            obtain ⟨p, ep⟩ := tF
            subst ep
            rw [gst1] at e1 e2 ⊢
            have n1 := arcV_none e1
            show leA (shA (if lfp S p.1 = none then lfp T p.1 else lfp S p.1) p.2) (some v)
            rw [if_pos n1, show shA (lfp T p.1) p.2 = some v from e2]
            exact leA_refl _
          | whn j a k => exact absurd tF id
      · rw [e] at q
        exact absurd (leA_none _) q
    · show leA _ (if lfp S i = none then lfp T i else lfp S i)
      rw [if_neg e]
      exact leA_trans (val_mono hzle F) (lfp_high S i F hF)
  intro i hi e
  have q := lfp_le hz i
  have q : leA (lfp S i) (if lfp S i = none then lfp T i else lfp S i) := q
  rw [if_pos e, e] at q
  cases hv : lfp T i with
  | none => rfl
  | some v =>
    rw [hv] at q
    exact absurd q id
def lack (x y : Vec) (i : Nat) : Nat := match x i, y i with
  | some a, some b => a - b
  | _, _ => 0
theorem lack_of {x y : Vec} {i a b : Nat} (h : x i = some a) (k : y i = some b) : lack x y i = a - b := by
  unfold lack
  rw [h, k]
theorem lack_pos {x y : Vec} {i : Nat} (h : 0 < lack x y i) : ∃ a b, x i = some a ∧ y i = some b ∧ b < a := by
  cases ha : x i with
  | none =>
    unfold lack at h
    rw [ha] at h
    exact absurd h (Nat.lt_irrefl 0)
  | some a =>
    cases hb : y i with
    | none =>
      unfold lack at h
      rw [ha, hb] at h
      exact absurd h (Nat.lt_irrefl 0)
    | some b =>
      rw [lack_of ha hb] at h
      exact ⟨a, b, rfl, rfl, by omega⟩
/-- changed for the better, no amount becomes less -/
theorem Better.grows {S T : List Fm} (B : Better S T) : ∀ i, i < S.length → leA (lfp S i) (lfp T i) := by
  apply Classical.byContradiction
  intro hn
  have hex : ∃ i, i < S.length ∧ 0 < lack (lfp S) (lfp T) i := by
    apply Classical.byContradiction
    intro h2
    refine hn fun i hi => ?_
    cases ha : lfp S i with
    | none =>
      rw [B.ends i hi ha]
      exact leA_none _
    | some a =>
      cases hb : lfp T i with
      | none => exact leA_none _
      | some b =>
        show a ≤ b
        apply Classical.byContradiction
        intro z
        exact h2 ⟨i, hi, by rw [lack_of ha hb]; omega⟩
  obtain ⟨i0, hi0, hpos, hmax⟩ := max_at _ _ hex
  let d := lack (lfp S) (lfp T) i0
  have hd : 0 < d := hpos
  have hm : ∀ j a b, j < S.length → lfp S j = some a → lfp T j = some b → a ≤ b + d := fun j a b hj h1 h2 => by
    have q := hmax j hj
    rw [lack_of h1 h2] at q
    have q : a - b ≤ d := q
    omega
  let z : Vec := fun i => if lack (lfp S) (lfp T) i = d then (lfp S i).map (· - 1) else lfp S i
  have z_in : ∀ i a b, lfp S i = some a → lfp T i = some b → a = b + d → z i = some (a - 1) := fun i a b h1 h2 h3 => by
    show (if lack (lfp S) (lfp T) i = d then (lfp S i).map (· - 1) else lfp S i) = _
    rw [lack_of h1 h2, if_pos (by omega), h1]
    rfl
  have hzle : leV z (lfp S) := fun i => by
    show leA (if lack (lfp S) (lfp T) i = d then (lfp S i).map (· - 1) else lfp S i) _
    split
    · cases lfp S i with
      | none => trivial
      | some a => exact Nat.sub_le a 1
    · exact leA_refl _
  have hz : High S z := by
    intro i F hF
    have hi := (List.getElem?_eq_some_iff.mp hF).1
    by_cases e : lack (lfp S) (lfp T) i = d
    · obtain ⟨a, b, ha, hb, hlt⟩ := lack_pos (x := lfp S) (y := lfp T) (i := i) (by omega)
      rw [lack_of ha hb] at e
      rw [z_in i a b ha hb (by omega)]
      obtain ⟨G, hG⟩ : ∃ G, T[i]? = some G := ⟨T[i]'(by rw [B.len]; exact hi), List.getElem?_eq_getElem _⟩
      have wG := B.wf2 i G hG
      rw [B.len] at wG
      have e1 := lfp_eq hF
      have e2 := lfp_eq hG
      rw [ha] at e1
      rw [hb] at e2
      have fin : ∀ j u, j < S.length → lfp T j = some u → ∃ w, lfp S j = some w ∧ w ≤ u + d := fun j u hj hu => by
        cases hw : lfp S j with
        | none =>
          rw [B.ends j hj hw] at hu
          cases hu
        | some w => exact ⟨w, rfl, hm j w u hj hw hu⟩
      rcases B.same i F G hF hG with q | ⟨⟨p, ep⟩, q⟩
      · subst q
        have tF := B.told i F hF
        cases F with
        | amt c =>
          have e1 : c = some a := e1
          have e2 : c = some b := e2
          rw [e1] at e2
          have : a = b := Option.some.inj e2
          omega
        | lst as =>
          obtain ⟨p, hp, e3⟩ := lst_some e2
          obtain ⟨u, u1, u2⟩ := arcV_some e3
          obtain ⟨w, w1, w2⟩ := fin p.1 u (wG.2 p hp) u1
          have le1 : leA (some a) (arcV (lfp S) p) := by
            rw [← e1]
            exact le_minOf.mp (leA_refl _) _ (List.mem_map.mpr ⟨p, hp, rfl⟩)
          rw [arcV_of w1] at le1
          have le1 : a ≤ ((w : Int) + p.2).toNat := le1
          refine lst_le hp ?_
          rw [arcV_of (z_in p.1 w u w1 u1 (by omega))]
          show (((w - 1 : Nat) : Int) + p.2).toNat ≤ a - 1
          omega
        | gst as =>
          obtain ⟨p, ep⟩ := tF
          subst ep
          rw [gst1] at e1 e2 ⊢
          obtain ⟨w, w1, w2⟩ := arcV_some e1
          obtain ⟨u, u1, u2⟩ := arcV_some e2
          have := hm p.1 w u (wG.2 p List.mem_cons_self) w1 u1
          rw [arcV_of (z_in p.1 w u w1 u1 (by omega))]
          show (((w - 1 : Nat) : Int) + p.2).toNat ≤ a - 1
          omega
        | whn j c k => exact absurd tF id
      · subst ep
        rw [gst1] at e2 q
        obtain ⟨u, u1, u2⟩ := arcV_some e2
        obtain ⟨w, w1, w2⟩ := fin p.1 u (wG.2 p List.mem_cons_self) u1
        rw [arcV_of w1, ha] at q
        have q : ¬ ((w : Int) + p.2).toNat ≤ a := q
        omega
    · have ez : z i = lfp S i := if_neg e
      rw [ez]
      exact leA_trans (val_mono hzle F) (lfp_high S i F hF)
  obtain ⟨a, b, ha, hb, hlt⟩ := lack_pos hpos
  have hda : a = b + d := by
    have : d = a - b := lack_of ha hb
    omega
  have q := lfp_le hz i0
  rw [z_in i0 a b ha hb hda, ha] at q
  have q : a ≤ a - 1 := q
  omega
/-- where another arc is told the amount becomes greater -/
theorem Better.greater {S T : List Fm} (B : Better S T) {i : Nat} {F G : Fm} (hF : S[i]? = some F) (hG : T[i]? = some G) (h : F ≠ G) : ¬ leA (lfp T i) (lfp S i) := by
  rcases B.same i F G hF hG with q | ⟨⟨p, ep⟩, q⟩
  · exact absurd q h
  · subst ep
    intro hle
    refine q (leA_trans ?_ hle)
    rw [← lfp_eq hG]
    have wG := B.wf2 i _ hG
    rw [B.len] at wG
    rw [gst1, gst1]
    exact shA_mono _ (B.grows _ (wG.2 p List.mem_cons_self))
end CS
namespace CS
/-! ### circles of a weight below 0 (mirror of circle_below) -/
structure BF where
  dues : List Int
  steps : List (Option Arc)
  last : Option Nat
def due (st : BF) (v : Nat) : Int := st.dues.getD v 0
def stp (st : BF) (v : Nat) : Option Arc := st.steps.getD v none
def bfArc (w : Int → Int) (cell : Nat) (st : BF) (p : Arc) : BF :=
  if due st p.1 + w p.2 < due st cell then ⟨st.dues.set cell (due st p.1 + w p.2), st.steps.set cell (some p), some cell⟩ else st
def bfCell (w : Int → Int) (arcs : List (List Arc)) (st : BF) (cell : Nat) : BF := (arcs.getD cell []).foldl (bfArc w cell) st
def bfPass (w : Int → Int) (arcs : List (List Arc)) (st : BF) : BF := (List.range arcs.length).foldl (bfCell w arcs) { st with last := none }
def bfPasses (w : Int → Int) (arcs : List (List Arc)) : Nat → BF → Option BF
  | 0, st => some st
  | k + 1, st => if (bfPass w arcs st).last = none then none else bfPasses w arcs k (bfPass w arcs st)
def bfInit (n : Nat) : BF := ⟨List.replicate n 0, List.replicate n none, none⟩
def walkBack (steps : List (Option Arc)) : Nat → Nat → Option Nat
  | 0, l => some l
  | k + 1, l => match steps.getD l none with
    | none => none
    | some p => walkBack steps k p.1
def ringFrom (steps : List (Option Arc)) (last : Nat) : Nat → Nat → Option (List Arc)
  | 0, _ => none
  | k + 1, c => match steps.getD c none with
    | none => none
    | some p => if p.1 = last then some [(c, p.2)] else (ringFrom steps last k p.1).map fun r => (c, p.2) :: r
/-- outside none: it does not come to an end; inside none: no circle -/
def circleBelow (w : Int → Int) (arcs : List (List Arc)) : Option (Option (List Arc)) :=
  match bfPasses w arcs (arcs.length + 1) (bfInit arcs.length) with
  | none => some none
  | some st => match st.last with
    | none => none
    | some l => match walkBack st.steps arcs.length l with
      | none => none
      | some c => (ringFrom st.steps c arcs.length c).map some

def ArcsIn (arcs : List (List Arc)) : Prop := ∀ v, ∀ p ∈ arcs.getD v [], p.1 < arcs.length
theorem getD_set_same {α : Type} {l : List α} {i : Nat} {a d : α} (h : i < l.length) : (l.set i a).getD i d = a := by
  rw [List.getD_eq_getElem?_getD, List.getElem?_set_self h]
  rfl
theorem getD_set_ne {α : Type} {l : List α} {i j : Nat} {a d : α} (h : j ≠ i) : (l.set i a).getD j d = l.getD j d := by
  rw [List.getD_eq_getElem?_getD, List.getElem?_set_ne (Ne.symm h), ← List.getD_eq_getElem?_getD]
section
variable {w : Int → Int} {arcs : List (List Arc)}
/-- what holds between two steps: dues agree with steps, and who was set last -/
structure BFok (w : Int → Int) (arcs : List (List Arc)) (st : BF) (T : Nat) (tm : Nat → Nat) : Prop where
  l1 : st.dues.length = arcs.length
  l2 : st.steps.length = arcs.length
  arc : ∀ v p, stp st v = some p → v < arcs.length ∧ p ∈ arcs.getD v [] ∧ (due st p.1 + w p.2 < due st v ∨ (due st v = due st p.1 + w p.2 ∧ tm p.1 < tm v))
  nil : ∀ v, stp st v = none → due st v = 0
  tm_lt : ∀ v, tm v < T
  lst : ∀ l, st.last = some l → l < arcs.length ∧ stp st l ≠ none
def BFinv (w : Int → Int) (arcs : List (List Arc)) (st : BF) : Prop := ∃ T tm, BFok w arcs st T tm
theorem bf_init : BFinv w arcs (bfInit arcs.length) := by
  refine ⟨1, fun _ => 0, ⟨List.length_replicate, List.length_replicate, fun v p h => ?_, fun v _ => ?_, fun _ => Nat.zero_lt_one, fun l h => nomatch h⟩⟩
  · unfold stp bfInit at h
    rw [List.getD_eq_getElem?_getD] at h
    by_cases hv : v < arcs.length
    · rw [List.getElem?_replicate_of_lt hv] at h
      cases h
    · rw [List.getElem?_eq_none (by rw [List.length_replicate]; omega)] at h
      cases h
  · unfold due bfInit
    rw [List.getD_eq_getElem?_getD]
    by_cases hv : v < arcs.length
    · rw [List.getElem?_replicate_of_lt hv]
      rfl
    · rw [List.getElem?_eq_none (by rw [List.length_replicate]; omega)]
      rfl
/-- the state of a pass, beside that at its start -/
structure InPass (w : Int → Int) (arcs : List (List Arc)) (s0 st : BF) : Prop where
  inv : BFinv w arcs st
  le : ∀ v, due st v ≤ due s0 v
  chg : ∀ l, st.last = some l → due st l < due s0 l
  idle : st.last = none → st.dues = s0.dues ∧ st.steps = s0.steps
theorem bfArc_ok {s0 st : BF} {cell : Nat} {p : Arc} (hA : ArcsIn arcs) (h : InPass w arcs s0 st) (hp : p ∈ arcs.getD cell []) (hc : cell < arcs.length) :
    InPass w arcs s0 (bfArc w cell st p) ∧ due (bfArc w cell st p) cell ≤ due s0 p.1 + w p.2 ∧ ∀ v, due (bfArc w cell st p) v ≤ due st v := by
  obtain ⟨T, tm, I⟩ := h.inv
  have hp1 := hA cell p hp
  by_cases c : due st p.1 + w p.2 < due st cell
  · have e : bfArc w cell st p = ⟨st.dues.set cell (due st p.1 + w p.2), st.steps.set cell (some p), some cell⟩ := if_pos c
    rw [e]
    have d_same : due ⟨st.dues.set cell (due st p.1 + w p.2), st.steps.set cell (some p), some cell⟩ cell = due st p.1 + w p.2 := getD_set_same (by rw [I.l1]; exact hc)
    have d_ne : ∀ v, v ≠ cell → due ⟨st.dues.set cell (due st p.1 + w p.2), st.steps.set cell (some p), some cell⟩ v = due st v := fun v hv => getD_set_ne hv
    have s_same : stp ⟨st.dues.set cell (due st p.1 + w p.2), st.steps.set cell (some p), some cell⟩ cell = some p := getD_set_same (by rw [I.l2]; exact hc)
    have s_ne : ∀ v, v ≠ cell → stp ⟨st.dues.set cell (due st p.1 + w p.2), st.steps.set cell (some p), some cell⟩ v = stp st v := fun v hv => getD_set_ne hv
    generalize (⟨st.dues.set cell (due st p.1 + w p.2), st.steps.set cell (some p), some cell⟩ : BF) = s2 at d_same d_ne s_same s_ne e ⊢
    have hle : ∀ v, due s2 v ≤ due st v := fun v => by
      by_cases hv : v = cell
      · subst hv
        omega
      · rw [d_ne v hv]
        exact Int.le_refl _
    have hlast : s2.last = some cell := by rw [← e]; unfold bfArc; rw [if_pos c]
    have hl1 : s2.dues.length = arcs.length := by rw [← e]; unfold bfArc; rw [if_pos c, ← I.l1]; exact List.length_set
    have hl2 : s2.steps.length = arcs.length := by rw [← e]; unfold bfArc; rw [if_pos c, ← I.l2]; exact List.length_set
    refine ⟨⟨⟨T + 1, fun v => if v = cell then T else tm v, ⟨hl1, hl2, fun v q hq => ?_, fun v hv => ?_, fun v => ?_, fun l hl => ?_⟩⟩, fun v => Int.le_trans (hle v) (h.le v), fun l hl => ?_, fun z => ?_⟩, ?_, hle⟩
    · by_cases hv : v = cell
      · subst hv
        rw [s_same] at hq
        have hq := Option.some.inj hq
        subst hq
        refine ⟨hc, hp, ?_⟩
        by_cases hself : p.1 = v
        · rw [hself, d_same]
          rw [hself] at c
          left
          rw [hself]
          omega
        · right
          rw [d_ne _ hself, d_same]
          refine ⟨rfl, ?_⟩
          show (if p.1 = v then T else tm p.1) < (if v = v then T else tm v)
          rw [if_neg hself, if_pos rfl]
          exact I.tm_lt _
      · rw [s_ne v hv] at hq
        obtain ⟨h1, h2, h3⟩ := I.arc v q hq
        refine ⟨h1, h2, ?_⟩
        rw [d_ne v hv]
        by_cases hq1 : q.1 = cell
        · left
          rw [hq1, d_same]
          rw [hq1] at h3
          rcases h3 with h3 | h3 <;> omega
        · rw [d_ne _ hq1]
          rcases h3 with h3 | ⟨h3, h4⟩
          · exact .inl h3
          · right
            refine ⟨h3, ?_⟩
            show (if q.1 = cell then T else tm q.1) < (if v = cell then T else tm v)
            rw [if_neg hq1, if_neg hv]
            exact h4
    · by_cases hv2 : v = cell
      · subst hv2
        rw [s_same] at hv
        cases hv
      · rw [d_ne v hv2]
        rw [s_ne v hv2] at hv
        exact I.nil v hv
    · show (if v = cell then T else tm v) < T + 1
      have := I.tm_lt v
      split <;> omega
    · rw [hlast] at hl
      cases hl
      refine ⟨hc, ?_⟩
      rw [s_same]
      exact fun z => nomatch z
    · rw [hlast] at hl
      cases hl
      have := h.le cell
      omega
    · rw [hlast] at z
      cases z
    · have := h.le p.1
      omega
  · have e : bfArc w cell st p = st := if_neg c
    rw [e]
    refine ⟨h, ?_, fun v => Int.le_refl _⟩
    have := h.le p.1
    omega
theorem bfCell_ok {s0 : BF} {cell : Nat} (hA : ArcsIn arcs) (hc : cell < arcs.length) : ∀ (ps : List Arc) (st : BF), (∀ p ∈ ps, p ∈ arcs.getD cell []) → InPass w arcs s0 st →
    InPass w arcs s0 (ps.foldl (bfArc w cell) st) ∧ (∀ p ∈ ps, due (ps.foldl (bfArc w cell) st) cell ≤ due s0 p.1 + w p.2) ∧ ∀ v, due (ps.foldl (bfArc w cell) st) v ≤ due st v
  | [], st, _, h => ⟨h, fun p hp => (List.not_mem_nil hp).elim, fun v => Int.le_refl _⟩
  | p :: ps, st, hm, h => by
    obtain ⟨h1, h2, h3⟩ := bfArc_ok hA h (hm p List.mem_cons_self) hc
    obtain ⟨k1, k2, k3⟩ := bfCell_ok hA hc ps (bfArc w cell st p) (fun q hq => hm q (List.mem_cons_of_mem _ hq)) h1
    refine ⟨k1, fun q hq => ?_, fun v => Int.le_trans (k3 v) (h3 v)⟩
    rcases List.mem_cons.mp hq with e | e
    · rw [e]
      exact Int.le_trans (k3 cell) h2
    · exact k2 q e
theorem bfCells_ok {s0 : BF} (hA : ArcsIn arcs) : ∀ (cs : List Nat) (st : BF), (∀ c ∈ cs, c < arcs.length) → InPass w arcs s0 st →
    InPass w arcs s0 (cs.foldl (bfCell w arcs) st) ∧ (∀ c ∈ cs, ∀ p ∈ arcs.getD c [], due (cs.foldl (bfCell w arcs) st) c ≤ due s0 p.1 + w p.2) ∧ ∀ v, due (cs.foldl (bfCell w arcs) st) v ≤ due st v
  | [], st, _, h => ⟨h, fun p hp => (List.not_mem_nil hp).elim, fun v => Int.le_refl _⟩
  | c :: cs, st, hm, h => by
    obtain ⟨h1, h2, h3⟩ := bfCell_ok (w := w) (s0 := s0) hA (hm c List.mem_cons_self) (arcs.getD c []) st (fun p hp => hp) h
    obtain ⟨k1, k2, k3⟩ := bfCells_ok hA cs (bfCell w arcs st c) (fun q hq => hm q (List.mem_cons_of_mem _ hq)) h1
    refine ⟨k1, fun q hq p hp => ?_, fun v => Int.le_trans (k3 v) (h3 v)⟩
    rcases List.mem_cons.mp hq with e | e
    · subst e
      exact Int.le_trans (k3 q) (h2 p hp)
    · exact k2 q e p hp
theorem bfPass_ok {s0 : BF} (hA : ArcsIn arcs) (h : BFinv w arcs s0) :
    InPass w arcs s0 (bfPass w arcs s0) ∧ ∀ v, v < arcs.length → ∀ p ∈ arcs.getD v [], due (bfPass w arcs s0) v ≤ due s0 p.1 + w p.2 := by
  obtain ⟨T, tm, I⟩ := h
  obtain ⟨h1, h2, _⟩ := bfCells_ok (w := w) (s0 := s0) hA (List.range arcs.length) { s0 with last := none } (fun c hc => List.mem_range.mp hc)
    ⟨⟨T, tm, ⟨I.l1, I.l2, I.arc, I.nil, I.tm_lt, fun l hl => nomatch hl⟩⟩, fun v => Int.le_refl _, fun l hl => (nomatch hl), fun _ => ⟨rfl, rfl⟩⟩
  exact ⟨h1, fun v hv p hp => h2 v (List.mem_range.mpr hv) p hp⟩
/-- the weights of walks of so many arcs that begin at a cell -/
def WalkW (w : Int → Int) (arcs : List (List Arc)) : Nat → Nat → Int → Prop
  | 0, _, W => W = 0
  | k + 1, v, W => ∃ p ∈ arcs.getD v [], ∃ W', WalkW w arcs k p.1 W' ∧ W = w p.2 + W'
/-- dues are at most the weights of all walks of at most r arcs -/
def Below (w : Int → Int) (arcs : List (List Arc)) (st : BF) (r : Nat) : Prop := ∀ k, k ≤ r → ∀ v W, v < arcs.length → WalkW w arcs k v W → due st v ≤ W
theorem below_pass {s0 : BF} {r : Nat} (hA : ArcsIn arcs) (h : BFinv w arcs s0) (b : Below w arcs s0 r) : Below w arcs (bfPass w arcs s0) (r + 1) := by
  obtain ⟨h1, h2⟩ := bfPass_ok hA h
  intro k hk v W hv hW
  cases k with
  | zero =>
    have := b 0 (Nat.zero_le _) v W hv hW
    exact Int.le_trans (h1.le v) this
  | succ k =>
    obtain ⟨p, hp, W', hW', e⟩ := hW
    have q1 := h2 v hv p hp
    have q2 := b k (by omega) p.1 W' (hA v p hp) hW'
    omega
/-- the passes: either the last one changes nothing, or the state is one behind a pass that changed something -/
theorem bfPasses_ok (hA : ArcsIn arcs) : ∀ (k r : Nat) (st : BF), BFinv w arcs st → Below w arcs st r →
    (bfPasses w arcs k st = none ∧ ∃ d : Nat → Int, ∀ v, v < arcs.length → ∀ p ∈ arcs.getD v [], d v ≤ d p.1 + w p.2) ∨
    ∃ s2, bfPasses w arcs k st = some s2 ∧ BFinv w arcs s2 ∧ (k = 0 ∧ s2 = st ∨ ∃ s1 l, Below w arcs s1 (r + k - 1) ∧ s2.last = some l ∧ due s2 l < due s1 l)
  | 0, r, st, h, b => .inr ⟨st, rfl, h, .inl ⟨rfl, rfl⟩⟩
  | k + 1, r, st, h, b => by
    obtain ⟨h1, h2⟩ := bfPass_ok hA h
    cases hl : (bfPass w arcs st).last with
    | none =>
      left
      refine ⟨by unfold bfPasses; rw [if_pos hl], due st, fun v hv p hp => ?_⟩
      have e := (h1.idle hl).1
      have q := h2 v hv p hp
      have e2 : due (bfPass w arcs st) v = due st v := by unfold due; rw [e]
      omega
    | some l =>
      have e : bfPasses w arcs (k + 1) st = bfPasses w arcs k (bfPass w arcs st) := by
        show (if (bfPass w arcs st).last = none then none else bfPasses w arcs k (bfPass w arcs st)) = _
        rw [hl, if_neg (fun z => nomatch z)]
      rw [e]
      rcases bfPasses_ok hA k (r + 1) (bfPass w arcs st) h1.inv (below_pass hA h b) with q | ⟨s2, e2, i2, q⟩
      · exact .inl q
      · refine .inr ⟨s2, e2, i2, .inr ?_⟩
        rcases q with ⟨k0, es⟩ | ⟨s1, l', b1, l1, d1⟩
        · subst k0 es
          exact ⟨st, l, by simpa using b, hl, h1.chg l hl⟩
        · exact ⟨s1, l', by rw [show r + (k + 1) - 1 = r + 1 + k - 1 by omega]; exact b1, l1, d1⟩
/-- arcs one behind another -/
def Chain (arcs : List (List Arc)) : Nat → List Arc → Nat → Prop
  | a, [], b => a = b
  | a, q :: r, b => q.1 = a ∧ ∃ t, (t, q.2) ∈ arcs.getD a [] ∧ Chain arcs t r b
def wsum (w : Int → Int) (r : List Arc) : Int := (r.map fun q => w q.2).sum
theorem wsum_cons (q : Arc) (r : List Arc) : wsum w (q :: r) = w q.2 + wsum w r := by
  unfold wsum
  rw [List.map_cons, List.sum_cons]
/-- where the steps lead -/
def nxt (st : BF) (v : Nat) : Nat := match stp st v with
  | some p => p.1
  | none => v
def iter (f : Nat → Nat) : Nat → Nat → Nat
  | 0, v => v
  | k + 1, v => iter f k (f v)
theorem iter_add (f : Nat → Nat) : ∀ (a b v : Nat), iter f (a + b) v = iter f b (iter f a v)
  | 0, b, v => by rw [Nat.zero_add]; rfl
  | a + 1, b, v => by
    rw [show a + 1 + b = (a + b) + 1 by omega]
    exact iter_add f a b (f v)
theorem nxt_of {st : BF} {v : Nat} {p : Arc} (h : stp st v = some p) : nxt st v = p.1 := by
  unfold nxt
  rw [h]
theorem walk_stuck {st : BF} (hI : BFinv w arcs st) : ∀ (k l : Nat), (∀ j, j < k → stp st (iter (nxt st) j l) ≠ none) → ∃ W, WalkW w arcs k l W ∧ W + due st (iter (nxt st) k l) ≤ due st l
  | 0, l, _ => ⟨0, rfl, by show 0 + due st l ≤ due st l; omega⟩
  | k + 1, l, h => by
    obtain ⟨T, tm, I⟩ := hI
    cases hp : stp st l with
    | none => exact absurd hp (h 0 (Nat.zero_lt_succ _))
    | some p =>
      have en := nxt_of hp
      obtain ⟨h1, h2, h3⟩ := I.arc l p hp
      obtain ⟨W, w1, w2⟩ := walk_stuck ⟨T, tm, I⟩ k p.1 (fun j hj => by
        have q := h (j + 1) (by omega)
        have e : iter (nxt st) (j + 1) l = iter (nxt st) j p.1 := by
          show iter (nxt st) j (nxt st l) = _
          rw [en]
        rw [e] at q
        exact q)
      refine ⟨w p.2 + W, ⟨p, h2, W, w1, rfl⟩, ?_⟩
      have e : iter (nxt st) (k + 1) l = iter (nxt st) k p.1 := by
        show iter (nxt st) k (nxt st l) = _
        rw [en]
      rw [e]
      rcases h3 with h3 | h3 <;> omega
theorem walkBack_of {st : BF} : ∀ (k l : Nat), (∀ j, j < k → stp st (iter (nxt st) j l) ≠ none) → walkBack st.steps k l = some (iter (nxt st) k l)
  | 0, l, _ => rfl
  | k + 1, l, h => by
    cases hp : stp st l with
    | none => exact absurd hp (h 0 (Nat.zero_lt_succ _))
    | some p =>
      have en := nxt_of hp
      show (match stp st l with | none => none | some p => walkBack st.steps k p.1) = some (iter (nxt st) k (nxt st l))
      rw [hp, en]
      exact walkBack_of k p.1 (fun j hj => by
        have q := h (j + 1) (by omega)
        have e : iter (nxt st) (j + 1) l = iter (nxt st) j p.1 := by
          show iter (nxt st) j (nxt st l) = _
          rw [en]
        rw [e] at q
        exact q)
theorem ringFrom_of {st : BF} {T : Nat} {tm : Nat → Nat} {last : Nat} (I : BFok w arcs st T tm) : ∀ (fuel k c : Nat), k < fuel → iter (nxt st) (k + 1) c = last → (∀ j, j ≤ k → stp st (iter (nxt st) j c) ≠ none) →
    ∃ r, ringFrom st.steps last fuel c = some r ∧ r ≠ [] ∧ r.length ≤ k + 1 ∧ Chain arcs c r last ∧ (due st last + wsum w r < due st c ∨ (due st c = due st last + wsum w r ∧ tm last < tm c))
  | 0, k, c, h, _, _ => absurd h (Nat.not_lt_zero _)
  | fuel + 1, k, c, hk, hl, hs => by
    cases hp : stp st c with
    | none => exact absurd hp (hs 0 (Nat.zero_le _))
    | some p =>
      have en := nxt_of hp
      obtain ⟨h1, h2, h3⟩ := I.arc c p hp
      have eR : ringFrom st.steps last (fuel + 1) c = if p.1 = last then some [(c, p.2)] else (ringFrom st.steps last fuel p.1).map fun r => (c, p.2) :: r := by
        show (match stp st c with | none => none | some p => if p.1 = last then some [(c, p.2)] else (ringFrom st.steps last fuel p.1).map fun r => (c, p.2) :: r) = _
        rw [hp]
      rw [eR]
      by_cases e : p.1 = last
      · rw [if_pos e]
        refine ⟨_, rfl, List.cons_ne_nil _ _, by show 0 + 1 ≤ k + 1; omega, ⟨rfl, p.1, h2, e⟩, ?_⟩
        have ew : wsum w [(c, p.2)] = w p.2 := by
          rw [wsum_cons]
          show w p.2 + 0 = w p.2
          omega
        rw [ew, ← e]
        exact h3
      · rw [if_neg e]
        have step : ∀ j, iter (nxt st) (j + 1) c = iter (nxt st) j p.1 := fun j => by
          show iter (nxt st) j (nxt st c) = _
          rw [en]
        cases k with
        | zero =>
          rw [step 0] at hl
          exact absurd hl e
        | succ k =>
          rw [step (k + 1)] at hl
          obtain ⟨r, r1, r2, r3, r4, r5⟩ := ringFrom_of I fuel k p.1 (by omega) hl (fun j hj => by rw [← step j]; exact hs (j + 1) (by omega))
          rw [r1]
          refine ⟨_, rfl, List.cons_ne_nil _ _, by show r.length + 1 ≤ k + 1 + 1; omega, ⟨rfl, p.1, h2, r4⟩, ?_⟩
          rw [wsum_cons]
          show due st last + (w p.2 + wsum w r) < due st c ∨ (due st c = due st last + (w p.2 + wsum w r) ∧ tm last < tm c)
          rcases h3 with h3 | ⟨h3, h4⟩
          · left
            rcases r5 with r5 | ⟨r5, _⟩ <;> omega
          · rcases r5 with r5 | ⟨r5, r6⟩
            · left
              omega
            · right
              exact ⟨by omega, by omega⟩
/-- what circle_below answers -/
theorem circleBelow_ok (hA : ArcsIn arcs) :
    (circleBelow w arcs = some none ∧ ∃ d : Nat → Int, ∀ v, v < arcs.length → ∀ p ∈ arcs.getD v [], d v ≤ d p.1 + w p.2) ∨
    ∃ r c, circleBelow w arcs = some (some r) ∧ r ≠ [] ∧ r.length ≤ arcs.length ∧ Chain arcs c r c ∧ wsum w r < 0 := by
  have b0 : Below w arcs (bfInit arcs.length) 0 := by
    intro k hk v W hv hW
    have : k = 0 := by omega
    subst this
    have hW : W = 0 := hW
    obtain ⟨T, tm, I⟩ := (bf_init (w := w) (arcs := arcs))
    cases hs : stp (bfInit arcs.length) v with
    | none =>
      have := I.nil v hs
      omega
    | some p =>
      unfold stp bfInit at hs
      rw [List.getD_eq_getElem?_getD, List.getElem?_replicate_of_lt hv] at hs
      cases hs
  rcases bfPasses_ok hA (arcs.length + 1) 0 _ (bf_init (w := w) (arcs := arcs)) b0 with ⟨e, q⟩ | ⟨s2, e, i2, q⟩
  · left
    refine ⟨?_, q⟩
    unfold circleBelow
    rw [e]
  · right
    rcases q with ⟨z, _⟩ | ⟨s1, l, b1, hl, hd⟩
    · omega
    · rw [show 0 + (arcs.length + 1) - 1 = arcs.length by omega] at b1
      obtain ⟨T, tm, I⟩ := i2
      have hl1 := (I.lst l hl).1
      -- along the steps no cell without a step is met
      have some_ : ∀ k, k ≤ arcs.length → stp s2 (iter (nxt s2) k l) ≠ none := by
        intro k
        induction k using Nat.strongRecOn with
        | ind k ih =>
          intro hk z
          obtain ⟨W, w1, w2⟩ := walk_stuck ⟨T, tm, I⟩ k l (fun j hj => ih j hj (by omega))
          have z2 := I.nil _ z
          have := b1 k hk l W hl1 w1
          omega
      have in_ : ∀ k, k ≤ arcs.length → iter (nxt s2) k l < arcs.length := fun k hk => by
        cases hp : stp s2 (iter (nxt s2) k l) with
        | none => exact absurd hp (some_ k hk)
        | some p => exact (I.arc _ p hp).1
      obtain ⟨a, b, hab, hb, eab⟩ := php arcs.length (fun k => iter (nxt s2) k l) in_
      have eab : iter (nxt s2) a l = iter (nxt s2) b l := eab
      -- all cells behind the place a are among those between a and b
      have clo : ∀ j, ∃ k, a ≤ k ∧ k < b ∧ iter (nxt s2) (a + j) l = iter (nxt s2) k l := by
        intro j
        induction j with
        | zero => exact ⟨a, Nat.le_refl _, hab, rfl⟩
        | succ j ih =>
          obtain ⟨k, k1, k2, k3⟩ := ih
          have e1 : iter (nxt s2) (a + (j + 1)) l = iter (nxt s2) (k + 1) l := by
            rw [show a + (j + 1) = (a + j) + 1 by omega, iter_add _ (a + j) 1, iter_add _ k 1, k3]
          by_cases z : k + 1 = b
          · exact ⟨a, Nat.le_refl _, hab, by rw [e1, z, eab]⟩
          · exact ⟨k + 1, by omega, by omega, e1⟩
      let c := iter (nxt s2) arcs.length l
      have per : iter (nxt s2) (b - a) c = c := by
        show iter (nxt s2) (b - a) (iter (nxt s2) arcs.length l) = iter (nxt s2) arcs.length l
        rw [← iter_add, show arcs.length + (b - a) = b + (arcs.length - a) by omega, iter_add _ b, ← eab, ← iter_add, show a + (arcs.length - a) = arcs.length by omega]
      have hc : ∀ j, stp s2 (iter (nxt s2) j c) ≠ none := fun j => by
        obtain ⟨k, k1, k2, k3⟩ := clo (arcs.length - a + j)
        have e1 : iter (nxt s2) j c = iter (nxt s2) (a + (arcs.length - a + j)) l := by
          show iter (nxt s2) j (iter (nxt s2) arcs.length l) = _
          rw [← iter_add]
          congr 1
          omega
        rw [e1, k3]
        exact some_ k (by omega)
      obtain ⟨r, r1, r2, r3, r4, r5⟩ := ringFrom_of I (last := c) arcs.length (b - a - 1) c (by omega) (by rw [show b - a - 1 + 1 = b - a by omega]; exact per) (fun j _ => hc j)
      refine ⟨r, c, ?_, r2, by omega, r4, ?_⟩
      · unfold circleBelow
        rw [e]
        show (match s2.last with | none => none | some l => _) = _
        rw [hl]
        show (match walkBack s2.steps arcs.length l with | none => none | some c => _) = _
        rw [walkBack_of arcs.length l (fun j hj => some_ j (by omega))]
        show (ringFrom s2.steps c arcs.length c).map some = _
        rw [r1]
        rfl
      · rcases r5 with r5 | ⟨_, r5⟩ <;> omega
end
end CS
namespace CS
/-! ### rounds_down -/
def at_ (x : List Am) : Vec := fun i => x.getD i none
def rdArc (cell : Nat) (st : List Am) (p : Arc) : List Am := if leA (arcV (at_ st) p) (at_ st cell) then st.set cell (arcV (at_ st) p) else st
def rdCell (S : List Fm) (arcs : List (List Arc)) (nts : List Nat) (st : List Am) (cell : Nat) : List Am :=
  if cell ∈ nts then st.set cell (some 0) else match S[cell]? with
    | some (.amt a) => st.set cell a
    | _ => (arcs.getD cell []).foldl (rdArc cell) st
def rdRound (S : List Fm) (arcs : List (List Arc)) (nts : List Nat) (st : List Am) : List Am := (List.range S.length).foldl (rdCell S arcs nts) st
def rdRounds (S : List Fm) (arcs : List (List Arc)) (nts : List Nat) : Nat → List Am → List Am
  | 0, st => st
  | k + 1, st => rdRounds S arcs nts k (rdRound S arcs nts st)
def roundsDown (S : List Fm) (arcs : List (List Arc)) (nts : List Nat) : List Am := rdRounds S arcs nts (S.length + 1) (List.replicate S.length none)
/-- what is found solves this -/
structure Sol (S : List Fm) (arcs : List (List Arc)) (nts : List Nat) (L : Vec) : Prop where
  nought : ∀ i ∈ nts, L i = some 0
  amt : ∀ (i : Nat) (a : Am), S[i]? = some (.amt a) → i ∉ nts → L i = a
  arc : ∀ i, i < S.length → i ∉ nts → (∀ a, S[i]? ≠ some (.amt a)) → L i = minOf ((arcs.getD i []).map (arcV L))
/-- .. and potentials for the arcs that are open -/
def Pot (S : List Fm) (arcs : List (List Arc)) (nts : List Nat) (d : Nat → Int) : Prop := ∀ i, i < S.length → i ∉ nts → (∀ a, S[i]? ≠ some (.amt a)) → ∀ p ∈ arcs.getD i [], d i ≤ d p.1 + ((S.length : Int) * p.2 - 1)
theorem at_set_same {x : List Am} {i : Nat} {v : Am} (h : i < x.length) : at_ (x.set i v) i = v := getD_set_same h
theorem at_set_ne {x : List Am} {i j : Nat} {v : Am} (h : j ≠ i) : at_ (x.set i v) j = at_ x j := getD_set_ne h
section
variable {S : List Fm} {arcs : List (List Arc)} {nts : List Nat} {L : Vec}
structure RdInv (n : Nat) (L : Vec) (s0 st : List Am) : Prop where
  len : st.length = n
  ge : leV L (at_ st)
  le : leV (at_ st) (at_ s0)
theorem rdArc_ok {n cell : Nat} {s0 st : List Am} {p : Arc} (hc : cell < n) (h : RdInv n L s0 st) (hL : leA (L cell) (arcV L p)) : RdInv n L s0 (rdArc cell st p) ∧ leA (at_ (rdArc cell st p) cell) (arcV (at_ s0) p) ∧ leV (at_ (rdArc cell st p)) (at_ st) := by
  by_cases c : leA (arcV (at_ st) p) (at_ st cell)
  · have e : rdArc cell st p = st.set cell (arcV (at_ st) p) := if_pos c
    rw [e]
    have hl : cell < st.length := by rw [h.len]; exact hc
    have sm := at_set_same (v := arcV (at_ st) p) hl
    have le1 : leV (at_ (st.set cell (arcV (at_ st) p))) (at_ st) := fun i => by
      by_cases hi : i = cell
      · subst hi
        rw [sm]
        exact c
      · rw [at_set_ne hi]
        exact leA_refl _
    refine ⟨⟨by rw [List.length_set, h.len], fun i => ?_, leV.trans le1 h.le⟩, ?_, le1⟩
    · by_cases hi : i = cell
      · subst hi
        rw [sm]
        exact leA_trans hL (arcV_mono h.ge p)
      · rw [at_set_ne hi]
        exact h.ge i
    · rw [sm]
      exact arcV_mono h.le p
  · have e : rdArc cell st p = st := if_neg c
    rw [e]
    exact ⟨h, leA_trans (not_leA c) (arcV_mono h.le p), fun i => leA_refl _⟩
theorem rdArcs_ok {n cell : Nat} {s0 : List Am} (hc : cell < n) : ∀ (ps : List Arc) (st : List Am), (∀ p ∈ ps, leA (L cell) (arcV L p)) → RdInv n L s0 st →
    RdInv n L s0 (ps.foldl (rdArc cell) st) ∧ (∀ p ∈ ps, leA (at_ (ps.foldl (rdArc cell) st) cell) (arcV (at_ s0) p)) ∧ leV (at_ (ps.foldl (rdArc cell) st)) (at_ st)
  | [], st, _, h => ⟨h, fun p hp => (List.not_mem_nil hp).elim, fun i => leA_refl _⟩
  | p :: ps, st, hL, h => by
    obtain ⟨h1, h2, h3⟩ := rdArc_ok hc h (hL p List.mem_cons_self)
    obtain ⟨k1, k2, k3⟩ := rdArcs_ok hc ps (rdArc cell st p) (fun q hq => hL q (List.mem_cons_of_mem _ hq)) h1
    refine ⟨k1, fun q hq => ?_, leV.trans k3 h3⟩
    rcases List.mem_cons.mp hq with e | e
    · rw [e]
      exact leA_trans (k3 cell) h2
    · exact k2 q e
/-- what a cell's turn brings -/
def Done (S : List Fm) (arcs : List (List Arc)) (nts : List Nat) (s0 st : List Am) (c : Nat) : Prop :=
  (c ∈ nts → at_ st c = some 0) ∧ (∀ a, S[c]? = some (.amt a) → c ∉ nts → at_ st c = a) ∧ (c ∉ nts → (∀ a, S[c]? ≠ some (.amt a)) → ∀ p ∈ arcs.getD c [], leA (at_ st c) (arcV (at_ s0) p))
theorem rdCell_ok {s0 st : List Am} {c : Nat} (hc : c < S.length) (hS : Sol S arcs nts L) (h : RdInv S.length L s0 st) (hle : ∀ i ∈ nts, leA (some 0) (at_ s0 i)) (ha : ∀ (i : Nat) (a : Am), S[i]? = some (.amt a) → i ∉ nts → leA a (at_ st i)) :
    RdInv S.length L s0 (rdCell S arcs nts st c) ∧ Done S arcs nts s0 (rdCell S arcs nts st c) c ∧ leV (at_ (rdCell S arcs nts st c)) (at_ st) := by
  have hl : c < st.length := by rw [h.len]; exact hc
  -- a cell that gets an amount of the solution
  have put : ∀ v, L c = v → RdInv S.length L s0 (st.set c v) ∧ leV (at_ (st.set c v)) (at_ st) := fun v hv => by
    have le1 : leV (at_ (st.set c v)) (at_ st) := fun i => by
      by_cases hi : i = c
      · subst hi
        rw [at_set_same hl, ← hv]
        exact h.ge i
      · rw [at_set_ne hi]
        exact leA_refl _
    refine ⟨⟨by rw [List.length_set, h.len], fun i => ?_, leV.trans le1 h.le⟩, le1⟩
    by_cases hi : i = c
    · subst hi
      rw [at_set_same hl, hv]
      exact leA_refl _
    · rw [at_set_ne hi]
      exact h.ge i
  by_cases hn : c ∈ nts
  · have e : rdCell S arcs nts st c = st.set c (some 0) := if_pos hn
    rw [e]
    obtain ⟨p1, p2⟩ := put (some 0) (hS.nought c hn)
    exact ⟨p1, ⟨fun _ => at_set_same hl, fun a _ z => absurd hn z, fun z => absurd hn z⟩, p2⟩
  · by_cases hm : ∃ a, S[c]? = some (.amt a)
    · obtain ⟨a, hm⟩ := hm
      have e : rdCell S arcs nts st c = st.set c a := by
        unfold rdCell
        rw [if_neg hn, hm]
      rw [e]
      obtain ⟨p1, p2⟩ := put a (hS.amt c a hm hn)
      refine ⟨p1, ⟨fun z => absurd z hn, fun b hb _ => ?_, fun _ z => absurd hm (z a)⟩, p2⟩
      rw [hm] at hb
      cases hb
      exact at_set_same hl
    · have hm2 : ∀ a, S[c]? ≠ some (.amt a) := fun a z => hm ⟨a, z⟩
      have e : rdCell S arcs nts st c = (arcs.getD c []).foldl (rdArc c) st := by
        unfold rdCell
        rw [if_neg hn]
        split
        · rename_i a z
          exact absurd z (hm2 a)
        · rfl
      rw [e]
      have hL := hS.arc c hc hn hm2
      obtain ⟨k1, k2, k3⟩ := rdArcs_ok (L := L) hc (arcs.getD c []) st (fun p hp => by
        rw [hL]
        exact le_minOf.mp (leA_refl _) _ (List.mem_map.mpr ⟨p, hp, rfl⟩)) h
      exact ⟨k1, ⟨fun z => absurd z hn, fun a z _ => absurd z (hm2 a), fun _ _ => k2⟩, k3⟩
theorem sol_amt_ge {st : List Am} (hS : Sol S arcs nts L) (h : leV L (at_ st)) : ∀ (i : Nat) (a : Am), S[i]? = some (.amt a) → i ∉ nts → leA a (at_ st i) := fun i a e hn => by
  rw [← hS.amt i a e hn]
  exact h i
theorem Done.later {s0 st st' : List Am} {c : Nat} (hS : Sol S arcs nts L) (ge : leV L (at_ st')) (le : leV (at_ st') (at_ st)) (d : Done S arcs nts s0 st c) : Done S arcs nts s0 st' c := by
  refine ⟨fun z => ?_, fun a z hn => ?_, fun hn hm p hp => leA_trans (le c) (d.2.2 hn hm p hp)⟩
  · refine leA_antisymm ?_ (leA_zero _)
    rw [← d.1 z]
    exact le c
  · refine leA_antisymm ?_ ?_
    · rw [← d.2.1 a z hn]
      exact le c
    · rw [← hS.amt c a z hn]
      exact ge c
theorem rdCells_ok {s0 : List Am} (hS : Sol S arcs nts L) (hle : ∀ i ∈ nts, leA (some 0) (at_ s0 i)) : ∀ (cs : List Nat) (st : List Am), (∀ c ∈ cs, c < S.length) → RdInv S.length L s0 st →
    RdInv S.length L s0 (cs.foldl (rdCell S arcs nts) st) ∧ (∀ c ∈ cs, Done S arcs nts s0 (cs.foldl (rdCell S arcs nts) st) c) ∧ leV (at_ (cs.foldl (rdCell S arcs nts) st)) (at_ st)
  | [], st, _, h => ⟨h, fun c hc => (List.not_mem_nil hc).elim, fun i => leA_refl _⟩
  | c :: cs, st, hm, h => by
    obtain ⟨h1, h2, h3⟩ := rdCell_ok (hm c List.mem_cons_self) hS h hle (sol_amt_ge hS h.ge)
    obtain ⟨k1, k2, k3⟩ := rdCells_ok hS hle cs (rdCell S arcs nts st c) (fun q hq => hm q (List.mem_cons_of_mem _ hq)) h1
    refine ⟨k1, fun q hq => ?_, leV.trans k3 h3⟩
    rcases List.mem_cons.mp hq with e | e
    · rw [e]
      exact h2.later hS k1.ge k3
    · exact k2 q e
theorem rdRound_ok {st : List Am} (hS : Sol S arcs nts L) (hlen : st.length = S.length) (hge : leV L (at_ st)) :
    RdInv S.length L st (rdRound S arcs nts st) ∧ ∀ c, c < S.length → Done S arcs nts st (rdRound S arcs nts st) c := by
  obtain ⟨h1, h2, _⟩ := rdCells_ok hS (s0 := st) (fun i _ => leA_zero _) (List.range S.length) st (fun c hc => List.mem_range.mp hc) ⟨hlen, hge, fun i => leA_refl _⟩
  exact ⟨h1, fun c hc => h2 c (List.mem_range.mpr hc)⟩
/-! how many cells are not yet as in the solution -/
theorem filter_le {α : Type} {p q : α → Bool} : ∀ {l : List α}, (∀ a ∈ l, p a = true → q a = true) → (l.filter p).length ≤ (l.filter q).length
  | [], _ => Nat.le_refl _
  | c :: l, h => by
    have ih := filter_le (l := l) fun x hx => h x (List.mem_cons_of_mem _ hx)
    rw [List.filter_cons, List.filter_cons]
    have hc := h c List.mem_cons_self
    cases e1 : p c with
    | true =>
      rw [hc e1]
      simp only [if_true, List.length_cons]
      omega
    | false =>
      cases q c <;> simp <;> omega
theorem filter_lt {α : Type} {p q : α → Bool} : ∀ {l : List α}, (∀ a ∈ l, p a = true → q a = true) → (∃ a ∈ l, q a = true ∧ p a = false) → (l.filter p).length < (l.filter q).length
  | [], _, ⟨_, h, _⟩ => (List.not_mem_nil h).elim
  | a :: l, h, ⟨b, hb, hq, hp⟩ => by
    have hle := filter_le (p := p) (q := q) (l := l) fun x hx => h x (List.mem_cons_of_mem _ hx)
    rw [List.filter_cons, List.filter_cons]
    rcases List.mem_cons.mp hb with e | e
    · subst e
      rw [hq, hp]
      simp only [if_true, List.length_cons]
      simp
      omega
    · have ih := filter_lt (p := p) (q := q) (l := l) (fun x hx => h x (List.mem_cons_of_mem _ hx)) ⟨b, e, hq, hp⟩
      cases e1 : p a with
      | true =>
        rw [h a List.mem_cons_self e1]
        simp only [if_true, List.length_cons]
        omega
      | false =>
        cases q a <;> simp <;> omega
noncomputable def offB (L : Vec) (st : List Am) (i : Nat) : Bool := by
  classical exact decide (at_ st i ≠ L i)
noncomputable def offs (S : List Fm) (L : Vec) (st : List Am) : Nat := ((List.range S.length).filter (offB L st)).length
theorem offB_true {L : Vec} {st : List Am} {i : Nat} : offB L st i = true ↔ at_ st i ≠ L i := by
  unfold offB
  exact decide_eq_true_iff
theorem offB_false {L : Vec} {st : List Am} {i : Nat} : offB L st i = false ↔ at_ st i = L i := by
  unfold offB
  rw [decide_eq_false_iff_not]
  exact Classical.not_not
theorem int_least (f : Nat → Int) : ∀ (n : Nat) (P : Nat → Prop), (∃ i, i < n ∧ P i) → ∃ i, i < n ∧ P i ∧ ∀ j, j < n → P j → f i ≤ f j
  | 0, _, ⟨_, h, _⟩ => absurd h (Nat.not_lt_zero _)
  | n + 1, P, ⟨i, h1, h2⟩ => by
    by_cases hn : ∃ i, i < n ∧ P i
    · obtain ⟨k, k1, k2, k3⟩ := int_least f n P hn
      by_cases hc : P n ∧ f n < f k
      · refine ⟨n, by omega, hc.1, fun j hj hP => ?_⟩
        by_cases e : j = n
        · subst e
          exact Int.le_refl _
        · have := k3 j (by omega) hP
          omega
      · refine ⟨k, by omega, k2, fun j hj hP => ?_⟩
        by_cases e : j = n
        · subst e
          exact Int.not_lt.mp fun z => hc ⟨hP, z⟩
        · exact k3 j (by omega) hP
    · have e : i = n := by
        apply Classical.byContradiction
        intro z
        exact hn ⟨i, by omega, h2⟩
      subst e
      refine ⟨i, by omega, h2, fun j hj hP => ?_⟩
      by_cases e : j = i
      · subst e
        exact Int.le_refl _
      · exact absurd ⟨j, by omega, hP⟩ hn
def num (v : Am) : Int := match v with
  | some n => (n : Int)
  | none => 0
theorem rdRound_less {st : List Am} {d : Nat → Int} (hA : ∀ i, ∀ p ∈ arcs.getD i [], p.1 < S.length) (hS : Sol S arcs nts L) (hP : Pot S arcs nts d) (hlen : st.length = S.length) (hge : leV L (at_ st)) (h : 0 < offs S L st) : offs S L (rdRound S arcs nts st) < offs S L st := by
  obtain ⟨h1, h2⟩ := rdRound_ok hS hlen hge
  -- the cell that is off, of the least height
  have hex : ∃ i, i < S.length ∧ at_ st i ≠ L i := by
    apply Classical.byContradiction
    intro z
    have : (List.range S.length).filter (offB L st) = [] := List.filter_eq_nil_iff.mpr fun i hi q => z ⟨i, List.mem_range.mp hi, offB_true.mp q⟩
    unfold offs at h
    rw [this] at h
    exact Nat.lt_irrefl 0 h
  obtain ⟨i, hi, hoff, hmin⟩ := int_least (fun i => (S.length : Int) * num (L i) - d i) S.length (fun i => at_ st i ≠ L i) hex
  have hD := h2 i hi
  have key : at_ (rdRound S arcs nts st) i = L i := by
    by_cases hn : i ∈ nts
    · rw [hD.1 hn, hS.nought i hn]
    · by_cases hm : ∃ a, S[i]? = some (.amt a)
      · obtain ⟨a, hm⟩ := hm
        rw [hD.2.1 a hm hn, hS.amt i a hm hn]
      · have hm2 : ∀ a, S[i]? ≠ some (.amt a) := fun a z => hm ⟨a, z⟩
        have eL := hS.arc i hi hn hm2
        refine leA_antisymm ?_ (h1.ge i)
        cases hv : L i with
        | none => exact leA_none _
        | some v =>
          rw [hv] at eL
          obtain ⟨p, hp, e3⟩ := lst_some (as := arcs.getD i []) (x := L) eL.symm
          obtain ⟨u, u1, u2⟩ := arcV_some e3
          have q := hP i hi hn hm2 p hp
          have hp1 := hA i p hp
          have off : at_ st p.1 = L p.1 := by
            apply Classical.byContradiction
            intro z
            have m := hmin p.1 hp1 z
            have m : (S.length : Int) * num (L i) - d i ≤ (S.length : Int) * num (L p.1) - d p.1 := m
            rw [hv, u1] at m
            have m : (S.length : Int) * (v : Int) - d i ≤ (S.length : Int) * (u : Int) - d p.1 := m
            have le1 : (u : Int) + p.2 ≤ (v : Int) := by omega
            have le2 := Int.mul_le_mul_of_nonneg_left le1 (show (0 : Int) ≤ (S.length : Int) by omega)
            rw [Int.mul_add] at le2
            omega
          refine leA_trans (hD.2.2 hn hm2 p hp) ?_
          rw [← e3]
          unfold arcV
          rw [off]
          exact leA_refl _
  refine filter_lt (fun j hj hq => ?_) ⟨i, List.mem_range.mpr hi, offB_true.mpr hoff, offB_false.mpr key⟩
  rw [offB_true] at hq ⊢
  intro z
  apply hq
  refine leA_antisymm ?_ (h1.ge j)
  rw [← z]
  exact h1.le j
theorem rdRound_le {st : List Am} (hS : Sol S arcs nts L) (hlen : st.length = S.length) (hge : leV L (at_ st)) : offs S L (rdRound S arcs nts st) ≤ offs S L st := by
  obtain ⟨h1, _⟩ := rdRound_ok hS hlen hge
  refine filter_le fun j hj hq => ?_
  rw [offB_true] at hq ⊢
  intro z
  apply hq
  refine leA_antisymm ?_ (h1.ge j)
  rw [← z]
  exact h1.le j
theorem rdRounds_ok {d : Nat → Int} (hA : ∀ i, ∀ p ∈ arcs.getD i [], p.1 < S.length) (hS : Sol S arcs nts L) (hP : Pot S arcs nts d) : ∀ (k : Nat) (st : List Am), st.length = S.length → leV L (at_ st) →
    (rdRounds S arcs nts k st).length = S.length ∧ leV L (at_ (rdRounds S arcs nts k st)) ∧ offs S L (rdRounds S arcs nts k st) + k ≤ offs S L st + (if offs S L (rdRounds S arcs nts k st) = 0 then k else 0)
  | 0, st, h1, h2 => ⟨h1, h2, Nat.le_add_right _ _⟩
  | k + 1, st, h1, h2 => by
    obtain ⟨r1, _⟩ := rdRound_ok hS h1 h2
    obtain ⟨k1, k2, k3⟩ := rdRounds_ok hA hS hP k (rdRound S arcs nts st) r1.len r1.ge
    refine ⟨k1, k2, ?_⟩
    show offs S L (rdRounds S arcs nts k (rdRound S arcs nts st)) + (k + 1) ≤ offs S L st + (if offs S L (rdRounds S arcs nts k (rdRound S arcs nts st)) = 0 then k + 1 else 0)
    by_cases z : offs S L (rdRounds S arcs nts k (rdRound S arcs nts st)) = 0
    · rw [if_pos z, z]
      omega
    · rw [if_neg z] at k3 ⊢
      have le1 := rdRound_le hS h1 h2
      have : 0 < offs S L st := by omega
      have := rdRound_less hA hS hP h1 h2 this
      omega
theorem roundsDown_ok {d : Nat → Int} (hA : ∀ i, ∀ p ∈ arcs.getD i [], p.1 < S.length) (hS : Sol S arcs nts L) (hP : Pot S arcs nts d) :
    (roundsDown S arcs nts).length = S.length ∧ ∀ i, i < S.length → at_ (roundsDown S arcs nts) i = L i := by
  have h0 : leV L (at_ (List.replicate S.length none)) := fun i => by
    have e : at_ (List.replicate S.length none) i = none := by
      unfold at_
      rw [List.getD_eq_getElem?_getD]
      by_cases hv : i < S.length
      · rw [List.getElem?_replicate_of_lt hv]
        rfl
      · rw [List.getElem?_eq_none (by rw [List.length_replicate]; omega)]
        rfl
    rw [e]
    exact leA_none _
  obtain ⟨k1, k2, k3⟩ := rdRounds_ok hA hS hP (S.length + 1) (List.replicate S.length none) List.length_replicate h0
  have hoff : offs S L (List.replicate S.length none) ≤ S.length := by
    have := List.length_filter_le (offB L (List.replicate S.length none)) (List.range S.length)
    rw [List.length_range] at this
    exact this
  have z : offs S L (rdRounds S arcs nts (S.length + 1) (List.replicate S.length none)) = 0 := by
    apply Classical.byContradiction
    intro z
    rw [if_neg z] at k3
    omega
  refine ⟨k1, fun i hi => ?_⟩
  apply Classical.byContradiction
  intro q
  have z2 : ((List.range S.length).filter (offB L (rdRounds S arcs nts (S.length + 1) (List.replicate S.length none)))) = [] := List.eq_nil_of_length_eq_zero z
  exact List.filter_eq_nil_iff.mp z2 i (List.mem_range.mpr hi) (offB_true.mpr q)
end
end CS
namespace CS
/-! ### circles that do not gain -/
def pathV : List Arc → Am
  | [] => some 0
  | q :: r => shA (pathV r) q.2
def sfx (b : Nat) : List Arc → List (Nat × Am)
  | [] => [(b, some 0)]
  | q :: r => (q.1, pathV (q :: r)) :: sfx b r
theorem sfx_head {arcs : List (List Arc)} {a b : Nat} : ∀ {r : List Arc}, Chain arcs a r b → (a, pathV r) ∈ sfx b r
  | [], h => by
    have h : a = b := h
    subst h
    exact List.mem_cons_self
  | q :: r, h => by
    have e := h.1
    subst e
    exact List.mem_cons_self
theorem sfx_step {arcs : List (List Arc)} {b : Nat} : ∀ {a : Nat} {r : List Arc}, Chain arcs a r b → ∀ i v, (i, v) ∈ sfx b r → (i = b ∧ v = some 0) ∨ ∃ p ∈ arcs.getD i [], ∃ v', (p.1, v') ∈ sfx b r ∧ v = shA v' p.2
  | a, [], _, i, v, h => by
    have e := List.mem_singleton.mp h
    exact .inl ⟨congrArg Prod.fst e, congrArg Prod.snd e⟩
  | a, q :: r, c, i, v, h => by
    obtain ⟨e, t, ht, c'⟩ := c
    rcases List.mem_cons.mp h with z | z
    · have e1 : i = q.1 := congrArg Prod.fst z
      have e2 : v = pathV (q :: r) := congrArg Prod.snd z
      right
      refine ⟨(t, q.2), ?_, pathV r, List.mem_cons_of_mem _ (sfx_head c'), e2⟩
      rw [e1, e]
      exact ht
    · rcases sfx_step c' i v z with k | ⟨p, hp, v', hv, e2⟩
      · exact .inl k
      · exact .inr ⟨p, hp, v', List.mem_cons_of_mem _ hv, e2⟩
def ssum (r : List Arc) : Int := (r.map (·.2)).sum
theorem ssum_cons (q : Arc) (r : List Arc) : ssum (q :: r) = q.2 + ssum r := by
  unfold ssum
  rw [List.map_cons, List.sum_cons]
theorem ssum_app (a b : List Arc) : ssum (a ++ b) = ssum a + ssum b := by
  unfold ssum
  rw [List.map_append, List.sum_append]
theorem pathV_le : ∀ (r : List Arc) (b : Nat), (∀ k, ssum (r.take k) ≤ (b : Int)) → leA (pathV r) (some b)
  | [], b, _ => Nat.zero_le b
  | q :: r, b, h => by
    have h1 := h 1
    have e1 : ssum ((q :: r).take 1) = q.2 := by
      show ssum (q :: r.take 0) = q.2
      rw [ssum_cons]
      show q.2 + 0 = q.2
      omega
    rw [e1] at h1
    have ih := pathV_le r ((b : Int) - q.2).toNat (fun k => by
      have := h (k + 1)
      have e2 : ssum ((q :: r).take (k + 1)) = q.2 + ssum (r.take k) := by
        show ssum (q :: r.take k) = _
        rw [ssum_cons]
      omega)
    obtain ⟨n, e, l⟩ := leA_some_r.mp ih
    show leA (shA (pathV r) q.2) (some b)
    rw [e]
    show ((n : Int) + q.2).toNat ≤ b
    omega
/-- arcs of a sheet: what they lead to bounds the cell -/
def ArcsOf (T : List Fm) (arcs : List (List Arc)) : Prop := ∀ (i : Nat), ∀ p ∈ arcs.getD i [], ∀ F, T[i]? = some F → ∀ x, leA (val F x) (arcV x p)
theorem ring_nought {T : List Fm} {arcs : List (List Arc)} (hA : ArcsOf T arcs) {b : Nat} {r : List Arc} (hr : r ≠ []) (c : Chain arcs b r b) (hs : ∀ k, ssum (r.take k) ≤ 0) : lfp T b = some 0 := by
  let z : Vec := fun i => minOf (((sfx b r).filter fun e => e.1 == i).map (·.2))
  have z_le : ∀ i v, (i, v) ∈ sfx b r → leA (z i) v := fun i v h => by
    refine le_minOf.mp (leA_refl _) v (List.mem_map.mpr ⟨(i, v), List.mem_filter.mpr ⟨h, ?_⟩, rfl⟩)
    exact beq_self_eq_true i
  have z_mem : ∀ i, z i = none ∨ (i, z i) ∈ sfx b r := fun i => by
    by_cases e : ((sfx b r).filter fun e => e.1 == i).map (·.2) = []
    · left
      show minOf _ = none
      rw [e]
      rfl
    · right
      obtain ⟨q, hq, e2⟩ := List.mem_map.mp (minOf_mem e)
      obtain ⟨h1, h2⟩ := List.mem_filter.mp hq
      have h3 : q.1 = i := beq_iff_eq.mp h2
      have e2 : q.2 = z i := e2
      rw [← e2, ← h3]
      exact h1
  have p0 : leA (pathV r) (some 0) := pathV_le r 0 hs
  have hb := sfx_head c
  have hz : High T z := by
    intro i F hF
    rcases z_mem i with e | e
    · rw [e]
      exact leA_none _
    · have go : ∀ p ∈ arcs.getD i [], ∀ v', (p.1, v') ∈ sfx b r → leA (val F z) (shA v' p.2) := fun p hp v' hv => leA_trans (hA i p hp F hF z) (shA_mono _ (z_le _ _ hv))
      rcases sfx_step c i _ e with ⟨e1, e2⟩ | ⟨p, hp, v', hv, e2⟩
      · subst e1
        cases r with
        | nil => exact absurd rfl hr
        | cons q r' =>
          obtain ⟨e3, t, ht, c'⟩ := c
          rw [e2]
          exact leA_trans (go (t, q.2) ht (pathV r') (List.mem_cons_of_mem _ (sfx_head c'))) p0
      · rw [e2]
        exact go p hp v' hv
  exact leA_antisymm (leA_trans (lfp_le hz b) (leA_trans (z_le b _ hb) p0)) (leA_zero _)
theorem chain_app {arcs : List (List Arc)} : ∀ {a c : Nat} {r s : List Arc}, Chain arcs a (r ++ s) c ↔ ∃ b, Chain arcs a r b ∧ Chain arcs b s c
  | a, c, [], s => ⟨fun h => ⟨a, rfl, h⟩, fun ⟨b, h1, h2⟩ => by
    have h1 : a = b := h1
    subst h1
    exact h2⟩
  | a, c, q :: r, s => by
    constructor
    · rintro ⟨e, t, ht, h⟩
      obtain ⟨b, h1, h2⟩ := chain_app.mp h
      exact ⟨b, ⟨e, t, ht, h1⟩, h2⟩
    · rintro ⟨b, ⟨e, t, ht, h1⟩, h2⟩
      exact ⟨e, t, ht, chain_app.mpr ⟨b, h1, h2⟩⟩
/-! ### nought_cell -/
def ncStep (ring : List Arc) (st : Int × Int × Nat) (place : Nat) : Int × Int × Nat :=
  if st.2.1 < st.1 + (ring.getD place (0, 0)).2 then (st.1 + (ring.getD place (0, 0)).2, st.1 + (ring.getD place (0, 0)).2, (ring.getD ((place + 1) % ring.length) (0, 0)).1)
  else (st.1 + (ring.getD place (0, 0)).2, st.2.1, st.2.2)
def ncRun (ring : List Arc) (k : Nat) : Int × Int × Nat := (List.range k).foldl (ncStep ring) (0, 0, (ring.getD 0 (0, 0)).1)
def noughtCell (ring : List Arc) : Nat := (ncRun ring ring.length).2.2
theorem ncRun_succ (ring : List Arc) (k : Nat) : ncRun ring (k + 1) = ncStep ring (ncRun ring k) k := by
  unfold ncRun
  rw [List.range_succ, List.foldl_append]
  rfl
theorem take_succ_sum (ring : List Arc) {k : Nat} (h : k < ring.length) : ssum (ring.take (k + 1)) = ssum (ring.take k) + (ring.getD k (0, 0)).2 := by
  rw [List.take_add_one, ssum_app, List.getElem?_eq_getElem h, List.getD_eq_getElem?_getD, List.getElem?_eq_getElem h]
  show _ + ssum [ring[k]] = _ + (ring[k]).2
  rw [ssum_cons]
  show _ + (_ + 0) = _
  omega
theorem ncRun_ok (ring : List Arc) (hr : 0 < ring.length) : ∀ (k : Nat), k ≤ ring.length → (ncRun ring k).1 = ssum (ring.take k) ∧ ∃ m, m ≤ k ∧ (ncRun ring k).2.1 = ssum (ring.take m) ∧ (∀ j, j ≤ k → ssum (ring.take j) ≤ ssum (ring.take m)) ∧ (ncRun ring k).2.2 = (ring.getD (m % ring.length) (0, 0)).1
  | 0, _ => ⟨rfl, 0, Nat.le_refl _, rfl, fun j hj => by
      have : j = 0 := by omega
      subst this
      exact Int.le_refl _, by rw [Nat.zero_mod]; rfl⟩
  | k + 1, hk => by
    obtain ⟨h1, m, h2, h3, h4, h5⟩ := ncRun_ok ring hr k (by omega)
    have es := take_succ_sum ring (show k < ring.length by omega)
    rw [ncRun_succ]
    unfold ncStep
    rw [h1, h3, ← es]
    split
    · rename_i c
      refine ⟨rfl, k + 1, Nat.le_refl _, rfl, fun j hj => ?_, rfl⟩
      by_cases e : j = k + 1
      · subst e
        exact Int.le_refl _
      · have := h4 j (by omega)
        omega
    · rename_i c
      refine ⟨rfl, m, by omega, rfl, fun j hj => ?_, h5⟩
      by_cases e : j = k + 1
      · subst e
        omega
      · exact h4 j (by omega)
theorem noughtCell_ok {ring : List Arc} (hr : ring ≠ []) (hs : ssum ring ≤ 0) : ∃ m, m < ring.length ∧ noughtCell ring = (ring.getD m (0, 0)).1 ∧ ∀ j, j ≤ ring.length → ssum (ring.take j) ≤ ssum (ring.take m) := by
  have hl := List.length_pos_iff.mpr hr
  obtain ⟨_, m, h2, h3, h4, h5⟩ := ncRun_ok ring hl ring.length (Nat.le_refl _)
  by_cases e : m = ring.length
  · subst e
    refine ⟨0, hl, ?_, fun j hj => ?_⟩
    · show (ncRun ring ring.length).2.2 = _
      rw [h5, Nat.mod_self]
    · have q := h4 j hj
      rw [List.take_length] at q
      show _ ≤ (0 : Int)
      omega
  · refine ⟨m, by omega, ?_, h4⟩
    show (ncRun ring ring.length).2.2 = _
    rw [h5, Nat.mod_eq_of_lt (by omega)]
theorem nought_ok {T : List Fm} {arcs : List (List Arc)} (hA : ArcsOf T arcs) {c : Nat} {ring : List Arc} (hr : ring ≠ []) (hc : Chain arcs c ring c) (hs : ssum ring ≤ 0) :
    lfp T (noughtCell ring) = some 0 ∧ ∃ q ∈ ring, noughtCell ring = q.1 := by
  obtain ⟨m, h1, h2, h3⟩ := noughtCell_ok hr hs
  have eR : ring.take m ++ ring.drop m = ring := List.take_append_drop m ring
  have hc2 : Chain arcs c (ring.take m ++ ring.drop m) c := by rw [eR]; exact hc
  obtain ⟨b, c1, c2⟩ := chain_app.mp hc2
  have ed : ring.drop m = ring[m] :: ring.drop (m + 1) := List.drop_eq_getElem_cons h1
  have eg : ring.getD m (0, 0) = ring[m] := by
    rw [List.getD_eq_getElem?_getD, List.getElem?_eq_getElem h1]
    rfl
  have eb : b = noughtCell ring := by
    rw [ed] at c2
    rw [h2, eg]
    exact c2.1.symm
  subst eb
  have cR : Chain arcs (noughtCell ring) (ring.drop m ++ ring.take m) (noughtCell ring) := chain_app.mpr ⟨c, c2, c1⟩
  have sA : ssum ring = ssum (ring.take m) + ssum (ring.drop m) := by
    rw [← ssum_app, eR]
  refine ⟨ring_nought hA (by rw [ed]; exact List.cons_ne_nil _ _) cR fun k => ?_, ring[m], List.getElem_mem h1, by rw [h2, eg]⟩
  rw [List.take_append, ssum_app, List.length_drop]
  have hk : ∀ j, ssum (ring.take j) ≤ ssum (ring.take m) := fun j => by
    by_cases hj : j ≤ ring.length
    · exact h3 j hj
    · have q := h3 ring.length (Nat.le_refl _)
      rw [List.take_length] at q
      rw [List.take_of_length_le (by omega)]
      exact q
  by_cases hkm : k ≤ ring.length - m
  · have e0 : k - (ring.length - m) = 0 := by omega
    rw [e0]
    show ssum ((ring.drop m).take k) + ssum [] ≤ 0
    have e1 : ssum (ring.take (m + k)) = ssum (ring.take m) + ssum ((ring.drop m).take k) := by
      rw [← ssum_app, List.take_add]
    have := hk (m + k)
    show _ + (0 : Int) ≤ 0
    omega
  · have e1 : (ring.drop m).take k = ring.drop m := List.take_of_length_le (by rw [List.length_drop]; omega)
    rw [e1, List.take_take]
    have := hk (min (k - (ring.length - m)) m)
    omega
/-! ### least_with -/
def arcsOfF : Fm → List Arc
  | .amt _ => []
  | .lst as => as
  | .gst as => as
  | .whn _ _ k => [(k, 0)]
def chAt (ch : List (Option Nat)) (i : Nat) : Nat := (ch.getD i none).getD 0
def tellF (k : Nat) : Fm → Fm
  | .gst as => .gst [as.getD k (0, 0)]
  | F => F
def tell (S : List Fm) (ch : List (Option Nat)) : List Fm := S.mapIdx fun i F => tellF (chAt ch i) F
def toldArcs (S : List Fm) (ch : List (Option Nat)) : List (List Arc) := S.mapIdx fun i F => arcsOfF (tellF (chAt ch i) F)
def openArcs (n : Nat) (arcs : List (List Arc)) (nts : List Nat) : List (List Arc) := (List.range n).map fun i => if i ∈ nts then [] else arcs.getD i []
def wOf (n : Nat) (s : Int) : Int := (n : Int) * s - 1
def leastFrom (S : List Fm) (arcs : List (List Arc)) : Nat → List Nat → Option (List Am)
  | 0, _ => none
  | k + 1, nts => match circleBelow (wOf S.length) (openArcs S.length arcs nts) with
    | none => none
    | some none => some (roundsDown S arcs nts)
    | some (some ring) => leastFrom S arcs k (nts ++ [noughtCell ring])
def leastWith (S : List Fm) (ch : List (Option Nat)) : Option (List Am) := leastFrom S (toldArcs S ch) (S.length + 1) []
def Plain (S : List Fm) : Prop := ∀ (i : Nat) (F : Fm), S[i]? = some F → ∀ j a k, F ≠ .whn j a k
structure ChOk (S : List Fm) (ch : List (Option Nat)) : Prop where
  len : ch.length = S.length
  at_ : ∀ (i : Nat) (as : List Arc), S[i]? = some (.gst as) → ∃ k, ch[i]? = some (some k) ∧ k < as.length
theorem chAt_of {ch : List (Option Nat)} {i k : Nat} (h : ch[i]? = some (some k)) : chAt ch i = k := by
  unfold chAt
  rw [List.getD_eq_getElem?_getD, h]
  rfl
section
variable {S : List Fm} {ch : List (Option Nat)}
theorem tell_at (i : Nat) : (tell S ch)[i]? = S[i]?.map (tellF (chAt ch i)) := by
  unfold tell
  rw [List.getElem?_mapIdx]
theorem tell_len : (tell S ch).length = S.length := by
  unfold tell
  rw [List.length_mapIdx]
theorem toldArcs_len : (toldArcs S ch).length = S.length := by
  unfold toldArcs
  rw [List.length_mapIdx]
theorem toldArcs_at {i : Nat} {F : Fm} (h : S[i]? = some F) : (toldArcs S ch).getD i [] = arcsOfF (tellF (chAt ch i) F) := by
  unfold toldArcs
  rw [List.getD_eq_getElem?_getD, List.getElem?_mapIdx, h]
  rfl
theorem toldArcs_out {i : Nat} (h : S[i]? = none) : (toldArcs S ch).getD i [] = [] := by
  unfold toldArcs
  rw [List.getD_eq_getElem?_getD, List.getElem?_mapIdx, h]
  rfl
theorem getD_mem {as : List Arc} {k : Nat} (h : k < as.length) : as.getD k (0, 0) ∈ as := by
  rw [List.getD_eq_getElem?_getD, List.getElem?_eq_getElem h]
  exact List.getElem_mem h
theorem tell_wf (W : WFs S) (C : ChOk S ch) : WFs (tell S ch) := fun i F h => by
  rw [tell_len]
  rw [tell_at] at h
  obtain ⟨G, hG, e⟩ := Option.map_eq_some_iff.mp h
  have wG := W i G hG
  subst e
  cases G with
  | amt a => trivial
  | lst as => exact wG
  | gst as =>
    obtain ⟨k, h1, h2⟩ := C.at_ i as hG
    refine ⟨List.cons_ne_nil _ _, fun p hp => ?_⟩
    rw [List.mem_singleton.mp hp, chAt_of h1]
    exact wG.2 _ (getD_mem h2)
  | whn j a k => exact wG
theorem tell_told (P : Plain S) : Told (tell S ch) := fun i F h => by
  rw [tell_at] at h
  obtain ⟨G, hG, e⟩ := Option.map_eq_some_iff.mp h
  subst e
  cases G with
  | amt a => trivial
  | lst as => trivial
  | gst as => exact ⟨_, rfl⟩
  | whn j a k => exact absurd rfl (P i _ hG j a k)
theorem told_arcs (P : Plain S) : ArcsOf (tell S ch) (toldArcs S ch) := fun i p hp F hF x => by
  rw [tell_at] at hF
  obtain ⟨G, hG, e⟩ := Option.map_eq_some_iff.mp hF
  subst e
  rw [toldArcs_at hG] at hp
  cases G with
  | amt a => exact (List.not_mem_nil hp).elim
  | lst as => exact lst_le hp (leA_refl _)
  | gst as =>
    have e := List.mem_singleton.mp hp
    subst e
    show leA (val (.gst [_]) x) _
    rw [gst1]
    exact leA_refl _
  | whn j a k => exact absurd rfl (P i _ hG j a k)
theorem told_in (W : WFs S) (C : ChOk S ch) : ∀ i, ∀ p ∈ (toldArcs S ch).getD i [], p.1 < S.length := fun i p hp => by
  cases hG : S[i]? with
  | none =>
    rw [toldArcs_out hG] at hp
    exact (List.not_mem_nil hp).elim
  | some G =>
    rw [toldArcs_at hG] at hp
    have wG := W i G hG
    cases G with
    | amt a => exact (List.not_mem_nil hp).elim
    | lst as => exact wG.2 p hp
    | gst as =>
      obtain ⟨k, h1, h2⟩ := C.at_ i as hG
      rw [List.mem_singleton.mp hp, chAt_of h1]
      exact wG.2 _ (getD_mem h2)
    | whn j a k =>
      rw [List.mem_singleton.mp hp]
      exact wG.2
theorem told_sol (P : Plain S) {nts : List Nat} (hn : ∀ i ∈ nts, lfp (tell S ch) i = some 0) : Sol S (toldArcs S ch) nts (lfp (tell S ch)) := by
  refine ⟨hn, fun i a h _ => ?_, fun i hi _ hm => ?_⟩
  · have hT : (tell S ch)[i]? = some (.amt a) := by rw [tell_at, h]; rfl
    exact (lfp_eq hT).symm
  · obtain ⟨G, hG⟩ : ∃ G, S[i]? = some G := ⟨S[i], List.getElem?_eq_getElem hi⟩
    have hT : (tell S ch)[i]? = some (tellF (chAt ch i) G) := by rw [tell_at, hG]; rfl
    rw [toldArcs_at hG, ← lfp_eq hT]
    cases G with
    | amt a => exact absurd hG (hm a)
    | lst as => rfl
    | gst as =>
      show val (.gst [_]) _ = minA (arcV _ _) none
      rw [gst1]
      unfold minA
      rw [if_pos (leA_none _)]
    | whn j a k => exact absurd rfl (P i _ hG j a k)
theorem open_at {n : Nat} {arcs : List (List Arc)} {nts : List Nat} {i : Nat} (h : i < n) : (openArcs n arcs nts).getD i [] = if i ∈ nts then [] else arcs.getD i [] := by
  unfold openArcs
  rw [List.getD_eq_getElem?_getD, List.getElem?_map, List.getElem?_range h]
  rfl
theorem open_out {n : Nat} {arcs : List (List Arc)} {nts : List Nat} {i : Nat} (h : n ≤ i) : (openArcs n arcs nts).getD i [] = [] := by
  unfold openArcs
  rw [List.getD_eq_getElem?_getD, List.getElem?_eq_none (by rw [List.length_map, List.length_range]; exact h)]
  rfl
theorem open_sub {n : Nat} {arcs : List (List Arc)} {nts : List Nat} {i : Nat} {p : Arc} (h : p ∈ (openArcs n arcs nts).getD i []) : i < n ∧ i ∉ nts ∧ p ∈ arcs.getD i [] := by
  by_cases hi : i < n
  · rw [open_at hi] at h
    by_cases hn : i ∈ nts
    · rw [if_pos hn] at h
      exact (List.not_mem_nil h).elim
    · rw [if_neg hn] at h
      exact ⟨hi, hn, h⟩
  · rw [open_out (by omega)] at h
    exact (List.not_mem_nil h).elim
theorem chain_sub {a1 a2 : List (List Arc)} (h : ∀ i, ∀ p ∈ a1.getD i [], p ∈ a2.getD i []) : ∀ {a b : Nat} {r : List Arc}, Chain a1 a r b → Chain a2 a r b
  | _, _, [], c => c
  | a, _, q :: r, ⟨e, t, ht, c⟩ => ⟨e, t, h a _ ht, chain_sub h c⟩
theorem chain_cell {a1 : List (List Arc)} : ∀ {a b : Nat} {r : List Arc}, Chain a1 a r b → ∀ q ∈ r, ∃ p, p ∈ a1.getD q.1 []
  | a, b, q :: r, ⟨e, t, ht, c⟩, x, hx => by
    rcases List.mem_cons.mp hx with z | z
    · subst z
      rw [e]
      exact ⟨_, ht⟩
    · exact chain_cell c x z
theorem wsum_ssum (n : Nat) : ∀ (r : List Arc), wsum (wOf n) r = (n : Int) * ssum r - (r.length : Int)
  | [] => by
    show (0 : Int) = (n : Int) * 0 - 0
    rw [Int.mul_zero]
    rfl
  | q :: r => by
    rw [wsum_cons, wsum_ssum n r, ssum_cons, Int.mul_add, List.length_cons]
    unfold wOf
    omega
theorem nodup_len {n : Nat} : ∀ {l : List Nat}, l.Nodup → (∀ i ∈ l, i < n) → l.length ≤ n := by
  intro l hn hl
  apply Classical.byContradiction
  intro z
  obtain ⟨a, b, h1, h2, h3⟩ := php n (fun k => l.getD k 0) (fun k hk => by
    have hk : k < l.length := by omega
    show l.getD k 0 < n
    rw [List.getD_eq_getElem?_getD, List.getElem?_eq_getElem hk]
    exact hl _ (List.getElem_mem hk))
  have ha : a < l.length := by omega
  have hb : b < l.length := by omega
  have h3 : l.getD a 0 = l.getD b 0 := h3
  rw [List.getD_eq_getElem?_getD, List.getD_eq_getElem?_getD, List.getElem?_eq_getElem ha, List.getElem?_eq_getElem hb] at h3
  have h3 : l[a] = l[b] := h3
  have := (List.getElem_inj hn).mp h3
  omega
theorem leastFrom_ok (W : WFs S) (P : Plain S) (C : ChOk S ch) (hS : 0 < S.length) : ∀ (k : Nat) (nts : List Nat), S.length < k + nts.length → nts.Nodup → (∀ i ∈ nts, i < S.length) → (∀ i ∈ nts, lfp (tell S ch) i = some 0) →
    ∃ x, leastFrom S (toldArcs S ch) k nts = some x ∧ x.length = S.length ∧ ∀ i, i < S.length → at_ x i = lfp (tell S ch) i
  | 0, nts, h, hn, hl, _ => by
    have := nodup_len hn hl
    omega
  | k + 1, nts, h, hn, hl, hs => by
    have hA : ArcsIn (openArcs S.length (toldArcs S ch) nts) := fun v p hp => by
      obtain ⟨_, _, h3⟩ := open_sub hp
      unfold openArcs
      rw [List.length_map, List.length_range]
      exact told_in W C v p h3
    have eL : (openArcs S.length (toldArcs S ch) nts).length = S.length := by
      unfold openArcs
      rw [List.length_map, List.length_range]
    rcases circleBelow_ok (w := wOf S.length) hA with ⟨e, d, hd⟩ | ⟨r, c, e, r1, r2, r3, r4⟩
    · obtain ⟨q1, q2⟩ := roundsDown_ok (d := d) (told_in W C) (told_sol P hs) (fun i hi hni _ p hp => by
        refine hd i (by rw [eL]; exact hi) p ?_
        rw [open_at hi, if_neg hni]
        exact hp)
      refine ⟨roundsDown S (toldArcs S ch) nts, ?_, q1, q2⟩
      show (match circleBelow (wOf S.length) (openArcs S.length (toldArcs S ch) nts) with | none => none | some none => some (roundsDown S (toldArcs S ch) nts) | some (some ring) => leastFrom S (toldArcs S ch) k (nts ++ [noughtCell ring])) = _
      rw [e]
    · rw [eL] at r2
      rw [wsum_ssum] at r4
      have hsum : ssum r ≤ 0 := by
        apply Classical.byContradiction
        intro z
        have : (S.length : Int) * 1 ≤ (S.length : Int) * ssum r := Int.mul_le_mul_of_nonneg_left (by omega) (by omega)
        omega
      have c2 := chain_sub (fun i p hp => (open_sub hp).2.2) r3
      obtain ⟨n1, q, hq, eq⟩ := nought_ok (told_arcs P) r1 c2 hsum
      obtain ⟨p, hp⟩ := chain_cell r3 q hq
      rw [← eq] at hp
      obtain ⟨o1, o2, _⟩ := open_sub hp
      obtain ⟨x, x1, x2⟩ := leastFrom_ok W P C hS k (nts ++ [noughtCell r]) (by rw [List.length_append, List.length_singleton]; omega)
        (List.nodup_append.mpr ⟨hn, List.nodup_cons.mpr ⟨List.not_mem_nil, List.nodup_nil⟩, fun a ha b hb => by
          rw [List.mem_singleton.mp hb]
          exact fun z => o2 (z ▸ ha)⟩)
        (fun i hi => (List.mem_append.mp hi).elim (hl i) fun z => by rw [List.mem_singleton.mp z]; exact o1)
        (fun i hi => (List.mem_append.mp hi).elim (hs i) fun z => by rw [List.mem_singleton.mp z]; exact n1)
      refine ⟨x, ?_, x2⟩
      show (match circleBelow (wOf S.length) (openArcs S.length (toldArcs S ch) nts) with | none => none | some none => some (roundsDown S (toldArcs S ch) nts) | some (some ring) => leastFrom S (toldArcs S ch) k (nts ++ [noughtCell ring])) = _
      rw [e]
      exact x1
theorem leastWith_ok (W : WFs S) (P : Plain S) (C : ChOk S ch) (hS : 0 < S.length) : ∃ x, leastWith S ch = some x ∧ x.length = S.length ∧ ∀ i, i < S.length → at_ x i = lfp (tell S ch) i :=
  leastFrom_ok W P C hS (S.length + 1) [] (by show S.length < S.length + 1 + 0; omega) List.nodup_nil (fun i hi => (List.not_mem_nil hi).elim) (fun i hi => (List.not_mem_nil hi).elim)
end
end CS
namespace CS
/-! ### settled_least -/
noncomputable def lfpL (S : List Fm) : List Am := (List.range S.length).map (lfp S)
theorem lfpL_len (S : List Fm) : (lfpL S).length = S.length := by
  unfold lfpL
  rw [List.length_map, List.length_range]
theorem lfpL_at {S : List Fm} {i : Nat} (h : i < S.length) : at_ (lfpL S) i = lfp S i := by
  unfold at_ lfpL
  rw [List.getD_eq_getElem?_getD, List.getElem?_map, List.getElem?_range h]
  rfl
theorem at_get {x : List Am} {i : Nat} {v : Am} (h : x[i]? = some v) : at_ x i = v := by
  unfold at_
  rw [List.getD_eq_getElem?_getD, h]
  rfl
theorem get_at {x : List Am} {i : Nat} (h : i < x.length) : x[i]? = some (at_ x i) := by
  unfold at_
  rw [List.getD_eq_getElem?_getD, List.getElem?_eq_getElem h]
  rfl
theorem lfpL_get {S : List Fm} {i : Nat} (h : i < S.length) : (lfpL S)[i]? = some (lfp S i) := by
  rw [get_at (by rw [lfpL_len]; exact h), lfpL_at h]
theorem list_of_at {x : List Am} {n : Nat} {f : Vec} (h1 : x.length = n) (h2 : ∀ i, i < n → at_ x i = f i) : x = (List.range n).map f := by
  refine List.ext_getElem? fun i => ?_
  by_cases hi : i < n
  · rw [get_at (by omega), h2 i hi, List.getElem?_map, List.getElem?_range hi]
    rfl
  · rw [List.getElem?_eq_none (by omega), List.getElem?_eq_none (by rw [List.length_map, List.length_range]; omega)]
theorem at_ext {x y : List Am} (h1 : x.length = y.length) (h2 : ∀ i, i < y.length → at_ x i = at_ y i) : x = y := by
  refine List.ext_getElem? fun i => ?_
  by_cases hi : i < y.length
  · rw [get_at (by omega), get_at hi, h2 i hi]
  · rw [List.getElem?_eq_none (by omega), List.getElem?_eq_none (by omega)]
def beStep (x : Vec) (as : List Arc) (cell : Nat) (b : List (Option Nat)) (place : Nat) : List (Option Nat) :=
  if ¬ leA (arcV x (as.getD place (0, 0))) (x cell) ∧ arcV x (as.getD place (0, 0)) = val (.gst as) x then b.set cell (some place) else b
def beCell (S : List Fm) (x : Vec) (b : List (Option Nat)) (cell : Nat) : List (Option Nat) := match S[cell]? with
  | some (.gst as) => (List.range as.length).foldl (beStep x as cell) b
  | _ => b
def betterCh (S : List Fm) (x : Vec) (ch : List (Option Nat)) : List (Option Nat) := (List.range S.length).foldl (beCell S x) ch
theorem beSteps_ok {x : Vec} {as : List Arc} {cell : Nat} : ∀ (ps : List Nat) (b : List (Option Nat)), cell < b.length → (∀ k ∈ ps, k < as.length) →
    (ps.foldl (beStep x as cell) b).length = b.length ∧ (∀ j, j ≠ cell → (ps.foldl (beStep x as cell) b)[j]? = b[j]?) ∧
    (((ps.foldl (beStep x as cell) b)[cell]? = b[cell]? ∧ ∀ k ∈ ps, leA (arcV x (as.getD k (0, 0))) (x cell) ∨ arcV x (as.getD k (0, 0)) ≠ val (.gst as) x) ∨
      ∃ k, k < as.length ∧ (ps.foldl (beStep x as cell) b)[cell]? = some (some k) ∧ ¬ leA (arcV x (as.getD k (0, 0))) (x cell) ∧ arcV x (as.getD k (0, 0)) = val (.gst as) x)
  | [], b, _, _ => ⟨rfl, fun _ _ => rfl, .inl ⟨rfl, fun k hk => (List.not_mem_nil hk).elim⟩⟩
  | p :: ps, b, hc, hm => by
    by_cases c : ¬ leA (arcV x (as.getD p (0, 0))) (x cell) ∧ arcV x (as.getD p (0, 0)) = val (.gst as) x
    · have e : beStep x as cell b p = b.set cell (some p) := if_pos c
      obtain ⟨h1, h2, h3⟩ := beSteps_ok (x := x) (as := as) ps (b.set cell (some p)) (by rw [List.length_set]; exact hc) (fun k hk => hm k (List.mem_cons_of_mem _ hk))
      rw [List.foldl_cons, e]
      refine ⟨h1.trans List.length_set, fun j hj => (h2 j hj).trans (List.getElem?_set_ne (Ne.symm hj)), .inr ?_⟩
      rcases h3 with ⟨h3, _⟩ | h3
      · refine ⟨p, hm p List.mem_cons_self, h3.trans (List.getElem?_set_self hc), c⟩
      · exact h3
    · have e : beStep x as cell b p = b := if_neg c
      obtain ⟨h1, h2, h3⟩ := beSteps_ok (x := x) (as := as) ps b hc (fun k hk => hm k (List.mem_cons_of_mem _ hk))
      rw [List.foldl_cons, e]
      refine ⟨h1, h2, ?_⟩
      rcases h3 with ⟨h3, h4⟩ | h3
      · refine .inl ⟨h3, fun k hk => ?_⟩
        rcases List.mem_cons.mp hk with z | z
        · subst z
          by_cases q : leA (arcV x (as.getD k (0, 0))) (x cell)
          · exact .inl q
          · exact .inr fun q2 => c ⟨q, q2⟩
        · exact h4 k z
      · exact .inr h3
/-- what a cell's new choice is -/
def BeAt (S : List Fm) (x : Vec) (ch b : List (Option Nat)) (i : Nat) : Prop :=
  (b[i]? = ch[i]? ∧ ∀ as, S[i]? = some (.gst as) → leA (val (.gst as) x) (x i)) ∨
  ∃ as k, S[i]? = some (.gst as) ∧ k < as.length ∧ b[i]? = some (some k) ∧ ¬ leA (arcV x (as.getD k (0, 0))) (x i) ∧ arcV x (as.getD k (0, 0)) = val (.gst as) x
theorem gst_idx {as : List Arc} {x : Vec} (h : as ≠ []) : ∃ k, k < as.length ∧ arcV x (as.getD k (0, 0)) = val (.gst as) x := by
  obtain ⟨p, hp, e⟩ := gst_mem (x := x) h
  obtain ⟨k, hk, e2⟩ := List.getElem_of_mem hp
  refine ⟨k, hk, ?_⟩
  rw [List.getD_eq_getElem?_getD, List.getElem?_eq_getElem hk]
  show arcV x as[k] = _
  rw [e2, e]
theorem beCell_ok {S : List Fm} (W : WFs S) {x : Vec} {b : List (Option Nat)} {c : Nat} (hb : b.length = S.length) (hc : c < S.length) :
    (beCell S x b c).length = S.length ∧ (∀ j, j ≠ c → (beCell S x b c)[j]? = b[j]?) ∧ BeAt S x b (beCell S x b c) c := by
  obtain ⟨F, hF⟩ : ∃ F, S[c]? = some F := ⟨S[c], List.getElem?_eq_getElem hc⟩
  by_cases hg : ∃ as, F = .gst as
  · obtain ⟨as, e⟩ := hg
    subst e
    have eq : beCell S x b c = (List.range as.length).foldl (beStep x as c) b := by
      unfold beCell
      rw [hF]
    rw [eq]
    obtain ⟨h1, h2, h3⟩ := beSteps_ok (x := x) (as := as) (cell := c) (List.range as.length) b (by rw [hb]; exact hc) (fun k hk => List.mem_range.mp hk)
    refine ⟨h1.trans hb, h2, ?_⟩
    rcases h3 with ⟨h3, h4⟩ | ⟨k, k1, k2, k3, k4⟩
    · refine .inl ⟨h3, fun as' h => ?_⟩
      rw [hF] at h
      cases h
      obtain ⟨k, k1, k2⟩ := gst_idx (x := x) (W c _ hF).1
      rcases h4 k (List.mem_range.mpr k1) with z | z
      · rw [← k2]
        exact z
      · exact absurd k2 z
    · exact .inr ⟨as, k, hF, k1, k2, k3, k4⟩
  · have eq : beCell S x b c = b := by
      unfold beCell
      rw [hF]
      cases F with
      | gst as => exact absurd ⟨as, rfl⟩ hg
      | _ => rfl
    rw [eq]
    refine ⟨hb, fun _ _ => rfl, .inl ⟨rfl, fun as h => ?_⟩⟩
    rw [hF] at h
    cases h
    exact absurd ⟨as, rfl⟩ hg
theorem betterCh_ok {S : List Fm} (W : WFs S) {x : Vec} {ch : List (Option Nat)} (hb : ch.length = S.length) : ∀ (k : Nat), k ≤ S.length →
    ((List.range k).foldl (beCell S x) ch).length = S.length ∧ (∀ j, k ≤ j → ((List.range k).foldl (beCell S x) ch)[j]? = ch[j]?) ∧ ∀ i, i < k → BeAt S x ch ((List.range k).foldl (beCell S x) ch) i
  | 0, _ => ⟨hb, fun _ _ => rfl, fun i h => absurd h (Nat.not_lt_zero _)⟩
  | k + 1, hk => by
    obtain ⟨h1, h2, h3⟩ := betterCh_ok W (x := x) hb k (by omega)
    rw [List.range_succ, List.foldl_append]
    show (beCell S x ((List.range k).foldl (beCell S x) ch) k).length = S.length ∧ (∀ j, k + 1 ≤ j → (beCell S x ((List.range k).foldl (beCell S x) ch) k)[j]? = ch[j]?) ∧ ∀ i, i < k + 1 → BeAt S x ch (beCell S x ((List.range k).foldl (beCell S x) ch) k) i
    obtain ⟨q1, q2, q3⟩ := beCell_ok W (x := x) h1 (show k < S.length by omega)
    refine ⟨q1, fun j hj => (q2 j (by omega)).trans (h2 j (by omega)), fun i hi => ?_⟩
    by_cases e : i = k
    · subst e
      rcases q3 with ⟨z1, z2⟩ | z
      · exact .inl ⟨z1.trans (h2 i (Nat.le_refl _)), z2⟩
      · exact .inr z
    · rcases h3 i (by omega) with ⟨z1, z2⟩ | ⟨as, m, z1, z2, z3, z4⟩
      · exact .inl ⟨(q2 i e).trans z1, z2⟩
      · exact .inr ⟨as, m, z1, z2, (q2 i e).trans z3, z4⟩
def initCh (S : List Fm) : List (Option Nat) := S.map fun F => match F with
  | .gst _ => some 0
  | _ => none
def settledFrom (S : List Fm) : Nat → List (Option Nat) → Option (List Am × List (Option Nat))
  | 0, _ => none
  | k + 1, ch => match leastWith S ch with
    | none => none
    | some x => if betterCh S (at_ x) ch = ch then some (x, ch) else settledFrom S k (betterCh S (at_ x) ch)
theorem initCh_ok {S : List Fm} (W : WFs S) : ChOk S (initCh S) := ⟨List.length_map .., fun i as h => by
  refine ⟨0, ?_, List.length_pos_iff.mpr (W i _ h).1⟩
  unfold initCh
  rw [List.getElem?_map, h]
  rfl⟩
theorem better_ChOk {S : List Fm} (W : WFs S) {x : Vec} {ch : List (Option Nat)} (C : ChOk S ch) : ChOk S (betterCh S x ch) := by
  obtain ⟨h1, _, h3⟩ := betterCh_ok W (x := x) C.len S.length (Nat.le_refl _)
  refine ⟨h1, fun i as h => ?_⟩
  have hi := (List.getElem?_eq_some_iff.mp h).1
  rcases h3 i hi with ⟨z1, _⟩ | ⟨as', k, z1, z2, z3, _⟩
  · obtain ⟨k, k1, k2⟩ := C.at_ i as h
    exact ⟨k, z1.trans k1, k2⟩
  · rw [h] at z1
    cases z1
    exact ⟨k, z3, z2⟩
/-! heights that fall -/
def cap (B : Nat) : Am → Nat
  | none => 0
  | some v => B + 1 - v
def mu (B : Nat) (x : Vec) : Nat → Nat
  | 0 => 0
  | n + 1 => mu B x n + cap B (x n)
def within (B : Nat) : Am → Prop
  | none => True
  | some v => v ≤ B
theorem cap_le {B : Nat} {a b : Am} (h : leA a b) : cap B b ≤ cap B a := by
  cases b with
  | none => exact Nat.zero_le _
  | some b =>
    cases a with
    | none => exact absurd h id
    | some a =>
      have h : a ≤ b := h
      show B + 1 - b ≤ B + 1 - a
      omega
theorem cap_lt {B : Nat} {a b : Am} (h : ¬ leA b a) (hb : within B b) (ha : within B a) : cap B b < cap B a := by
  cases a with
  | none => exact absurd (leA_none b) h
  | some a =>
    have ha : a ≤ B := ha
    cases b with
    | none =>
      show 0 < B + 1 - a
      omega
    | some b =>
      have h : ¬ b ≤ a := h
      have hb : b ≤ B := hb
      show B + 1 - b < B + 1 - a
      omega
theorem mu_le {B : Nat} {x y : Vec} : ∀ {n : Nat}, (∀ i, i < n → leA (x i) (y i)) → mu B y n ≤ mu B x n
  | 0, _ => Nat.le_refl _
  | n + 1, h => Nat.add_le_add (mu_le fun i hi => h i (by omega)) (cap_le (h n (by omega)))
theorem mu_lt {B : Nat} {x y : Vec} : ∀ {n : Nat}, (∀ i, i < n → leA (x i) (y i)) → (∃ i, i < n ∧ ¬ leA (y i) (x i) ∧ within B (x i) ∧ within B (y i)) → mu B y n < mu B x n
  | 0, _, ⟨_, h, _⟩ => absurd h (Nat.not_lt_zero _)
  | n + 1, h, ⟨i, hi, h1, h2, h3⟩ => by
    show mu B y n + cap B (y n) < mu B x n + cap B (x n)
    by_cases e : i = n
    · subst e
      have := mu_le (B := B) (x := x) (y := y) (n := i) fun j hj => h j (by omega)
      have := cap_lt h1 h3 h2
      omega
    · have := mu_lt (B := B) (x := x) (y := y) (n := n) (fun j hj => h j (by omega)) ⟨i, by omega, h1, h2, h3⟩
      have := cap_le (B := B) (h n (by omega))
      omega
theorem mu_top (B : Nat) (x : Vec) : ∀ n, mu B x n ≤ n * (B + 1)
  | 0 => Nat.zero_le _
  | n + 1 => by
    have ih := mu_top B x n
    have : cap B (x n) ≤ B + 1 := by
      cases x n with
      | none => exact Nat.zero_le _
      | some v => exact Nat.sub_le _ _
    show mu B x n + cap B (x n) ≤ (n + 1) * (B + 1)
    rw [Nat.add_mul]
    omega
theorem FmBd.mono {a C a' C' : Nat} (h1 : a ≤ a') (h2 : C ≤ C') : ∀ {F : Fm}, FmBd a C F → FmBd a' C' F
  | .amt none, _ => trivial
  | .amt (some v), h => Nat.le_trans h h1
  | .lst as, h => fun p hp => Int.le_trans (h p hp) (by omega)
  | .gst as, h => fun p hp => Int.le_trans (h p hp) (by omega)
  | .whn _ _ _, _ => trivial
theorem arcs_bd : ∀ (as : List Arc), ∃ C : Nat, ∀ p ∈ as, p.2 ≤ (C : Int)
  | [] => ⟨0, fun p h => (List.not_mem_nil h).elim⟩
  | q :: as => by
    obtain ⟨C, h⟩ := arcs_bd as
    refine ⟨C + q.2.toNat, fun p hp => ?_⟩
    rcases List.mem_cons.mp hp with e | e
    · subst e
      omega
    · have := h p e
      omega
theorem fm_bd : ∀ (F : Fm), ∃ a C, FmBd a C F
  | .amt none => ⟨0, 0, trivial⟩
  | .amt (some v) => ⟨v, 0, Nat.le_refl _⟩
  | .lst as => by
    obtain ⟨C, h⟩ := arcs_bd as
    exact ⟨0, C, h⟩
  | .gst as => by
    obtain ⟨C, h⟩ := arcs_bd as
    exact ⟨0, C, h⟩
  | .whn _ _ _ => ⟨0, 0, trivial⟩
theorem sh_bd : ∀ (S : List Fm), ∃ a C, ∀ F ∈ S, FmBd a C F
  | [] => ⟨0, 0, fun p h => (List.not_mem_nil h).elim⟩
  | G :: S => by
    obtain ⟨a, C, h⟩ := sh_bd S
    obtain ⟨a', C', h'⟩ := fm_bd G
    refine ⟨a + a', C + C', fun F hF => ?_⟩
    rcases List.mem_cons.mp hF with e | e
    · subst e
      exact h'.mono (by omega) (by omega)
    · exact (h F e).mono (by omega) (by omega)
theorem sh_bd' (S : List Fm) : ∃ a C, ShBd a C S := by
  obtain ⟨a, C, h⟩ := sh_bd S
  exact ⟨a, C, fun i F e => h F (List.mem_of_getElem? e)⟩
theorem lfp_within {S : List Fm} (W : WFs S) {a C : Nat} (B : ShBd a C S) {i : Nat} (hi : i < S.length) : within (a + S.length * C) (lfp S i) := by
  cases e : lfp S i with
  | none => trivial
  | some v => exact lfp_bound W B hi e
section
variable {S : List Fm} {ch : List (Option Nat)}
theorem tell_bd (C : ChOk S ch) {a c : Nat} (B : ShBd a c S) : ShBd a c (tell S ch) := fun i F h => by
  rw [tell_at] at h
  obtain ⟨G, hG, e⟩ := Option.map_eq_some_iff.mp h
  have bG := B i G hG
  subst e
  cases G with
  | amt v => exact bG
  | lst as => exact bG
  | gst as =>
    obtain ⟨k, h1, h2⟩ := C.at_ i as hG
    intro p hp
    rw [List.mem_singleton.mp hp, chAt_of h1]
    exact bG _ (getD_mem h2)
  | whn j b k => exact bG
theorem arcV_congr {n : Nat} {x y : Vec} (h : ∀ i, i < n → x i = y i) {p : Arc} (hp : p.1 < n) : arcV x p = arcV y p := by
  unfold arcV
  rw [h _ hp]
theorem tell_better (W : WFs S) (P : Plain S) (C : ChOk S ch) {x : Vec} (hx : ∀ i, i < S.length → x i = lfp (tell S ch) i) : Better (tell S ch) (tell S (betterCh S x ch)) := by
  have C' := better_ChOk W (x := x) C
  obtain ⟨_, _, h3⟩ := betterCh_ok W (x := x) C.len S.length (Nat.le_refl _)
  refine ⟨by rw [tell_len, tell_len], tell_wf W C, tell_wf W C', tell_told P, fun i F G hF hG => ?_⟩
  rw [tell_at] at hF hG
  obtain ⟨A, hA, e1⟩ := Option.map_eq_some_iff.mp hF
  rw [hA] at hG
  have e2 : tellF (chAt (betterCh S x ch) i) A = G := Option.some.inj hG
  subst e1 e2
  have hi := (List.getElem?_eq_some_iff.mp hA).1
  rcases h3 i hi with ⟨z1, _⟩ | ⟨as, k, z1, z2, z3, z4, z5⟩
  · left
    unfold chAt
    have : (betterCh S x ch).getD i none = ch.getD i none := by
      rw [List.getD_eq_getElem?_getD, List.getD_eq_getElem?_getD]
      rw [show (betterCh S x ch)[i]? = ch[i]? from z1]
    rw [this]
  · right
    rw [hA] at z1
    cases z1
    refine ⟨⟨_, rfl⟩, ?_⟩
    have z3 : (betterCh S x ch)[i]? = some (some k) := z3
    show ¬ leA (val (.gst [as.getD (chAt (betterCh S x ch) i) (0, 0)]) _) _
    rw [chAt_of z3]
    show ¬ leA (val (.gst [_]) _) _
    rw [gst1, ← hx i hi, ← arcV_congr hx ((W i _ hA).2 _ (getD_mem z2))]
    exact z4
/-- no choice is changed: the solution is that of the sheet -/
theorem settled_end (W : WFs S) (C : ChOk S ch) {x : Vec} (hx : ∀ i, i < S.length → x i = lfp (tell S ch) i) (e : betterCh S x ch = ch) : ∀ i, i < S.length → x i = lfp S i := by
  obtain ⟨_, _, h3⟩ := betterCh_ok W (x := x) C.len S.length (Nat.le_refl _)
  have hT : ∀ {i : Nat} {A : Fm}, S[i]? = some A → (tell S ch)[i]? = some (tellF (chAt ch i) A) := fun {i A} h => by rw [tell_at, h]; rfl
  have high : High S x := by
    intro i F hF
    have hi := (List.getElem?_eq_some_iff.mp hF).1
    have eq : val (tellF (chAt ch i) F) x = x i := by
      have wT := tell_wf W C i _ (hT hF)
      rw [tell_len] at wT
      rw [val_congr hx wT, lfp_eq (hT hF), hx i hi]
    rcases h3 i hi with ⟨_, z2⟩ | ⟨as, k, z1, z2, z3, z4, z5⟩
    · cases F with
      | gst as => exact z2 as hF
      | _ =>
        rw [← eq]
        exact leA_refl _
    · rw [hF] at z1
      cases z1
      exfalso
      apply z4
      have z3' : ch[i]? = some (some k) := by
        rw [← e]
        exact z3
      have eq : val (.gst [as.getD (chAt ch i) (0, 0)]) x = x i := eq
      rw [chAt_of z3', gst1] at eq
      rw [eq]
      exact leA_refl _
  intro i hi
  refine leA_antisymm ?_ (lfp_le high i)
  rw [hx i hi]
  refine lfp_le (fun j F hF => ?_) i
  have hj := (List.getElem?_eq_some_iff.mp hF).1
  rw [tell_len] at hj
  obtain ⟨A, hA⟩ : ∃ A, S[j]? = some A := ⟨S[j], List.getElem?_eq_getElem hj⟩
  rw [hT hA] at hF
  cases hF
  refine leA_trans ?_ (lfp_high S j A hA)
  cases A with
  | gst as =>
    obtain ⟨k, h1, h2⟩ := C.at_ j as hA
    show leA (val (.gst [_]) _) _
    rw [gst1, chAt_of h1]
    exact gst_le.mp (leA_refl _) _ (getD_mem h2)
  | _ => exact leA_refl _
theorem settledFrom_ok (W : WFs S) (P : Plain S) (hS : 0 < S.length) {a c : Nat} (B : ShBd a c S) : ∀ (m : Nat) (ch : List (Option Nat)), ChOk S ch → mu (a + S.length * c) (lfp (tell S ch)) S.length ≤ m →
    ∃ k r, settledFrom S k ch = some r ∧ r.1 = lfpL S ∧ r.2.length = S.length := by
  intro m
  induction m using Nat.strongRecOn with
  | ind m ih =>
    intro ch C hm
    obtain ⟨x, x1, x2, x3⟩ := leastWith_ok W P C hS
    by_cases e : betterCh S (at_ x) ch = ch
    · refine ⟨1, (x, ch), ?_, list_of_at x2 (settled_end W C x3 e), C.len⟩
      show (match leastWith S ch with | none => none | some x => if betterCh S (at_ x) ch = ch then some (x, ch) else settledFrom S 0 (betterCh S (at_ x) ch)) = _
      rw [x1]
      show (if betterCh S (at_ x) ch = ch then some (x, ch) else settledFrom S 0 (betterCh S (at_ x) ch)) = _
      rw [if_pos e]
    · have C' := better_ChOk W (x := at_ x) C
      have hB := tell_better W P C x3
      have grow := hB.grows
      rw [tell_len] at grow
      -- some cell has another choice
      have hex : ∃ i, i < S.length ∧ ¬ leA (lfp (tell S (betterCh S (at_ x) ch)) i) (lfp (tell S ch) i) := by
        apply Classical.byContradiction
        intro hn
        apply e
        obtain ⟨h1, _, h3⟩ := betterCh_ok W (x := at_ x) C.len S.length (Nat.le_refl _)
        refine List.ext_getElem? fun i => ?_
        by_cases hi : i < S.length
        · rcases h3 i hi with ⟨z1, _⟩ | ⟨as, k, z1, z2, z3, z4, z5⟩
          · exact z1
          · exfalso
            apply hn
            refine ⟨i, hi, fun q => z4 (leA_trans ?_ (leA_trans q ?_))⟩
            · have hT : (tell S (betterCh S (at_ x) ch))[i]? = some (.gst [as.getD k (0, 0)]) := by
                have z3 : (betterCh S (at_ x) ch)[i]? = some (some k) := z3
                rw [tell_at, z1]
                show some (Fm.gst [as.getD (chAt (betterCh S (at_ x) ch) i) (0, 0)]) = _
                rw [chAt_of z3]
              rw [← lfp_eq hT, gst1, arcV_congr x3 ((W i _ z1).2 _ (getD_mem z2))]
              exact shA_mono _ (grow _ ((W i _ z1).2 _ (getD_mem z2)))
            · rw [x3 i hi]
              exact leA_refl _
        · rw [List.getElem?_eq_none (by rw [show (betterCh S (at_ x) ch).length = S.length from h1]; omega), List.getElem?_eq_none (by rw [C.len]; omega)]
      obtain ⟨i, hi, hlt⟩ := hex
      have less := mu_lt (B := a + S.length * c) grow ⟨i, hi, hlt, by
        have q := lfp_within (tell_wf W C) (tell_bd C B) (i := i) (by rw [tell_len]; exact hi)
        rw [tell_len] at q
        exact q, by
        have q := lfp_within (tell_wf W C') (tell_bd C' B) (i := i) (by rw [tell_len]; exact hi)
        rw [tell_len] at q
        exact q⟩
      obtain ⟨k, r, k1, k2⟩ := ih _ (Nat.lt_of_lt_of_le less hm) (betterCh S (at_ x) ch) C' (Nat.le_refl _)
      refine ⟨k + 1, r, ?_, k2⟩
      show (match leastWith S ch with | none => none | some x => if betterCh S (at_ x) ch = ch then some (x, ch) else settledFrom S k (betterCh S (at_ x) ch)) = _
      rw [x1]
      show (if betterCh S (at_ x) ch = ch then some (x, ch) else settledFrom S k (betterCh S (at_ x) ch)) = _
      rw [if_neg e]
      exact k1
theorem settled_ok (W : WFs S) (P : Plain S) (hS : 0 < S.length) : ∃ k r, settledFrom S k (initCh S) = some r ∧ r.1 = lfpL S ∧ r.2.length = S.length := by
  obtain ⟨a, c, B⟩ := sh_bd' S
  exact settledFrom_ok W P hS B _ (initCh S) (initCh_ok W) (Nat.le_refl _)
end
/-! ### stages -/
def openF (places : List Nat) (i : Nat) : Fm → Fm
  | .whn _ _ k => if i ∈ places then .gst [(k, 0)] else .amt (some 0)
  | F => F
def opened (S : List Fm) (places : List Nat) : List Fm := S.mapIdx fun i F => openF places i F
def isWhn : Option Fm → Bool
  | some (.whn _ _ _) => true
  | _ => false
def conds (S : List Fm) : List Nat := (List.range S.length).filter fun i => isWhn S[i]?
def fulB (S : List Fm) (x : Vec) (i : Nat) : Bool := match S[i]? with
  | some (.whn j a _) => decide (leA (some a) (x j))
  | _ => false
def fulfilled (S : List Fm) (x : Vec) : List Nat := (conds S).filter (fulB S x)
noncomputable def stagesFrom (S : List Fm) : Nat → List Nat → Option (List Am)
  | 0, _ => none
  | k + 1, places => if fulfilled S (at_ (lfpL (opened S places))) = places then some (lfpL (opened S places)) else stagesFrom S k (fulfilled S (at_ (lfpL (opened S places))))
section
variable {S : List Fm} {places : List Nat}
theorem opened_at (i : Nat) : (opened S places)[i]? = S[i]?.map (openF places i) := by
  unfold opened
  rw [List.getElem?_mapIdx]
theorem opened_len : (opened S places).length = S.length := by
  unfold opened
  rw [List.length_mapIdx]
theorem opened_wf (W : WFs S) : WFs (opened S places) := fun i F h => by
  rw [opened_len]
  rw [opened_at] at h
  obtain ⟨G, hG, e⟩ := Option.map_eq_some_iff.mp h
  have wG := W i G hG
  subst e
  cases G with
  | whn j a k =>
    show WFm _ (if i ∈ places then .gst [(k, 0)] else .amt (some 0))
    split
    · exact ⟨List.cons_ne_nil _ _, fun p hp => by rw [List.mem_singleton.mp hp]; exact wG.2⟩
    · trivial
  | _ => exact wG
theorem opened_plain : Plain (opened S places) := fun i F h j a k e => by
  rw [opened_at] at h
  obtain ⟨G, hG, e2⟩ := Option.map_eq_some_iff.mp h
  subst e2
  cases G with
  | whn j' a' k' =>
    have e : (if i ∈ places then Fm.gst [(k', 0)] else .amt (some 0)) = .whn j a k := e
    split at e <;> cases e
  | _ => cases e
theorem shA_zero (a : Am) : shA a 0 = a := by
  cases a with
  | none => rfl
  | some n =>
    show some (((n : Int) + 0).toNat) = some n
    congr 1
theorem mem_fulfilled {x : Vec} {i : Nat} : i ∈ fulfilled S x ↔ ∃ j a k, S[i]? = some (.whn j a k) ∧ leA (some a) (x j) := by
  unfold fulfilled
  rw [List.mem_filter]
  constructor
  · rintro ⟨h1, h2⟩
    unfold fulB at h2
    split at h2
    · rename_i j a k e
      exact ⟨j, a, k, e, of_decide_eq_true h2⟩
    · cases h2
  · rintro ⟨j, a, k, e, h⟩
    refine ⟨?_, ?_⟩
    · unfold conds
      rw [List.mem_filter, List.mem_range]
      refine ⟨(List.getElem?_eq_some_iff.mp e).1, ?_⟩
      rw [e]
      rfl
    · unfold fulB
      rw [e]
      exact decide_eq_true h
theorem fulB_mono {x y : Vec} (h : leV x y) (i : Nat) (hb : fulB S x i = true) : fulB S y i = true := by
  unfold fulB at hb ⊢
  split at hb
  · exact decide_eq_true (leA_trans (of_decide_eq_true hb) (h _))
  · cases hb
theorem high_opened {z : Vec} (hz : High S z) (hp : ∀ i ∈ places, i ∈ fulfilled S z) : High (opened S places) z := fun i F h => by
  rw [opened_at] at h
  obtain ⟨G, hG, e⟩ := Option.map_eq_some_iff.mp h
  have q := hz i G hG
  subst e
  cases G with
  | whn j a k =>
    show leA (val (if i ∈ places then .gst [(k, 0)] else .amt (some 0)) z) (z i)
    by_cases c : i ∈ places
    · rw [if_pos c, gst1]
      obtain ⟨j', a', k', e1, e2⟩ := mem_fulfilled.mp (hp i c)
      rw [hG] at e1
      cases e1
      have q : leA (if leA (some a) (z j) then z k else some 0) (z i) := q
      rw [if_pos e2] at q
      show leA (shA (z k) 0) (z i)
      rw [shA_zero]
      exact q
    · rw [if_neg c]
      exact leA_zero _
  | _ => exact q
theorem opened_mono {pl : List Nat} (h : ∀ i ∈ places, i ∈ pl) : leV (lfp (opened S places)) (lfp (opened S pl)) := lfp_mono fun i F z hF hz => by
  rw [opened_at] at hF
  obtain ⟨G, hG, e⟩ := Option.map_eq_some_iff.mp hF
  have hG' : (opened S pl)[i]? = some (openF pl i G) := by rw [opened_at, hG]; rfl
  have q := hz i _ hG'
  subst e
  cases G with
  | whn j a k =>
    show leA (val (if i ∈ places then .gst [(k, 0)] else .amt (some 0)) z) (z i)
    have q : leA (val (if i ∈ pl then .gst [(k, 0)] else .amt (some 0)) z) (z i) := q
    by_cases c : i ∈ places
    · rw [if_pos c]
      rw [if_pos (h i c)] at q
      exact q
    · rw [if_neg c]
      exact leA_zero _
  | _ => exact q
theorem stages_end (W : WFs S) (hz : ∀ z, High S z → ∀ i ∈ places, i ∈ fulfilled S z) (e : fulfilled S (at_ (lfpL (opened S places))) = places) : lfpL (opened S places) = lfpL S := by
  have ha : ∀ i, i < S.length → at_ (lfpL (opened S places)) i = lfp (opened S places) i := fun i hi => lfpL_at (by rw [opened_len]; exact hi)
  have high : High S (lfp (opened S places)) := fun i G hG => by
    have hi := (List.getElem?_eq_some_iff.mp hG).1
    have hT : (opened S places)[i]? = some (openF places i G) := by rw [opened_at, hG]; rfl
    have eq := lfp_eq hT
    cases G with
    | whn j a k =>
      have wG := W i _ hG
      have eq : val (if i ∈ places then .gst [(k, 0)] else .amt (some 0)) (lfp (opened S places)) = lfp (opened S places) i := eq
      show leA (if leA (some a) (lfp (opened S places) j) then lfp (opened S places) k else some 0) _
      by_cases c : leA (some a) (lfp (opened S places) j)
      · have m : i ∈ places := by
          rw [← e]
          exact mem_fulfilled.mpr ⟨j, a, k, hG, by rw [ha j wG.1]; exact c⟩
        rw [if_pos m, gst1] at eq
        rw [if_pos c, ← eq]
        show leA _ (shA _ 0)
        rw [shA_zero]
        exact leA_refl _
      · rw [if_neg c]
        exact leA_zero _
    | _ =>
      rw [← eq]
      exact leA_refl _
  refine at_ext (by rw [lfpL_len, lfpL_len, opened_len]) fun i hi => ?_
  rw [lfpL_len] at hi
  rw [ha i hi, lfpL_at hi]
  exact leA_antisymm (lfp_le (high_opened (lfp_high S) (hz _ (lfp_high S))) i) (lfp_le high i)
theorem stagesFrom_ok (W : WFs S) : ∀ (m : Nat) (p : Nat → Bool), (∀ i ∈ (conds S).filter p, i ∈ fulfilled S (at_ (lfpL (opened S ((conds S).filter p))))) → (∀ z, High S z → ∀ i ∈ (conds S).filter p, i ∈ fulfilled S z) →
    S.length ≤ m + ((conds S).filter p).length → ∃ k, k ≤ m + 1 ∧ stagesFrom S k ((conds S).filter p) = some (lfpL S) := by
  intro m
  induction m using Nat.strongRecOn with
  | ind m ih =>
    intro p h1 h2 hm
    have ha : ∀ pl : List Nat, ∀ i, i < S.length → at_ (lfpL (opened S pl)) i = lfp (opened S pl) i := fun pl i hi => lfpL_at (by rw [opened_len]; exact hi)
    by_cases e : fulfilled S (at_ (lfpL (opened S ((conds S).filter p)))) = (conds S).filter p
    · refine ⟨1, by omega, ?_⟩
      show (if fulfilled S (at_ (lfpL (opened S ((conds S).filter p)))) = (conds S).filter p then some (lfpL (opened S ((conds S).filter p))) else _) = _
      rw [if_pos e, stages_end W h2 e]
    · have hlt : ((conds S).filter p).length < (fulfilled S (at_ (lfpL (opened S ((conds S).filter p))))).length := by
        refine filter_lt (fun a ha hp => ?_) ?_
        · exact (List.mem_filter.mp (h1 a (List.mem_filter.mpr ⟨ha, hp⟩))).2
        · apply Classical.byContradiction
          intro hn
          apply e
          refine List.filter_congr fun a ha => ?_
          cases q : p a with
          | true => exact (List.mem_filter.mp (h1 a (List.mem_filter.mpr ⟨ha, q⟩))).2
          | false =>
            cases q2 : fulB S (at_ (lfpL (opened S ((conds S).filter p)))) a with
            | false => rfl
            | true => exact absurd ⟨a, ha, q2, q⟩ hn
      have hlen : (fulfilled S (at_ (lfpL (opened S ((conds S).filter p))))).length ≤ S.length := by
        have q1 := List.length_filter_le (fulB S (at_ (lfpL (opened S ((conds S).filter p))))) (conds S)
        have q2 : (conds S).length ≤ S.length := by
          have := List.length_filter_le (fun i => isWhn S[i]?) (List.range S.length)
          rw [List.length_range] at this
          exact this
        exact Nat.le_trans q1 q2
      -- in the cells of the sheet a list of amounts is the solution
      have inF : ∀ (pl : List Nat) (i : Nat), i ∈ fulfilled S (at_ (lfpL (opened S pl))) ↔ i ∈ fulfilled S (lfp (opened S pl)) := fun pl i => by
        rw [mem_fulfilled, mem_fulfilled]
        constructor
        · rintro ⟨j, a, k, e1, e2⟩
          exact ⟨j, a, k, e1, by rw [← ha pl j (W i _ e1).1]; exact e2⟩
        · rintro ⟨j, a, k, e1, e2⟩
          exact ⟨j, a, k, e1, by rw [ha pl j (W i _ e1).1]; exact e2⟩
      have mono : ∀ {x y : Vec} {i : Nat}, leV x y → i ∈ fulfilled S x → i ∈ fulfilled S y := fun {x y i} h hi => by
        obtain ⟨z1, z2⟩ := List.mem_filter.mp hi
        exact List.mem_filter.mpr ⟨z1, fulB_mono h i z2⟩
      obtain ⟨k, hkm, hk⟩ := ih (m - 1) (by omega) (fulB S (at_ (lfpL (opened S ((conds S).filter p)))))
        (fun i hi => by
          have hi : i ∈ fulfilled S (at_ (lfpL (opened S ((conds S).filter p)))) := hi
          refine (inF _ i).mpr (mono (opened_mono fun j hj => ?_) ((inF _ i).mp hi))
          exact h1 j hj)
        (fun z hz i hi => by
          have hi : i ∈ fulfilled S (at_ (lfpL (opened S ((conds S).filter p)))) := hi
          exact mono (lfp_le (high_opened hz (h2 z hz))) ((inF _ i).mp hi))
        (by
          have hlt : ((conds S).filter p).length < ((conds S).filter (fulB S (at_ (lfpL (opened S ((conds S).filter p)))))).length := hlt
          have hlen : ((conds S).filter (fulB S (at_ (lfpL (opened S ((conds S).filter p)))))).length ≤ S.length := hlen
          omega)
      refine ⟨k + 1, by omega, ?_⟩
      show (if fulfilled S (at_ (lfpL (opened S ((conds S).filter p)))) = (conds S).filter p then _ else stagesFrom S k (fulfilled S (at_ (lfpL (opened S ((conds S).filter p)))))) = _
      rw [if_neg e]
      exact hk
theorem stages_ok (W : WFs S) : ∃ k, k ≤ S.length + 1 ∧ stagesFrom S k [] = some (lfpL S) := by
  have e : (conds S).filter (fun _ => false) = [] := by
    rw [List.filter_eq_nil_iff]
    exact fun a _ z => nomatch z
  obtain ⟨k, hkm, hk⟩ := stagesFrom_ok W S.length (fun _ => false) (fun i hi => by rw [e] at hi; exact (List.not_mem_nil hi).elim) (fun z hz i hi => by rw [e] at hi; exact (List.not_mem_nil hi).elim) (by omega)
  rw [e] at hk
  exact ⟨k, hkm, hk⟩
end
end CS
namespace CS
/-! ### the law's own least solution -/
def trunc (B : Nat) : Am → Am
  | none => none
  | some v => if B < v then none else some v
theorem trunc_ge (B : Nat) (v : Am) : leA v (trunc B v) := by
  cases v with
  | none => trivial
  | some v =>
    unfold trunc
    show leA (some v) (if B < v then none else some v)
    split
    · exact leA_none _
    · exact leA_refl _
theorem trunc_within (B : Nat) (v : Am) : within B (trunc B v) := by
  cases v with
  | none => trivial
  | some v =>
    show within B (if B < v then none else some v)
    split
    · trivial
    · show v ≤ B
      omega
theorem trunc_mono {B : Nat} {v w : Am} (h : leA v w) : leA (trunc B v) (trunc B w) := by
  cases w with
  | none => exact leA_none _
  | some w =>
    cases v with
    | none => exact absurd h id
    | some v =>
      have h : v ≤ w := h
      show leA (if B < v then none else some v) (if B < w then none else some w)
      by_cases c : B < w
      · rw [if_pos c]
        exact leA_none _
      · rw [if_neg c, if_neg (by omega)]
        exact h
theorem trunc_le {B : Nat} {v w : Am} (h : leA v w) (hw : within B w) : leA (trunc B v) w := by
  cases w with
  | none => exact leA_none _
  | some w =>
    cases v with
    | none => exact absurd h id
    | some v =>
      have h : v ≤ w := h
      have hw : w ≤ B := hw
      show leA (if B < v then none else some v) (some w)
      rw [if_neg (by omega)]
      exact h
def lawRound (S : List Fm) (B : Nat) (x : List Am) : List Am := S.map fun F => trunc B (val F (at_ x))
def lawIter (S : List Fm) (B : Nat) : Nat → List Am → List Am
  | 0, x => x
  | k + 1, x => if lawRound S B x = x then x else lawIter S B k (lawRound S B x)
theorem lawRound_len {S : List Fm} {B : Nat} {x : List Am} : (lawRound S B x).length = S.length := List.length_map ..
theorem lawRound_at {S : List Fm} {B : Nat} {x : List Am} {i : Nat} {F : Fm} (h : S[i]? = some F) : at_ (lawRound S B x) i = trunc B (val F (at_ x)) := by
  refine at_get ?_
  unfold lawRound
  rw [List.getElem?_map, h]
  rfl
section
variable {S : List Fm} {a C : Nat}
structure LawInv (S : List Fm) (B : Nat) (x : List Am) : Prop where
  len : x.length = S.length
  le : ∀ i, i < S.length → leA (at_ x i) (lfp S i)
  low : ∀ i, i < S.length → leA (at_ x i) (at_ (lawRound S B x) i)
  win : ∀ i, i < S.length → within B (at_ x i)
theorem val_mono_n {n : Nat} {x y : Vec} (h : ∀ i, i < n → leA (x i) (y i)) {F : Fm} (w : WFm n F) : leA (val F x) (val F y) := by
  have e1 : val F x = val F (fun i => if i < n then x i else some 0) := val_congr (n := n) (fun i hi => (if_pos hi).symm) w
  have e2 : val F y = val F (fun i => if i < n then y i else some 0) := val_congr (n := n) (fun i hi => (if_pos hi).symm) w
  rw [e1, e2]
  refine val_mono (fun i => ?_) F
  show leA (if i < n then x i else some 0) (if i < n then y i else some 0)
  split
  · rename_i c
    exact h i c
  · exact leA_refl _
theorem lawInv_next (W : WFs S) (B : ShBd a C S) {x : List Am} (I : LawInv S (a + S.length * C) x) : LawInv S (a + S.length * C) (lawRound S (a + S.length * C) x) := by
  refine ⟨lawRound_len, fun i hi => ?_, fun i hi => ?_, fun i hi => ?_⟩
  · have hF := List.getElem?_eq_getElem hi
    rw [lawRound_at hF]
    refine trunc_le ?_ (lfp_within W B hi)
    rw [← lfp_eq hF]
    exact val_mono_n I.le (W i _ hF)
  · have hF := List.getElem?_eq_getElem hi
    rw [lawRound_at hF, lawRound_at hF]
    exact trunc_mono (val_mono_n I.low (W i _ hF))
  · have hF := List.getElem?_eq_getElem hi
    rw [lawRound_at hF]
    exact trunc_within _ _
theorem law_fix (W : WFs S) {B : Nat} {x : List Am} (I : LawInv S B x) (e : lawRound S B x = x) : x = lfpL S := by
  have high : High S (at_ x) := fun i F hF => by
    have q : at_ (lawRound S B x) i = at_ x i := by rw [e]
    rw [lawRound_at hF] at q
    rw [← q]
    exact trunc_ge _ _
  refine at_ext (by rw [I.len, lfpL_len]) fun i hi => ?_
  rw [lfpL_len] at hi
  rw [lfpL_at hi]
  exact leA_antisymm (I.le i hi) (lfp_le high i)
theorem lawIter_ok (W : WFs S) (B : ShBd a C S) : ∀ (k : Nat) (x : List Am), LawInv S (a + S.length * C) x → mu (a + S.length * C) (at_ x) S.length < k → lawIter S (a + S.length * C) k x = lfpL S
  | 0, x, _, h => absurd h (Nat.not_lt_zero _)
  | k + 1, x, I, h => by
    by_cases e : lawRound S (a + S.length * C) x = x
    · show (if lawRound S (a + S.length * C) x = x then x else _) = _
      rw [if_pos e]
      exact law_fix W I e
    · show (if lawRound S (a + S.length * C) x = x then x else lawIter S (a + S.length * C) k (lawRound S (a + S.length * C) x)) = _
      rw [if_neg e]
      have I' := lawInv_next W B I
      refine lawIter_ok W B k _ I' ?_
      have hlt := mu_lt (B := a + S.length * C) I.low (by
        apply Classical.byContradiction
        intro hn
        apply e
        refine at_ext (by rw [lawRound_len, I.len]) fun i hi => ?_
        rw [I.len] at hi
        refine leA_antisymm ?_ (I.low i hi)
        apply Classical.byContradiction
        intro q
        exact hn ⟨i, hi, q, I.win i hi, I'.win i hi⟩)
      omega
theorem at_zero (n i : Nat) (h : i < n) : at_ (List.replicate n (some 0)) i = some 0 := by
  refine at_get ?_
  rw [List.getElem?_replicate_of_lt h]
theorem lawLeast_ok (W : WFs S) (B : ShBd a C S) : lawIter S (a + S.length * C) (S.length * (a + S.length * C + 3) + 3) (List.replicate S.length (some 0)) = lfpL S := by
  refine lawIter_ok W B _ _ ⟨List.length_replicate, fun i hi => ?_, fun i hi => ?_, fun i hi => ?_⟩ ?_
  · rw [at_zero _ _ hi]
    exact leA_zero _
  · rw [at_zero _ _ hi]
    exact leA_zero _
  · rw [at_zero _ _ hi]
    exact Nat.zero_le _
  · have := mu_top (a + S.length * C) (at_ (List.replicate S.length (some 0))) S.length
    have : S.length * (a + S.length * C + 1) ≤ S.length * (a + S.length * C + 3) := Nat.mul_le_mul_left _ (by omega)
    omega
end
/-! ### needs and answers -/
/-- the amount of a cell with the input set to b -/
noncomputable def ans (S : List Fm) (i cell : Nat) (b : Nat) : Am := lfp (setIn S i (some b)) cell
def Reach (S : List Fm) (i cell goal b : Nat) : Prop := leA (some goal) (ans S i cell b)
theorem reach_mono {S : List Fm} {i cell goal b c : Nat} (h : b ≤ c) (r : Reach S i cell goal b) : Reach S i cell goal c := leA_trans r (setIn_mono (S := S) (i := i) (a := some b) (b := some c) h cell)
theorem reach_goal {S : List Fm} {i cell goal g b : Nat} (h : goal ≤ g) (r : Reach S i cell g b) : Reach S i cell goal b := leA_trans (show leA (some goal) (some g) from h) r
/-- what need tells -/
def NeedIs (S : List Fm) (i cell goal : Nat) : Option Nat → Prop
  | none => ¬ Reach S i cell goal (1000 + 2000 * S.length)
  | some b => Reach S i cell goal b ∧ ∀ c, c < b → ¬ Reach S i cell goal c
/-- a sheet as the law draws it -/
structure LawSheet (S : List Fm) : Prop where
  wf : WFs S
  pos : 0 < S.length
  most : S.length ≤ 10
  bd : ShBd 12 5 S
  dn : ∀ (j : Nat) (F : Fm), S[j]? = some F → FmDn 50 5 F
section
variable {S : List Fm} {i cell goal : Nat}
theorem reach_105 (L : LawSheet S) (hg : goal ≤ 50) {b : Nat} (r : Reach S i cell goal b) : Reach S i cell goal 105 := by
  have hm := L.most
  exact reach_small (S := S) L.wf (m := goal) (T := 50) (D := 5) (b' := some b) hg (by omega) L.dn r
theorem need_small (L : LawSheet S) (hg : goal ≤ 50) {b : Nat} (h : NeedIs S i cell goal (some b)) : b ≤ 105 := by
  apply Classical.byContradiction
  intro z
  exact h.2 105 (by omega) (reach_105 L hg h.1)
theorem need_none (L : LawSheet S) (hg : goal ≤ 50) (h : NeedIs S i cell goal none) : ∀ b, ¬ Reach S i cell goal b := fun b r => h (reach_mono (by omega) (reach_105 L hg r))
theorem need_later_none (L : LawSheet S) {g : Nat} (hg : g ≤ 50) (hgg : goal ≤ g) (h : NeedIs S i cell goal none) {r : Option Nat} (h2 : NeedIs S i cell g r) : r = none := by
  cases r with
  | none => rfl
  | some b => exact absurd (reach_goal hgg h2.1) (need_none L (by omega) h b)
theorem need_later {g b c : Nat} (hgg : goal ≤ g) (h : NeedIs S i cell goal (some b)) (h2 : NeedIs S i cell g (some c)) : b ≤ c := by
  apply Classical.byContradiction
  intro z
  exact h.2 c (by omega) (reach_goal hgg h2.1)
end
/-- the steps of the answers up to k - 1 -/
noncomputable def stepB (f : Nat → Am) (b : Nat) : Bool := by
  classical exact decide (b = 0 ∨ f b ≠ f (b - 1))
noncomputable def answersTo (f : Nat → Am) (k : Nat) : List (Nat × Am) := ((List.range k).filter (stepB f)).map fun b => (b, f b)
theorem stepB_true {f : Nat → Am} {b : Nat} : stepB f b = true ↔ (b = 0 ∨ f b ≠ f (b - 1)) := by
  unfold stepB
  exact decide_eq_true_iff
theorem answersTo_succ (f : Nat → Am) (k : Nat) : answersTo f (k + 1) = if stepB f k = true then answersTo f k ++ [(k, f k)] else answersTo f k := by
  unfold answersTo
  rw [List.range_succ, List.filter_append, List.map_append, List.filter_cons]
  split
  · rfl
  · exact List.append_nil _
/-- the last step told is that of the number before -/
theorem answersTo_last (f : Nat → Am) : ∀ (k : Nat), ∃ l b, answersTo f (k + 1) = l ++ [(b, f k)]
  | 0 => ⟨[], 0, by
    rw [answersTo_succ, if_pos (stepB_true.mpr (.inl rfl))]
    rfl⟩
  | k + 1 => by
    obtain ⟨l, b, e⟩ := answersTo_last f k
    rw [answersTo_succ]
    by_cases c : stepB f (k + 1) = true
    · rw [if_pos c]
      exact ⟨_, _, rfl⟩
    · rw [if_neg c]
      have h : f (k + 1) = f k := by
        apply Classical.byContradiction
        intro z
        exact c (stepB_true.mpr (.inr z))
      exact ⟨l, b, by rw [e, h]⟩
theorem answersTo_len (f : Nat → Am) (k : Nat) : (answersTo f k).length ≤ k := by
  unfold answersTo
  rw [List.length_map]
  have := List.length_filter_le (stepB f) (List.range k)
  rw [List.length_range] at this
  exact this
/-- the first step that reaches the goal -/
theorem reached_none {f : Nat → Am} {goal k : Nat} (h : ∀ b, b < k → ¬ leA (some goal) (f b)) : (answersTo f k).filter (fun p => decide (leA (some goal) p.2)) = [] := by
  refine List.filter_eq_nil_iff.mpr fun p hp q => ?_
  unfold answersTo at hp
  obtain ⟨b, hb, e⟩ := List.mem_map.mp hp
  subst e
  exact h b (List.mem_range.mp (List.mem_filter.mp hb).1) (of_decide_eq_true q)
theorem reached_some {f : Nat → Am} {goal b : Nat} (h1 : leA (some goal) (f b)) (h2 : ∀ c, c < b → ¬ leA (some goal) (f c)) : ∀ (k : Nat), b < k → ∃ l, (answersTo f k).filter (fun p => decide (leA (some goal) p.2)) = (b, f b) :: l
  | 0, h => absurd h (Nat.not_lt_zero _)
  | k + 1, h => by
    rw [answersTo_succ]
    by_cases e : b = k
    · subst e
      have st : stepB f b = true := by
        refine stepB_true.mpr ?_
        by_cases z : b = 0
        · exact .inl z
        · right
          intro q
          apply h2 (b - 1) (by omega)
          rw [← q]
          exact h1
      rw [if_pos st, List.filter_append, reached_none h2, List.filter_cons, if_pos (decide_eq_true h1)]
      exact ⟨_, rfl⟩
    · obtain ⟨l, hl⟩ := reached_some h1 h2 k (by omega)
      split
      · rw [List.filter_append, hl]
        exact ⟨_, rfl⟩
      · exact ⟨l, hl⟩
end CS
namespace CW
open PySem PySem.Spec PyProof.Rows L2 CS
def topS (i : Nat) : Stmt := PySem.Challenge.pw_circlesettle_k75_whole_needs_and_answers.main.body.getD i (.Pass ⟨0, 0, 0, 0⟩)
/-! ### defs that are known -/
structure Stands (K : PySem.W.Frag) (mg : Str → Option Value) (x : Str) (st : Stmt) : Prop where
  ex : ∃ (f : Addr) (fd : FuncData), mg x = some (.ref f) ∧ Fun K x x st f fd
structure Kn (P : Program) (w : World) (K : PySem.W.Frag) (mg : Str → Option Value) (base : Heap) (k : Nat) (x : Str) (ps : List Str) (sp : Sp) : Prop where
  ex : ∃ (f : Addr) (fd : FuncData), mg x = some (.ref f) ∧ PySem.W.keepIn K (.ref f) = true ∧ Binds K fd ps [] ∧ FnOk P w K mg base CX0 k f fd ps sp
theorem Kn.mono {P : Program} {w : World} {K : PySem.W.Frag} {mg : Str → Option Value} {base : Heap} {j k : Nat} {x : Str} {ps : List Str} {sp : Sp} (G : Kn P w K mg base j x ps sp) (h : j ≤ k) : Kn P w K mg base k x ps sp := by
  obtain ⟨f, fd, h1, h2, h3, h4⟩ := G.ex
  exact ⟨f, fd, h1, h2, h3, h4.mono h⟩
section
variable {P : Program} {w : World} {K : PySem.W.Frag} {mg : Str → Option Value} {base : Heap}
def BindEq (x : Str) (st : Stmt) (ps : List Str) : Prop := ∀ (kV doc pm : Value) (an : Option Addr) (cdv ct : Value) (us : List Value), us.length = ps.length → bindArgs (PySem.W.fnOf x x (defArgs st) (defBody st) (defScope st) .none kV doc pm an cdv ct) ⟨us, []⟩ = pure (ps.zip us)
theorem kn_of {x : Str} {st : Stmt} {N ps : List Str} {k : Nat} {sp : Sp} (D : Stands K mg x st) (S : FnScope N ps (defScope st)) (hb : BindEq x st ps) (len : ∀ vs H Q E, sp vs H Q E → vs.length = ps.length)
    (hbody : ∀ (f : Addr) (cdv : Value) (A : Around) (outer : List Env) (s : Shared) (H : Hp) (vs : List V) (Q : VK) (E : XK), Room k (A.deeper (envOfC x (defScope st) s.heap.objs.size f cdv)) → sp vs H Q E →
      ∃ t, PSs (cxOf CX0 P w K mg base N x (defScope st) f cdv A outer s H E).nox (defBody st) t ∧ t { nx := fun _ H' => Q .non H', rt := Q } (start N vs) H) : Kn P w K mg base (k + 1) x ps sp := by
  obtain ⟨f, fd, hm, F⟩ := D.ex
  exact ⟨f, fd, hm, F.kp, F.binds hb, F.ok S len fun cdv A outer s H vs Q E hr h => hbody f cdv A outer s H vs Q E hr h⟩
end
section
variable {X : Cx} {k : Nat} {x : Str} {ps : List Str} {sp : Sp} {p pos : Pos} {e : Expr} {es : List Expr} {t : TA}
theorem pe_kn (G : Kn X.prog X.w X.K X.mg X.base k x ps sp) (hr : Room k X.A) (hg : Gl X x) (ha : PA X (e :: es) t) (hdb : (x == ("__debug__" : Str)) = false := by decide)
    (he : starEach (e :: es) X.env = (false, eval e X.env) :: starEach es X.env := by rfl) (hpl : (backTo pos (starEach es X.env)).any (·.1) = false := by rfl) : PE X (.Call (.Name x p) (e :: es) [] pos) (tCall sp [] E0 t) := by
  obtain ⟨f, fd, hm, hk, hb, F⟩ := G.ex
  exact pe_call F hr hg hm hk hb .nil pass0 ha hdb he hpl
end
/-! ### heaps -/
theorem same_upd {H : Hp} {p : Addr} {o : HO} (h : H p = none) : Same H (upd H p o) := fun b x e => by
  rw [upd_ne (ne_of_none e h)]
  exact e
/-- what was not tracked at first may change -/
theorem same_mut {H H' : Hp} {p : Addr} {o : HO} (e : Same H H') (h : H p = none) : Same H (upd H' p o) := fun b x hb => by
  rw [upd_ne (ne_of_none hb h)]
  exact e b x hb
/-- all but the tables stay -/
abbrev Xt (H H' : Hp) : Prop := LamX.ExtN H H'
theorem Xt.of_same {H H' : Hp} (e : Same H H') : Xt H H' := LamX.ExtN.of e
theorem Xt.lst {H H' : Hp} {a : Addr} {xs : List V} (e : Xt H H') (h : H a = some (.lst xs)) : H' a = some (.lst xs) := e a _ h fun _ z => nomatch z
theorem Xt.tup {H H' : Hp} {a : Addr} {xs : List V} (e : Xt H H') (h : H a = some (.tup xs)) : H' a = some (.tup xs) := e a _ h fun _ z => nomatch z
theorem upd_none_of {H : Hp} {a b : Addr} {o : HO} (h : upd H a o b = none) : b ≠ a ∧ H b = none := by
  by_cases e : b = a
  · subst e
    rw [upd_same] at h
    cases h
  · rw [upd_ne e] at h
    exact ⟨e, h⟩
/-! ### pairs -/
theorem paired_get {α β : Type} {R : α → β → Prop} : ∀ {xs : List α} {ys : List β}, Paired R xs ys → ∀ {i : Nat} {x : α}, xs[i]? = some x → ∃ y, ys[i]? = some y ∧ R x y
  | _, _, .nil, i, x, h => by simp at h
  | _, _, .cons r t, 0, x, h => by
    have e : _ = x := Option.some.inj h
    subst e
    exact ⟨_, rfl, r⟩
  | _, _, .cons r t, i + 1, x, h => paired_get t (i := i) h
theorem paired_get' {α β : Type} {R : α → β → Prop} : ∀ {xs : List α} {ys : List β}, Paired R xs ys → ∀ {i : Nat} {y : β}, ys[i]? = some y → ∃ x, xs[i]? = some x ∧ R x y
  | _, _, .nil, i, x, h => by simp at h
  | _, _, .cons r t, 0, x, h => by
    have e : _ = x := Option.some.inj h
    subst e
    exact ⟨_, rfl, r⟩
  | _, _, .cons r t, i + 1, x, h => paired_get' t (i := i) h
theorem paired_app {α β : Type} {R : α → β → Prop} : ∀ {xs : List α} {ys : List β}, Paired R xs ys → ∀ {x : α} {y : β}, R x y → Paired R (xs ++ [x]) (ys ++ [y])
  | _, _, .nil, _, _, r => .cons r .nil
  | _, _, .cons q t, _, _, r => .cons q (paired_app t r)
theorem paired_set {α β : Type} {R : α → β → Prop} : ∀ {xs : List α} {ys : List β}, Paired R xs ys → ∀ {x : α} {y : β} (i : Nat), R x y → Paired R (xs.set i x) (ys.set i y)
  | _, _, .nil, _, _, _, _ => .nil
  | _, _, .cons q t, _, _, 0, r => .cons r t
  | _, _, .cons q t, _, _, i + 1, r => .cons q (paired_set t i r)
theorem paired_map {α β γ : Type} {R : α → β → Prop} {f : γ → α} {g : γ → β} : ∀ {l : List γ}, (∀ c ∈ l, R (f c) (g c)) → Paired R (l.map f) (l.map g)
  | [], _ => .nil
  | c :: l, h => .cons (h c List.mem_cons_self) (paired_map fun d hd => h d (List.mem_cons_of_mem _ hd))
/-! ### what stands in the heap -/
def amV : Am → V
  | none => .non
  | some n => .int (n : Int)
theorem amV_inj {a b : Am} (h : amV a = amV b) : a = b := by
  cases a with
  | none =>
    cases b with
    | none => rfl
    | some b => cases h
  | some a =>
    cases b with
    | none => cases h
    | some b =>
      have e := V.int.inj h
      exact congrArg some (by omega)
def arcX (p : Arc) : List V := [.int (p.1 : Int), .int p.2]
def ArcAt (H : Hp) (v : V) (p : Arc) : Prop := ∃ t, v = .ref t ∧ H t = some (.tup (arcX p))
def ArcsAt (H : Hp) (a : Addr) (as : List Arc) : Prop := ∃ vs, H a = some (.lst vs) ∧ Paired (ArcAt H) vs as
def FmAt (H : Hp) (v : V) : Fm → Prop
  | .amt a => ∃ t, v = .ref t ∧ H t = some (.tup [.str "amount", amV a])
  | .lst as => ∃ t l, v = .ref t ∧ H t = some (.tup [.str "least", .ref l]) ∧ ArcsAt H l as
  | .gst as => ∃ t l, v = .ref t ∧ H t = some (.tup [.str "greatest", .ref l]) ∧ ArcsAt H l as
  | .whn j a k => ∃ t, v = .ref t ∧ H t = some (.tup [.str "when", .int (j : Int), .int (a : Int), .int (k : Int)])
def ShAt (H : Hp) (a : Addr) (S : List Fm) : Prop := ∃ vs, H a = some (.lst vs) ∧ Paired (FmAt H) vs S
def AmsAt (H : Hp) (a : Addr) (x : List Am) : Prop := H a = some (.lst (x.map amV))
def AassAt (H : Hp) (a : Addr) (arcs : List (List Arc)) : Prop := ∃ vs, H a = some (.lst vs) ∧ Paired (fun v as => ∃ l, v = .ref l ∧ ArcsAt H l as) vs arcs
def nat2V (n : Nat) : V := .int (n : Int)
def opV : Option Nat → V
  | none => .non
  | some n => .int (n : Int)
section
variable {H H' : Hp}
theorem ArcAt.xt (e : Xt H H') {v : V} {p : Arc} (h : ArcAt H v p) : ArcAt H' v p := by
  obtain ⟨t, h1, h2⟩ := h
  exact ⟨t, h1, e.tup h2⟩
theorem ArcsAt.xt (e : Xt H H') {a : Addr} {as : List Arc} (h : ArcsAt H a as) : ArcsAt H' a as := by
  obtain ⟨vs, h1, h2⟩ := h
  exact ⟨vs, e.lst h1, Paired.mapP h2 fun _ _ q => q.xt e⟩
theorem FmAt.xt (e : Xt H H') {v : V} : ∀ {F : Fm}, FmAt H v F → FmAt H' v F
  | .amt a, ⟨t, h1, h2⟩ => ⟨t, h1, e.tup h2⟩
  | .lst as, ⟨t, l, h1, h2, h3⟩ => ⟨t, l, h1, e.tup h2, h3.xt e⟩
  | .gst as, ⟨t, l, h1, h2, h3⟩ => ⟨t, l, h1, e.tup h2, h3.xt e⟩
  | .whn j a k, ⟨t, h1, h2⟩ => ⟨t, h1, e.tup h2⟩
theorem ShAt.xt (e : Xt H H') {a : Addr} {S : List Fm} (h : ShAt H a S) : ShAt H' a S := by
  obtain ⟨vs, h1, h2⟩ := h
  exact ⟨vs, e.lst h1, Paired.mapP h2 fun _ _ q => q.xt e⟩
theorem AmsAt.xt (e : Xt H H') {a : Addr} {x : List Am} (h : AmsAt H a x) : AmsAt H' a x := e.lst h
theorem AassAt.xt (e : Xt H H') {a : Addr} {arcs : List (List Arc)} (h : AassAt H a arcs) : AassAt H' a arcs := by
  obtain ⟨vs, h1, h2⟩ := h
  exact ⟨vs, e.lst h1, Paired.mapP h2 fun _ _ ⟨l, q1, q2⟩ => ⟨l, q1, q2.xt e⟩⟩
end
/-- an item at a place -/
theorem at_nat {xs : List V} {j : Nat} {v : V} (h : xs[j]? = some v) : atI xs (j : Int) = some v := atI_nat h
theorem sz {n : Nat} (h : n ≤ 100000) : n ≤ sizeLine := Nat.le_trans h (by decide)
theorem szl {n : Nat} (h : n < 100000) : n < sizeLine := Nat.lt_of_lt_of_le h (by decide)
theorem ixN_at {n j : Nat} (hj : j < n) : ixN n (j : Int) = some j := by
  unfold ixN
  rw [if_pos (by omega), if_pos (by omega)]
  simp
/-- the kinds' names are unlike -/
theorem dS (x y : Str) (b : Bool) (h : decide (V.str x = V.str y) = b) : decide (V.str x = V.str y) = b := h
end CW
namespace CW
open PySem PySem.Spec PyProof.Rows L2 CS
/-! ### folds by turns -/
def runTo {α β : Type} (f : β → α → β) (b : β) (xs : List α) (i : Nat) : β := (xs.take i).foldl f b
theorem runTo_zero {α β : Type} (f : β → α → β) (b : β) (xs : List α) : runTo f b xs 0 = b := rfl
theorem runTo_succ {α β : Type} {f : β → α → β} {b : β} {xs : List α} {i : Nat} {x : α} (h : xs[i]? = some x) : runTo f b xs (i + 1) = f (runTo f b xs i) x := by
  unfold runTo
  rw [List.take_add_one, h, List.foldl_append]
  rfl
theorem runTo_all {α β : Type} (f : β → α → β) (b : β) (xs : List α) : runTo f b xs xs.length = xs.foldl f b := by
  unfold runTo
  rw [List.take_length]
theorem map_some {α β : Type} {f : α → β} {xs : List α} {i : Nat} {y : β} (h : (xs.map f)[i]? = some y) : ∃ x, xs[i]? = some x ∧ y = f x := by
  rw [List.getElem?_map] at h
  cases e : xs[i]? with
  | none =>
    rw [e] at h
    cases h
  | some x =>
    rw [e] at h
    exact ⟨x, rfl, (Option.some.inj h).symm⟩
theorem am_ext {a b : Am} (h : ∀ v, leA v a ↔ leA v b) : a = b := leA_antisymm ((h a).mp (leA_refl a)) ((h b).mpr (leA_refl b))
theorem am_ext' {a b : Am} (h : ∀ v, leA a v ↔ leA b v) : a = b := leA_antisymm ((h b).mpr (leA_refl b)) ((h a).mp (leA_refl a))
def loStep (f one : Am) : Am := if leA one f then one else f
def hiStep (f one : Am) : Am := if leA f one then one else f
theorem loStep_pos {f one : Am} (h : leA one f) : loStep f one = one := if_pos h
theorem loStep_neg {f one : Am} (h : ¬ leA one f) : loStep f one = f := if_neg h
theorem hiStep_pos {f one : Am} (h : leA f one) : hiStep f one = one := if_pos h
theorem hiStep_neg {f one : Am} (h : ¬ leA f one) : hiStep f one = f := if_neg h
theorem lo_fold {v : Am} : ∀ {l : List Am} {f : Am}, leA v (l.foldl loStep f) ↔ leA v f ∧ ∀ y ∈ l, leA v y
  | [], f => ⟨fun h => ⟨h, fun y hy => (List.not_mem_nil hy).elim⟩, fun h => h.1⟩
  | a :: l, f => by
    rw [List.foldl_cons, lo_fold (l := l)]
    have e : leA v (loStep f a) ↔ leA v a ∧ leA v f := le_minA (a := a) (b := f)
    rw [e]
    exact ⟨fun ⟨⟨h1, h2⟩, h3⟩ => ⟨h2, fun y hy => (List.mem_cons.mp hy).elim (fun z => z ▸ h1) (h3 y)⟩, fun ⟨h1, h2⟩ => ⟨⟨h2 a List.mem_cons_self, h1⟩, fun y hy => h2 y (List.mem_cons_of_mem _ hy)⟩⟩
theorem hi_fold {v : Am} : ∀ {l : List Am} {f : Am}, leA (l.foldl hiStep f) v ↔ leA f v ∧ ∀ y ∈ l, leA y v
  | [], f => ⟨fun h => ⟨h, fun y hy => (List.not_mem_nil hy).elim⟩, fun h => h.1⟩
  | a :: l, f => by
    rw [List.foldl_cons, hi_fold (l := l)]
    have e : leA (hiStep f a) v ↔ leA f v ∧ leA a v := maxA_le (a := f) (b := a)
    rw [e]
    exact ⟨fun ⟨⟨h1, h2⟩, h3⟩ => ⟨h1, fun y hy => (List.mem_cons.mp hy).elim (fun z => z ▸ h2) (h3 y)⟩, fun ⟨h1, h2⟩ => ⟨⟨h1, h2 a List.mem_cons_self⟩, fun y hy => h2 y (List.mem_cons_of_mem _ hy)⟩⟩
theorem lo_all {a : Am} {l : List Am} : (a :: l).foldl loStep a = minOf (a :: l) := am_ext fun v => by
  rw [lo_fold, le_minOf]
  exact ⟨fun h => h.2, fun h => ⟨h a List.mem_cons_self, h⟩⟩
theorem hi_all {a : Am} {l : List Am} : (a :: l).foldl hiStep a = maxOf (a :: l) := am_ext' fun v => by
  rw [hi_fold, maxOf_le]
  exact ⟨fun h => h.2, fun h => ⟨h a List.mem_cons_self, h⟩⟩
section
variable {P : Program} {w : World} {K : PySem.W.Frag} {mg : Str → Option Value} {base : Heap} {k : Nat}
/-! ### at_most -/
abbrev sAtMost : Stmt := topS 1
theorem scAtMost : FnScope ["a", "b"] ["a", "b"] (defScope sAtMost) := ⟨rfl, rfl, rfl, by decide +kernel, rfl, by decide +kernel, by decide +kernel⟩
def spAtMost : Sp := fun vs H Q _ => ∃ a b : Am, vs = [amV a, amV b] ∧ Q (.bl (decide (leA a b))) H
theorem kn_at_most (D : Stands K mg "at_most" sAtMost) : Kn P w K mg base (k + 1) "at_most" ["a", "b"] spAtMost := by
  refine kn_of D scAtMost (fun _ _ _ _ _ _ us hl => match us, hl with | [_, _], _ => rfl) (fun vs H Q E h => ?_) (fun f cdv A outer s H vs Q E hr h => ?_)
  · obtain ⟨a, b, rfl, _⟩ := h
    rfl
  · obtain ⟨a, b, rfl, q⟩ := h
    refine ⟨_, pss_cons (ps_if (pt_cmpR op_isN (pv 1) pe_non (nomark _)) (pss_one (ps_ret pe_bl)) pss_nil)
      (pss_one (ps_ret (pe_and (pe_cmpR op_notN (pv 0) pe_non (nomark _)) (pe_one (pe_cmpR op_le (pv 0) (pv 1) (nomark _)))))), ?_⟩
    cases b with
    | none =>
      refine ⟨.non, rfl, rfl, true, rfl, iteT ?_⟩
      rw [show decide (leA a none) = true from decide_eq_true (leA_none a)] at q
      exact q
    | some b =>
      refine ⟨.int b, rfl, rfl, false, rfl, iteF ?_⟩
      cases a with
      | none => exact ⟨.non, rfl, rfl, false, rfl, iteF q⟩
      | some a =>
        refine ⟨.int a, rfl, rfl, true, rfl, iteT ⟨.int a, rfl, .int b, rfl, a, b, rfl, rfl, ?_⟩⟩
        have e : decide ((a : Int) ≤ (b : Int)) = decide (leA (some a) (some b)) := decide_eq_decide.mpr ⟨fun h => Int.ofNat_le.mp h, fun h => Int.ofNat_le.mpr h⟩
        show Q (.bl (decide ((a : Int) ≤ (b : Int)))) H
        rw [e]
        exact q
/-! ### shifted -/
abbrev sShifted : Stmt := topS 4
theorem scShifted : FnScope ["a", "c"] ["a", "c"] (defScope sShifted) := ⟨rfl, rfl, rfl, by decide +kernel, rfl, by decide +kernel, by decide +kernel⟩
def spShifted : Sp := fun vs H Q _ => ∃ (a : Am) (c : Int), vs = [amV a, .int c] ∧ Q (amV (shA a c)) H
theorem kn_shifted (D : Stands K mg "shifted" sShifted) (mm : mg "max" = none) : Kn P w K mg base (k + 1) "shifted" ["a", "c"] spShifted := by
  refine kn_of D scShifted (fun _ _ _ _ _ _ us hl => match us, hl with | [_, _], _ => rfl) (fun vs H Q E h => ?_) (fun f cdv A outer s H vs Q E hr h => ?_)
  · obtain ⟨a, b, rfl, _⟩ := h
    rfl
  · obtain ⟨a, c, rfl, q⟩ := h
    refine ⟨_, pss_cons (ps_if (pt_cmpR op_isN (pv 0) pe_non (nomark _)) (pss_one (ps_ret pe_non)) pss_nil)
      (pss_one (ps_ret (pe_callB (call_max2 rfl) (by rfl) mm (by decide +kernel) (pa_cons pe_int (pa_cons (pe_op op_add (pv 0) (pv 1)) pa_nil))))), ?_⟩
    cases a with
    | none => exact ⟨.non, rfl, rfl, true, rfl, iteT q⟩
    | some a =>
      refine ⟨.int a, rfl, rfl, false, rfl, iteF ?_⟩
      refine ⟨.int a, rfl, .int c, rfl, a, c, rfl, rfl, 0, (a : Int) + c, rfl, ?_⟩
      have e : (if (a : Int) + c > 0 then (a : Int) + c else 0) = ((((a : Int) + c).toNat : Nat) : Int) := by
        split <;> omega
      rw [e]
      exact q
/-! ### least_of, greatest_of -/
abbrev sLeastOf : Stmt := topS 2
abbrev sGreatestOf : Stmt := topS 3
theorem scLeastOf : FnScope ["amounts", "found", "one"] ["amounts"] (defScope sLeastOf) := ⟨rfl, rfl, rfl, by decide +kernel, rfl, by decide +kernel, by decide +kernel⟩
theorem scGreatestOf : FnScope ["amounts", "found", "one"] ["amounts"] (defScope sGreatestOf) := ⟨rfl, rfl, rfl, by decide +kernel, rfl, by decide +kernel, by decide +kernel⟩
def spLeastOf : Sp := fun vs H Q _ => ∃ (l : Addr) (x : List Am), vs = [.ref l] ∧ AmsAt H l x ∧ x ≠ [] ∧ Q (amV (minOf x)) H
def spGreatestOf : Sp := fun vs H Q _ => ∃ (l : Addr) (x : List Am), vs = [.ref l] ∧ AmsAt H l x ∧ x ≠ [] ∧ Q (amV (maxOf x)) H
theorem kn_least_of (D : Stands K mg "least_of" sLeastOf) (G : Kn P w K mg base k "at_most" ["a", "b"] spAtMost) : Kn P w K mg base (k + 1) "least_of" ["amounts"] spLeastOf := by
  refine kn_of D scLeastOf (fun _ _ _ _ _ _ us hl => match us, hl with | [_], _ => rfl) (fun vs H Q E h => ?_) (fun f cdv A outer s H vs Q E hr h => ?_)
  · obtain ⟨a, b, rfl, _⟩ := h
    rfl
  · obtain ⟨l, x, rfl, hl, hx, q⟩ := h
    obtain ⟨a, r, rfl⟩ : ∃ a r, x = a :: r := List.exists_cons_of_ne_nil hx
    refine ⟨_, pss_cons (ps_set (i := 1) scLeastOf.nd rfl (.inl rfl) (pe_ix ix_list (pv 0) pe_int (fun _ _ => rfl)))
      (pss_cons (ps_for PassesOwn.never rfl (pi_list (pv 0)) (pg_name (i := 2) scLeastOf.nd rfl (.inl rfl))
        (pss_one (ps_if (pt_val (pe_kn G hr (by rfl) (pa_cons (pv 2) (pa_cons (pv 1) pa_nil)))) (pss_one (ps_set (i := 1) scLeastOf.nd rfl (.inl rfl) (pv 2))) pss_nil)))
      (pss_one (ps_ret (pv 1)))), ?_⟩
    have hS : SqL K H l ((a :: r).map amV) := SqL.of hl
    refine ⟨.ref l, rfl, l, _, 0, amV a, rfl, rfl, hS, atI_nat (j := 0) rfl, ?_⟩
    refine ⟨.ref l, rfl, l, rfl, ⟨_, hS⟩, for_it walk_list (fun i σ H' => ∃ y, σ = [some (.ref l), some (amV (runTo loStep a (a :: r) i)), y] ∧ H' = H) ⟨none, rfl, rfl⟩ (fun i σ H' _ ⟨y, _, e⟩ => e ▸ hS)
      (fun i v σ H1 H2 hi ⟨y, e1, e2⟩ hY => ?_) (fun σ H' ⟨y, e1, e2⟩ => ?_)⟩
    · subst e1 e2
      obtain ⟨rfl, hv⟩ := hY
      obtain ⟨b, hb, rfl⟩ := map_some hv
      refine ⟨amV b, rfl, amV (runTo loStep a (a :: r) i), rfl, b, runTo loStep a (a :: r) i, rfl, _, rfl, ite2 (fun c => ?_) (fun c => ?_)⟩
      · refine ⟨amV b, rfl, some (amV b), ?_, rfl⟩
        rw [runTo_succ hb, loStep_pos (of_decide_eq_true c)]
        rfl
      · refine ⟨some (amV b), ?_, rfl⟩
        rw [runTo_succ hb, loStep_neg (fun z => c (decide_eq_true z))]
        rfl
    · subst e1 e2
      refine ⟨_, rfl, ?_⟩
      rw [List.length_map, runTo_all, lo_all]
      exact q
theorem kn_greatest_of (D : Stands K mg "greatest_of" sGreatestOf) (G : Kn P w K mg base k "at_most" ["a", "b"] spAtMost) : Kn P w K mg base (k + 1) "greatest_of" ["amounts"] spGreatestOf := by
  refine kn_of D scGreatestOf (fun _ _ _ _ _ _ us hl => match us, hl with | [_], _ => rfl) (fun vs H Q E h => ?_) (fun f cdv A outer s H vs Q E hr h => ?_)
  · obtain ⟨a, b, rfl, _⟩ := h
    rfl
  · obtain ⟨l, x, rfl, hl, hx, q⟩ := h
    obtain ⟨a, r, rfl⟩ : ∃ a r, x = a :: r := List.exists_cons_of_ne_nil hx
    refine ⟨_, pss_cons (ps_set (i := 1) scGreatestOf.nd rfl (.inl rfl) (pe_ix ix_list (pv 0) pe_int (fun _ _ => rfl)))
      (pss_cons (ps_for PassesOwn.never rfl (pi_list (pv 0)) (pg_name (i := 2) scGreatestOf.nd rfl (.inl rfl))
        (pss_one (ps_if (pt_val (pe_kn G hr (by rfl) (pa_cons (pv 1) (pa_cons (pv 2) pa_nil)))) (pss_one (ps_set (i := 1) scGreatestOf.nd rfl (.inl rfl) (pv 2))) pss_nil)))
      (pss_one (ps_ret (pv 1)))), ?_⟩
    have hS : SqL K H l ((a :: r).map amV) := SqL.of hl
    refine ⟨.ref l, rfl, l, _, 0, amV a, rfl, rfl, hS, atI_nat (j := 0) rfl, ?_⟩
    refine ⟨.ref l, rfl, l, rfl, ⟨_, hS⟩, for_it walk_list (fun i σ H' => ∃ y, σ = [some (.ref l), some (amV (runTo hiStep a (a :: r) i)), y] ∧ H' = H) ⟨none, rfl, rfl⟩ (fun i σ H' _ ⟨y, _, e⟩ => e ▸ hS)
      (fun i v σ H1 H2 hi ⟨y, e1, e2⟩ hY => ?_) (fun σ H' ⟨y, e1, e2⟩ => ?_)⟩
    · subst e1 e2
      obtain ⟨rfl, hv⟩ := hY
      obtain ⟨b, hb, rfl⟩ := map_some hv
      refine ⟨amV (runTo hiStep a (a :: r) i), rfl, amV b, rfl, runTo hiStep a (a :: r) i, b, rfl, _, rfl, ite2 (fun c => ?_) (fun c => ?_)⟩
      · refine ⟨amV b, rfl, some (amV b), ?_, rfl⟩
        rw [runTo_succ hb, hiStep_pos (of_decide_eq_true c)]
        rfl
      · refine ⟨some (amV b), ?_, rfl⟩
        rw [runTo_succ hb, hiStep_neg (fun z => c (decide_eq_true z))]
        rfl
    · subst e1 e2
      refine ⟨_, rfl, ?_⟩
      rw [List.length_map, runTo_all, hi_all]
      exact q
end
end CW
namespace CW
open PySem PySem.Spec PyProof.Rows L2 CS
theorem iteFd {b : Bool} {A B : Prop} (h : b = false) (x : B) : if b = true then A else B := by
  rw [h]
  exact iteF x
theorem iteTd {b : Bool} {A B : Prop} (h : b = true) (x : A) : if b = true then A else B := by
  rw [h]
  exact iteT x
/-- all but what stands at D is as it was -/
def SameBut (D : Addr) (H H' : Hp) : Prop := ∀ b o, b ≠ D → H b = some o → H' b = some o
theorem SameBut.of {D : Addr} {H H' : Hp} (e : Same H H') : SameBut D H H' := fun b o _ h => e b o h
theorem SameBut.upd {D : Addr} {H H' : Hp} {o : HO} (e : SameBut D H H') : SameBut D H (upd H' D o) := fun b u n h => by
  rw [upd_ne n]
  exact e b u n h
/-- a comprehension without a test: each turn brings an item of which R holds -/
theorem lc_rel {J : It} {n : Nat} {G : Hp → Prop} {Y : Nat → Hp → V → Hp → Prop} (w : Walk J n G Y) {g : TG} {te : TE} {vs : List Nat} {σ : L2.St} {H1 : Hp} {D : Addr} {Qd : Hp → Prop} (hD : H1 D = none) (R : Nat → V → Hp → Prop)
    (hR : ∀ i y H H', SameBut D H H' → R i y H → R i y H') (hG : ∀ H', Same H1 H' → G H') (hn : n ≤ 90000)
    (turn : ∀ i x H H', i < n → Same H1 H → H D ≠ none → Y i H x H' → ∀ Q : VK, (∀ y H4, Same H H4 → R i y H4 → Q y H4) → g x (wipe σ vs) H' fun σ2 H2 => wipe σ2 vs = wipe σ vs ∧ te σ2 H2 Q)
    (hd : ∀ H' ys, Same H1 H' → H' D = some (.lst ys) → ys.length = n → (∀ i y, ys[i]? = some y → R i y H') → Qd H') :
    ∃ W : Nat → Nat → Hp → Prop, (∃ m, W 0 m (upd H1 D (.lst []))) ∧ ∀ i m H, W i m H →
      (J.stop i H ∧ Qd H) ∨ (J.go i H ∧ ∃ Nx : Hp → Prop, (∀ H', Nx H' → ∃ m', m' < m ∧ W (i + 1) m' H') ∧ ∀ x H', J.yld i H x H' → g x (wipe σ vs) H' fun σ2 H2 => wipe σ2 vs = wipe σ vs ∧ tYes σ2 H2 fun b H3 =>
        if b = true then te σ2 H3 fun y H4 => ∃ acc, H4 D = some (.lst acc) ∧ acc.length < sizeLine ∧ Nx (upd H4 D (.lst (acc ++ [y]))) else Nx H3) := by
  refine lc_it w (fun i H => Same H1 H ∧ ∃ ys, H D = some (.lst ys) ∧ ys.length = i ∧ ∀ j y, ys[j]? = some y → R j y H) ⟨same_upd hD, [], upd_same, rfl, fun j y h => nomatch h⟩ (fun i H _ h => hG H h.1)
    (fun i x H H' hi h y => ?_) fun H ⟨h1, ys, h2, h3, h4⟩ => hd H ys h1 h2 h3 h4
  obtain ⟨h1, ys, h2, h3, h4⟩ := h
  refine turn i x H H' hi h1 (by rw [h2]; exact fun z => nomatch z) y _ fun z H4 e r => ?_
  have nb : SameBut D H (upd H4 D (.lst (ys ++ [z]))) := (SameBut.of e).upd
  refine ⟨ys, e D _ h2, szl (by omega), same_mut (h1.trans e) hD, ys ++ [z], upd_same, by rw [List.length_append, h3]; rfl, fun j u hu => ?_⟩
  by_cases hj : j < ys.length
  · rw [List.getElem?_append_left hj] at hu
    exact hR j u H _ nb (h4 j u hu)
  · have ej : j = ys.length := by
      have := (List.getElem?_eq_some_iff.mp hu).1
      rw [List.length_append] at this
      have : j < ys.length + 1 := this
      omega
    subst ej
    rw [List.getElem?_append_right (Nat.le_refl _), Nat.sub_self] at hu
    have hu : z = u := Option.some.inj hu
    subst hu
    rw [h3]
    exact hR i z H4 _ (SameBut.upd (SameBut.of (Same.refl H4))) r
/-- .. whose items are told -/
theorem lc_vals {J : It} {n : Nat} {G : Hp → Prop} {Y : Nat → Hp → V → Hp → Prop} (w : Walk J n G Y) {g : TG} {te : TE} {vs : List Nat} {σ : L2.St} {H1 : Hp} {D : Addr} {Qd : Hp → Prop} (hD : H1 D = none) (f : Nat → V)
    (hG : ∀ H', Same H1 H' → G H') (hn : n ≤ 90000)
    (turn : ∀ i x H H', i < n → Same H1 H → H D ≠ none → Y i H x H' → ∀ Q : VK, (∀ H4, Same H H4 → Q (f i) H4) → g x (wipe σ vs) H' fun σ2 H2 => wipe σ2 vs = wipe σ vs ∧ te σ2 H2 Q)
    (hd : ∀ H', Same H1 H' → H' D = some (.lst ((List.range n).map f)) → Qd H') :
    ∃ W : Nat → Nat → Hp → Prop, (∃ m, W 0 m (upd H1 D (.lst []))) ∧ ∀ i m H, W i m H →
      (J.stop i H ∧ Qd H) ∨ (J.go i H ∧ ∃ Nx : Hp → Prop, (∀ H', Nx H' → ∃ m', m' < m ∧ W (i + 1) m' H') ∧ ∀ x H', J.yld i H x H' → g x (wipe σ vs) H' fun σ2 H2 => wipe σ2 vs = wipe σ vs ∧ tYes σ2 H2 fun b H3 =>
        if b = true then te σ2 H3 fun y H4 => ∃ acc, H4 D = some (.lst acc) ∧ acc.length < sizeLine ∧ Nx (upd H4 D (.lst (acc ++ [y]))) else Nx H3) :=
  lc_rel w hD (fun i y _ => y = f i) (fun _ _ _ _ _ e => e) hG hn (fun i x H H' hi h1 h2 y Q q => turn i x H H' hi h1 h2 y Q fun H4 e => q _ H4 e rfl) fun H' ys h1 h2 h3 h4 => hd H' h1 (by
    have e : ys = (List.range n).map f := by
      refine List.ext_getElem? fun i => ?_
      by_cases hi : i < n
      · have hi' : i < ys.length := by omega
        rw [List.getElem?_map, List.getElem?_range hi, List.getElem?_eq_getElem hi', h4 i _ (List.getElem?_eq_getElem hi')]
        rfl
      · rw [List.getElem?_eq_none (by omega), List.getElem?_eq_none (by rw [List.length_map, List.length_range]; omega)]
    rw [← e]
    exact h2)
/-- .. with a test -/
theorem lc_filt {J : It} {n : Nat} {G : Hp → Prop} {Y : Nat → Hp → V → Hp → Prop} (w : Walk J n G Y) {g : TG} {tt : TT} {te : TE} {vs : List Nat} {σ : L2.St} {H1 : Hp} {D : Addr} {Qd : Hp → Prop} (hD : H1 D = none) (t : Nat → Bool) (f : Nat → V)
    (hG : ∀ H', Same H1 H' → G H') (hn : n ≤ 90000)
    (turn : ∀ i x H H', i < n → Same H1 H → H D ≠ none → Y i H x H' → ∀ (Q : V → Hp → Prop) (Q0 : Hp → Prop), (∀ H4, Same H H4 → t i = true → Q (f i) H4) → (∀ H4, Same H H4 → t i = false → Q0 H4) →
      g x (wipe σ vs) H' fun σ2 H2 => wipe σ2 vs = wipe σ vs ∧ tt σ2 H2 fun b H3 => if b = true then te σ2 H3 Q else Q0 H3)
    (hd : ∀ H', Same H1 H' → H' D = some (.lst (((List.range n).filter t).map f)) → Qd H') :
    ∃ W : Nat → Nat → Hp → Prop, (∃ m, W 0 m (upd H1 D (.lst []))) ∧ ∀ i m H, W i m H →
      (J.stop i H ∧ Qd H) ∨ (J.go i H ∧ ∃ Nx : Hp → Prop, (∀ H', Nx H' → ∃ m', m' < m ∧ W (i + 1) m' H') ∧ ∀ x H', J.yld i H x H' → g x (wipe σ vs) H' fun σ2 H2 => wipe σ2 vs = wipe σ vs ∧ tt σ2 H2 fun b H3 =>
        if b = true then te σ2 H3 fun y H4 => ∃ acc, H4 D = some (.lst acc) ∧ acc.length < sizeLine ∧ Nx (upd H4 D (.lst (acc ++ [y]))) else Nx H3) := by
  refine lc_it w (fun i H => Same H1 H ∧ H D = some (.lst (((List.range i).filter t).map f))) ⟨same_upd hD, upd_same⟩ (fun i H _ h => hG H h.1)
    (fun i x H H' hi h y => ?_) fun H ⟨h1, h2⟩ => hd H h1 h2
  obtain ⟨h1, h2⟩ := h
  have hl : (((List.range i).filter t).map f).length ≤ i := by
    rw [List.length_map]
    have := List.length_filter_le t (List.range i)
    rw [List.length_range] at this
    exact this
  refine turn i x H H' hi h1 (by rw [h2]; exact fun z => nomatch z) y _ _ (fun H4 e ht => ?_) fun H4 e ht => ?_
  · refine ⟨_, e D _ h2, szl (by omega), same_mut (h1.trans e) hD, ?_⟩
    rw [List.range_succ, List.filter_append, List.map_append, List.filter_cons, if_pos ht]
    exact upd_same
  · refine ⟨h1.trans e, ?_⟩
    rw [List.range_succ, List.filter_append, List.map_append, List.filter_cons, if_neg (by rw [ht]; exact Bool.false_ne_true)]
    show H4 D = some (.lst (_ ++ []))
    rw [List.append_nil]
    exact e D _ h2
/-- values by place are the values of a list -/
theorem map_range_get {α β : Type} {f : α → β} {d : α} : ∀ (l : List α), (List.range l.length).map (fun i => f (l.getD i d)) = l.map f := fun l => by
  refine List.ext_getElem? fun i => ?_
  by_cases hi : i < l.length
  · rw [List.getElem?_map, List.getElem?_range hi, List.getElem?_map, List.getElem?_eq_getElem hi]
    show some (f (l.getD i d)) = some (f l[i])
    rw [List.getD_eq_getElem?_getD, List.getElem?_eq_getElem hi]
    rfl
  · rw [List.getElem?_eq_none (by rw [List.length_map, List.length_range]; omega), List.getElem?_eq_none (by rw [List.length_map]; omega)]
theorem getD_of {α : Type} {l : List α} {i : Nat} {a d : α} (h : l[i]? = some a) : l.getD i d = a := by
  rw [List.getD_eq_getElem?_getD, h]
  rfl
/-- range from 0 on -/
theorem walk_range0 {n : Nat} : Walk (Itr 0 n) n (fun _ => True) (fun i H x H' => H' = H ∧ x = .int (i : Int)) :=
  walk_range.mono (fun _ h => h) fun i H x H' _ _ y => ⟨y.1, by
    rw [y.2]
    show V.int (0 + (i : Int)) = _
    rw [Int.zero_add]⟩
/-! ### the kinds' names -/
theorem kAA : decide (V.str "amount" = V.str "amount") = true := decide_eq_true rfl
theorem kLA : decide (V.str "least" = V.str "amount") = false := by decide +kernel
theorem kGA : decide (V.str "greatest" = V.str "amount") = false := by decide +kernel
theorem kWA : decide (V.str "when" = V.str "amount") = false := by decide +kernel
theorem kWW : decide (V.str "when" = V.str "when") = true := decide_eq_true rfl
theorem kAW : decide (V.str "amount" = V.str "when") = false := by decide +kernel
theorem kLW : decide (V.str "least" = V.str "when") = false := by decide +kernel
theorem kGW : decide (V.str "greatest" = V.str "when") = false := by decide +kernel
theorem kLL : decide (V.str "least" = V.str "least") = true := decide_eq_true rfl
theorem kGL : decide (V.str "greatest" = V.str "least") = false := by decide +kernel
theorem kAL : decide (V.str "amount" = V.str "least") = false := by decide +kernel
theorem kWL : decide (V.str "when" = V.str "least") = false := by decide +kernel
theorem kGG : decide (V.str "greatest" = V.str "greatest") = true := decide_eq_true rfl
theorem kAG : decide (V.str "amount" = V.str "greatest") = false := by decide +kernel
theorem kLG : decide (V.str "least" = V.str "greatest") = false := by decide +kernel
theorem kWG : decide (V.str "when" = V.str "greatest") = false := by decide +kernel
end CW
namespace CW
open PySem PySem.Spec PyProof.Rows L2 CS
section
variable {P : Program} {w : World} {K : PySem.W.Frag} {mg : Str → Option Value} {base : Heap} {k : Nat}
/-! ### flat_value -/
abbrev sFlatValue : Stmt := topS 10
theorem scFlatValue : FnScope ["formula", "x", "kind", "amounts", "cell", "shift"] ["formula", "x"] (defScope sFlatValue) := ⟨rfl, rfl, rfl, by decide +kernel, rfl, by decide +kernel, by decide +kernel⟩
def spFlatValue : Sp := fun vs H Q _ => ∃ (v : V) (F : Fm) (l : Addr) (x : List Am), vs = [v, .ref l] ∧ FmAt H v F ∧ WFm x.length F ∧ (∀ as, F = .lst as ∨ F = .gst as → as.length ≤ 1000) ∧ AmsAt H l x ∧ ∀ H', Same H H' → Q (amV (val F (at_ x))) H'
theorem kn_flat_value (D : Stands K mg "flat_value" sFlatValue) (GA : Kn P w K mg base k "at_most" ["a", "b"] spAtMost) (GS : Kn P w K mg base k "shifted" ["a", "c"] spShifted)
    (GL : Kn P w K mg base k "least_of" ["amounts"] spLeastOf) (GG : Kn P w K mg base k "greatest_of" ["amounts"] spGreatestOf) : Kn P w K mg base (k + 1) "flat_value" ["formula", "x"] spFlatValue := by
  refine kn_of D scFlatValue (fun _ _ _ _ _ _ us hl => match us, hl with | [_, _], _ => rfl) (fun vs H Q E h => ?_) (fun f cdv A outer s H vs Q E hr h => ?_)
  · obtain ⟨v, F, l, x, rfl, _⟩ := h
    rfl
  · obtain ⟨v, F, l, x, rfl, hF, wF, hsz, hx, q⟩ := h
    refine ⟨_, pss_cons (ps_set (i := 2) scFlatValue.nd rfl (.inl rfl) (pe_ix ix_tup (pv 0) pe_int (fun _ _ => rfl)))
      (pss_cons (ps_if (pt_cmpR op_eq (pv 2) pe_str (nomark _)) (pss_one (ps_ret (pe_ix ix_tup (pv 0) pe_int (fun _ _ => rfl)))) pss_nil)
      (pss_cons (ps_if (pt_cmpR op_eq (pv 2) pe_str (nomark _))
        (pss_one (ps_ret (pe_ifExp (pt_val (pe_kn GA hr (by rfl) (pa_cons (pe_ix ix_tup (pv 0) pe_int (fun _ _ => rfl)) (pa_cons (pe_ix ix_list (pv 1) (pe_ix ix_tup (pv 0) pe_int (fun _ _ => rfl)) (fun _ _ => rfl)) pa_nil))))
          (pe_ix ix_list (pv 1) (pe_ix ix_tup (pv 0) pe_int (fun _ _ => rfl)) (fun _ _ => rfl)) pe_int))) pss_nil)
      (pss_cons (ps_setLc (i := 3) (own := [("cell", 4), ("shift", 5)]) (g := gTup K 2 (gCons (gName 4) (gCons (gName 5) gNil))) (te := tCall spShifted [] E0 (tCons (tOp (rIxL K) (tVar 1) (tVar 4)) (tCons (tVar 5) tNil))) (by rfl) scFlatValue.nd rfl rfl (sw_true rfl rfl rfl (by decide +kernel)) (pi_list (pe_ix ix_tup (pv 0) pe_int (fun _ _ => rfl)))
        (blkOk_by (own := [("cell", 4), ("shift", 5)]) (N := ["formula", "x", "kind", "amounts", "cell", "shift"]) (sc := defScope sFlatValue) (by decide +kernel))
        (fun _ _ _ _ _ => pg_tup rfl (pgs_cons (pg_name (i := 4) scFlatValue.nd rfl (.inl rfl)) (pgs_cons (pg_name (i := 5) scFlatValue.nd rfl (.inl rfl)) pgs_nil))) (fun _ _ _ _ _ => pts_nil)
        (fun _ _ _ _ _ => pe_kn GS hr (by rfl) (pa_cons (pe_ix ix_list (pv 1) (pv 4) (fun _ _ => rfl)) (pa_cons (pv 5) pa_nil))))
      (pss_cons (ps_if (pt_cmpR op_eq (pv 2) pe_str (nomark _)) (pss_one (ps_ret (pe_kn GL hr (by rfl) (pa_cons (pv 3) pa_nil)))) pss_nil)
      (pss_one (ps_ret (pe_kn GG hr (by rfl) (pa_cons (pv 3) pa_nil)))))))), ?_⟩
    have hS : SqL K H l (x.map amV) := SqL.of hx
    have xat : ∀ j : Nat, j < x.length → atI (x.map amV) (j : Int) = some (amV (at_ x j)) := fun j hj => at_nat (by rw [List.getElem?_map, get_at hj]; rfl)
    -- the list of the arcs' values
    have body : ∀ (as : List Arc) (t a : Addr) (z : V) (D : Ends) (tz : TS), z = .ref t → SqT K H t [.str (match F with | .lst _ => "least" | _ => "greatest"), .ref a] → ArcsAt H a as → (∀ p ∈ as, p.1 < x.length) → as.length ≤ 1000 →
        (∀ H' Dl, Same H H' → H' Dl = some (.lst ((as.map (arcV (at_ x))).map amV)) → tz D [some z, some (.ref l), some (.str (match F with | .lst _ => "least" | _ => "greatest")), some (.ref Dl), none, none] H') →
        tSeq (tAsg (tLc (iList K (tOp (rIxT K) (tVar 0) (tC (.int 1)))) (gTup K 2 (gCons (gName 4) (gCons (gName 5) gNil))) tYes (tCall spShifted [] E0 (tCons (tOp (rIxL K) (tVar 1) (tVar 4)) (tCons (tVar 5) tNil))) [4, 5]) (gName 3)) tz D
          [some z, some (.ref l), some (.str (match F with | .lst _ => "least" | _ => "greatest")), none, none, none] H := by
      intro as t a z D tz ez hT hA hin hle fin
      subst ez
      obtain ⟨vs, hv, hp⟩ := hA
      have hvl : vs.length = as.length := Paired.length hp
      refine ⟨.ref t, rfl, t, _, 1, .ref a, rfl, rfl, hT, atI_nat (j := 1) rfl, a, rfl, ⟨vs, SqL.of hv⟩, fun Dl hD => ?_⟩
      refine lc_vals walk_list hD (fun i => amV (arcV (at_ x) (as.getD i (0, 0)))) (fun H' e => e.seq (SqL.of hv)) (by omega) (fun i y H1 H2 hi e1 hDl hY Q' q' => ?_) fun H' e1 e2 => ?_
      · obtain ⟨rfl, hy⟩ := hY
        obtain ⟨p, hp1, tt, rfl, htt⟩ := paired_get hp hy
        have hpa := getD_of (d := ((0, 0) : Arc)) hp1
        refine ⟨tt, _, rfl, SqT.of (e1 _ _ htt), rfl, _, _, rfl, _, _, rfl, rfl, rfl, ?_⟩
        refine ⟨.ref l, rfl, .int (p.1 : Int), rfl, l, _, (p.1 : Int), _, rfl, rfl, e1.seq hS, xat p.1 (hin p (List.mem_of_getElem? hp1)), .int p.2, rfl, at_ x p.1, p.2, rfl, ?_⟩
        have q2 := q' H2 (Same.refl _)
        rw [hpa] at q2
        exact q2
      · refine fin H' Dl e1 ?_
        rw [e2, hvl, List.map_map, ← map_range_get (d := ((0, 0) : Arc)) as]
        rfl
    cases F with
    | amt a =>
      obtain ⟨t, rfl, ht⟩ := hF
      refine ⟨.ref t, rfl, t, _, 0, _, rfl, rfl, SqT.of ht, atI_nat (j := 0) rfl, ?_⟩
      refine ⟨.str "amount", rfl, rfl, _, rfl, iteTd kAA ?_⟩
      exact ⟨.ref t, rfl, t, _, 1, _, rfl, rfl, SqT.of ht, atI_nat (j := 1) rfl, q H (Same.refl H)⟩
    | whn j a c =>
      obtain ⟨t, rfl, ht⟩ := hF
      refine ⟨.ref t, rfl, t, _, 0, _, rfl, rfl, SqT.of ht, atI_nat (j := 0) rfl, ?_⟩
      refine ⟨.str "when", rfl, rfl, _, rfl, iteFd kWA ?_⟩
      refine ⟨.str "when", rfl, rfl, _, rfl, iteTd kWW ?_⟩
      have q := q H (Same.refl H)
      refine ⟨.ref t, rfl, t, _, 2, _, rfl, rfl, SqT.of ht, atI_nat (j := 2) rfl, .ref l, rfl, .ref t, rfl, t, _, 1, _, rfl, rfl, SqT.of ht, atI_nat (j := 1) rfl,
        l, _, (j : Int), _, rfl, rfl, hS, xat j wF.1, some a, at_ x j, rfl, _, rfl, ite2 (fun h => ?_) fun h => ?_⟩
      · refine ⟨.ref l, rfl, .ref t, rfl, t, _, 3, _, rfl, rfl, SqT.of ht, atI_nat (j := 3) rfl, l, _, (c : Int), _, rfl, rfl, hS, xat c wF.2, ?_⟩
        have e : val (.whn j a c) (at_ x) = at_ x c := if_pos (of_decide_eq_true h)
        rw [e] at q
        exact q
      · have e : val (.whn j a c) (at_ x) = some 0 := if_neg fun z => h (decide_eq_true z)
        rw [e] at q
        exact q
    | lst as =>
      obtain ⟨t, a, rfl, ht, hA⟩ := hF
      refine ⟨.ref t, rfl, t, _, 0, _, rfl, rfl, SqT.of ht, atI_nat (j := 0) rfl, ?_⟩
      refine ⟨.str "least", rfl, rfl, _, rfl, iteFd kLA ?_⟩
      refine ⟨.str "least", rfl, rfl, _, rfl, iteFd kLW ?_⟩
      refine body as t a _ _ _ rfl (SqT.of ht) hA wF.2 (hsz as (.inl rfl)) fun H' Dl e1 e2 => ?_
      refine ⟨.str "least", rfl, rfl, _, rfl, iteTd kLL ?_⟩
      exact ⟨.ref Dl, rfl, Dl, as.map (arcV (at_ x)), rfl, e2, fun z => wF.1 (List.map_eq_nil_iff.mp z), q H' e1⟩
    | gst as =>
      obtain ⟨t, a, rfl, ht, hA⟩ := hF
      refine ⟨.ref t, rfl, t, _, 0, _, rfl, rfl, SqT.of ht, atI_nat (j := 0) rfl, ?_⟩
      refine ⟨.str "greatest", rfl, rfl, _, rfl, iteFd kGA ?_⟩
      refine ⟨.str "greatest", rfl, rfl, _, rfl, iteFd kGW ?_⟩
      refine body as t a _ _ _ rfl (SqT.of ht) hA wF.2 (hsz as (.inr rfl)) fun H' Dl e1 e2 => ?_
      refine ⟨.str "greatest", rfl, rfl, _, rfl, iteFd kGL ?_⟩
      exact ⟨.ref Dl, rfl, Dl, as.map (arcV (at_ x)), rfl, e2, fun z => wF.1 (List.map_eq_nil_iff.mp z), q H' e1⟩
end
end CW
namespace CW
open PySem PySem.Spec PyProof.Rows L2 CS
/-- no list of arcs is long -/
def FmSz : Fm → Prop
  | .lst as => as.length ≤ 1000
  | .gst as => as.length ≤ 1000
  | _ => True
structure OkS (S : List Fm) : Prop where
  wf : WFs S
  pos : 0 < S.length
  len : S.length ≤ 1000
  sz : ∀ (i : Nat) (F : Fm), S[i]? = some F → FmSz F
theorem FmSz.arcs {F : Fm} (h : FmSz F) : ∀ as, F = .lst as ∨ F = .gst as → as.length ≤ 1000 := fun as e => by
  rcases e with e | e <;> subst e <;> exact h
def lift1 (S : List Fm) (x : List Am) : List Am := S.map fun F => val F (at_ x)
theorem range_map_eq {α β : Type} {l : List α} {f : α → β} {g : Nat → β} (h : ∀ i a, l[i]? = some a → g i = f a) : (List.range l.length).map g = l.map f := by
  refine List.ext_getElem? fun i => ?_
  by_cases hi : i < l.length
  · rw [List.getElem?_map, List.getElem?_range hi, List.getElem?_map, List.getElem?_eq_getElem hi]
    exact congrArg some (h i _ (List.getElem?_eq_getElem hi))
  · rw [List.getElem?_eq_none (by rw [List.length_map, List.length_range]; omega), List.getElem?_eq_none (by rw [List.length_map]; omega)]
section
variable {P : Program} {w : World} {K : PySem.W.Frag} {mg : Str → Option Value} {base : Heap} {k : Nat}
/-! ### flat_values -/
abbrev sFlatValues : Stmt := topS 11
theorem scFlatValues : FnScope ["flat", "x", "formula"] ["flat", "x"] (defScope sFlatValues) := ⟨rfl, rfl, rfl, by decide +kernel, rfl, by decide +kernel, by decide +kernel⟩
def spFlatValues : Sp := fun vs H Q _ => ∃ (a l : Addr) (S : List Fm) (x : List Am), vs = [.ref a, .ref l] ∧ ShAt H a S ∧ OkS S ∧ AmsAt H l x ∧ x.length = S.length ∧ ∀ H' p, Same H H' → H p = none → AmsAt H' p (lift1 S x) → Q (.ref p) H'
theorem kn_flat_values (D : Stands K mg "flat_values" sFlatValues) (GV : Kn P w K mg base k "flat_value" ["formula", "x"] spFlatValue) : Kn P w K mg base (k + 1) "flat_values" ["flat", "x"] spFlatValues := by
  refine kn_of D scFlatValues (fun _ _ _ _ _ _ us hl => match us, hl with | [_, _], _ => rfl) (fun vs H Q E h => ?_) (fun f cdv A outer s H vs Q E hr h => ?_)
  · obtain ⟨a, l, S, x, rfl, _⟩ := h
    rfl
  · obtain ⟨a, l, S, x, rfl, hS, oS, hx, hl, q⟩ := h
    refine ⟨_, pss_one (ps_ret (pe_lc (own := [("formula", 2)]) (g := gName 2) (te := tCall spFlatValue [] E0 (tCons (tVar 2) (tCons (tVar 1) tNil))) (by rfl) scFlatValues.nd (pi_list (pv 0))
      (blkOk_by (own := [("formula", 2)]) (N := ["flat", "x", "formula"]) (sc := defScope sFlatValues) (by decide +kernel))
      (fun _ _ _ _ _ => pg_name (i := 2) scFlatValues.nd rfl (.inl rfl)) (fun _ _ _ _ _ => pts_nil) (fun _ _ _ _ _ => pe_kn GV hr (by rfl) (pa_cons (pv 2) (pa_cons (pv 1) pa_nil))))), ?_⟩
    obtain ⟨vs, hv, hp⟩ := id hS
    have hvl : vs.length = S.length := Paired.length hp
    refine ⟨.ref a, rfl, a, rfl, ⟨vs, SqL.of hv⟩, fun Dl hD => ?_⟩
    refine lc_vals walk_list hD (fun i => amV (at_ (lift1 S x) i)) (fun H' e => e.seq (SqL.of hv)) (by rw [hvl]; exact Nat.le_trans oS.len (by decide)) (fun i y H1 H2 hi e1 hDl hY Q' q' => ?_) fun H' e1 e2 => ?_
    · obtain ⟨rfl, hy⟩ := hY
      obtain ⟨F, hF1, hF2⟩ := paired_get hp hy
      refine ⟨rfl, y, rfl, .ref l, rfl, y, F, l, x, rfl, hF2.xt (Xt.of_same e1), by rw [hl]; exact oS.wf i F hF1, (oS.sz i F hF1).arcs, hx.xt (Xt.of_same e1), fun H3 e3 => ?_⟩
      have q2 := q' H3 e3
      have e : at_ (lift1 S x) i = val F (at_ x) := at_get (by unfold lift1; rw [List.getElem?_map, hF1]; rfl)
      rw [e] at q2
      exact q2
    · refine q H' Dl e1 hD ?_
      show H' Dl = some (.lst ((lift1 S x).map amV))
      rw [e2, hvl]
      congr 2
      have hlen : (lift1 S x).length = S.length := List.length_map ..
      rw [← hlen]
      exact range_map_eq fun i b hb => by rw [at_get hb]
/-! ### all_at_most, is_high -/
abbrev sAllAtMost : Stmt := topS 5
theorem scAllAtMost : FnScope ["x", "y", "a", "b"] ["x", "y"] (defScope sAllAtMost) := ⟨rfl, rfl, rfl, by decide +kernel, rfl, by decide +kernel, by decide +kernel⟩
def allB (x y : List Am) : Bool := ((List.range x.length).map fun i => decide (leA (at_ x i) (at_ y i))).all id
def spAllAtMost : Sp := fun vs H Q _ => ∃ (l m : Addr) (x y : List Am), vs = [.ref l, .ref m] ∧ AmsAt H l x ∧ AmsAt H m y ∧ x.length = y.length ∧ x.length ≤ 1000 ∧ ∀ H', Same H H' → Q (.bl (allB x y)) H'
theorem kn_all_at_most (D : Stands K mg "all_at_most" sAllAtMost) (GA : Kn P w K mg base k "at_most" ["a", "b"] spAtMost) (ma : mg "all" = none) (mz : mg "zip" = none) : Kn P w K mg base (k + 1) "all_at_most" ["x", "y"] spAllAtMost := by
  refine kn_of D scAllAtMost (fun _ _ _ _ _ _ us hl => match us, hl with | [_, _], _ => rfl) (fun vs H Q E h => ?_) (fun f cdv A outer s H vs Q E hr h => ?_)
  · obtain ⟨a, l, S, x, rfl, _⟩ := h
    rfl
  · obtain ⟨l, m, x, y, rfl, hx, hy, hl, hz, q⟩ := h
    refine ⟨_, pss_one (ps_ret (pe_callB (cr_all rfl) (by rfl) ma (by decide +kernel) (pa_cons (pe_lc (own := [("a", 2), ("b", 3)]) (g := gTup K 2 (gCons (gName 2) (gCons (gName 3) gNil))) (te := tCall spAtMost [] E0 (tCons (tVar 2) (tCons (tVar 3) tNil))) (by rfl) scAllAtMost.nd
      (pi_zip (by rfl) mz (pa_cons (pv 0) (pa_cons (pv 1) pa_nil))) (blkOk_by (own := [("a", 2), ("b", 3)]) (N := ["x", "y", "a", "b"]) (sc := defScope sAllAtMost) (by decide +kernel))
      (fun _ _ _ _ _ => pg_tup rfl (pgs_cons (pg_name (i := 2) scAllAtMost.nd rfl (.inl rfl)) (pgs_cons (pg_name (i := 3) scAllAtMost.nd rfl (.inl rfl)) pgs_nil))) (fun _ _ _ _ _ => pts_nil)
      (fun _ _ _ _ _ => pe_kn GA hr (by rfl) (pa_cons (pv 2) (pa_cons (pv 3) pa_nil)))) pa_nil))), ?_⟩
    have sx : SqL K H l (x.map amV) := SqL.of hx
    have sy : SqL K H m (y.map amV) := SqL.of hy
    refine ⟨.ref l, rfl, .ref m, rfl, l, m, _, _, rfl, sx, sy, fun Dl hD => ?_⟩
    refine lc_vals (walk_zip (n := x.length) (by rw [List.length_map, List.length_map]; omega)) hD (fun i => .bl (decide (leA (at_ x i) (at_ y i)))) (fun H' e => ⟨e.seq sx, e.seq sy⟩) (by omega) (fun i v H1 H2 hi e1 hDl hY Q' q' => ?_) fun H' e1 e2 => ?_
    · obtain ⟨T, u1, u2, rfl, nT, rfl, f1, f2⟩ := hY
      have h1 : i < x.length := hi
      have h2 : i < y.length := by omega
      have g1 : (x.map amV)[i]? = some (amV (at_ x i)) := by rw [List.getElem?_map, get_at h1]; rfl
      have g2 : (y.map amV)[i]? = some (amV (at_ y i)) := by rw [List.getElem?_map, get_at h2]; rfl
      have k1 : u1 = amV (at_ x i) := Option.some.inj (f1.symm.trans g1)
      have k2 : u2 = amV (at_ y i) := Option.some.inj (f2.symm.trans g2)
      subst k1 k2
      refine ⟨T, _, rfl, SqT.of upd_same, rfl, _, _, rfl, _, _, rfl, rfl, rfl, ?_⟩
      exact ⟨_, rfl, _, rfl, at_ x i, at_ y i, rfl, q' _ (same_upd nT)⟩
    · refine ⟨Dl, (List.range x.length).map fun i => decide (leA (at_ x i) (at_ y i)), rfl, SqL.of ?_, q H' e1⟩
      rw [e2, List.map_map]
      rfl
abbrev sIsHigh : Stmt := topS 35
theorem scIsHigh : FnScope ["flat", "x"] ["flat", "x"] (defScope sIsHigh) := ⟨rfl, rfl, rfl, by decide +kernel, rfl, by decide +kernel, by decide +kernel⟩
def spIsHigh : Sp := fun vs H Q _ => ∃ (a l : Addr) (S : List Fm) (x : List Am), vs = [.ref a, .ref l] ∧ ShAt H a S ∧ OkS S ∧ AmsAt H l x ∧ x.length = S.length ∧ ∀ H', Same H H' → Q (.bl (allB (lift1 S x) x)) H'
theorem kn_is_high (D : Stands K mg "is_high" sIsHigh) (GF : Kn P w K mg base k "flat_values" ["flat", "x"] spFlatValues) (GA : Kn P w K mg base k "all_at_most" ["x", "y"] spAllAtMost) : Kn P w K mg base (k + 1) "is_high" ["flat", "x"] spIsHigh := by
  refine kn_of D scIsHigh (fun _ _ _ _ _ _ us hl => match us, hl with | [_, _], _ => rfl) (fun vs H Q E h => ?_) (fun f cdv A outer s H vs Q E hr h => ?_)
  · obtain ⟨a, l, S, x, rfl, _⟩ := h
    rfl
  · obtain ⟨a, l, S, x, rfl, hS, oS, hx, hl, q⟩ := h
    refine ⟨_, pss_one (ps_ret (pe_kn GA hr (by rfl) (pa_cons (pe_kn GF hr (by rfl) (pa_cons (pv 0) (pa_cons (pv 1) pa_nil))) (pa_cons (pv 1) pa_nil)))), ?_⟩
    refine ⟨.ref a, rfl, .ref l, rfl, a, l, S, x, rfl, hS, oS, hx, hl, fun H1 p e1 _ h1 => ?_⟩
    have hlen : (lift1 S x).length = S.length := List.length_map ..
    exact ⟨.ref l, rfl, p, l, lift1 S x, x, rfl, h1, hx.xt (Xt.of_same e1), by rw [hlen, hl], by rw [hlen]; exact oS.len, fun H' e' => q H' (e1.trans e')⟩
/-! ### arcs_of -/
abbrev sArcsOf : Stmt := topS 12
theorem scArcsOf : FnScope ["flat", "cell", "formula"] ["flat", "cell"] (defScope sArcsOf) := ⟨rfl, rfl, rfl, by decide +kernel, rfl, by decide +kernel, by decide +kernel⟩
def spArcsOf : Sp := fun vs H Q _ => ∃ (a : Addr) (S : List Fm) (c : Nat) (F : Fm), vs = [.ref a, .int (c : Int)] ∧ ShAt H a S ∧ S[c]? = some F ∧ ∀ H' p, Same H H' → H p = none → ArcsAt H' p (arcsOfF F) → Q (.ref p) H'
theorem kn_arcs_of (D : Stands K mg "arcs_of" sArcsOf) (ml : mg "list" = none) : Kn P w K mg base (k + 1) "arcs_of" ["flat", "cell"] spArcsOf := by
  refine kn_of D scArcsOf (fun _ _ _ _ _ _ us hl => match us, hl with | [_, _], _ => rfl) (fun vs H Q E h => ?_) (fun f cdv A outer s H vs Q E hr h => ?_)
  · obtain ⟨a, S, c, F, rfl, _⟩ := h
    rfl
  · obtain ⟨a, S, c, F, rfl, hS, hF, q⟩ := h
    refine ⟨_, pss_cons (ps_set (i := 2) scArcsOf.nd rfl (.inl rfl) (pe_ix ix_list (pv 0) (pv 1) (fun _ _ => rfl)))
      (pss_cons (ps_if (pt_cmpR op_eq (pe_ix ix_tup (pv 2) pe_int (fun _ _ => rfl)) pe_str (nomark _)) (pss_one (ps_ret (pe_lst pa_nil))) pss_nil)
      (pss_cons (ps_if (pt_cmpR op_eq (pe_ix ix_tup (pv 2) pe_int (fun _ _ => rfl)) pe_str (nomark _)) (pss_one (ps_ret (pe_lst (pa_cons (pe_tup (pa_cons (pe_ix ix_tup (pv 2) pe_int (fun _ _ => rfl)) (pa_cons pe_int pa_nil))) pa_nil)))) pss_nil)
      (pss_one (ps_ret (pe_callTy call_list_of (by rfl) ml (by decide +kernel) (pa_cons (pe_ix ix_tup (pv 2) pe_int (fun _ _ => rfl)) pa_nil)))))), ?_⟩
    obtain ⟨vs, hv, hp⟩ := hS
    obtain ⟨v, hv1, hv2⟩ := paired_get' hp hF
    refine ⟨.ref a, rfl, .int (c : Int), rfl, a, vs, c, v, rfl, rfl, SqL.of hv, at_nat hv1, ?_⟩
    cases F with
    | amt b =>
      obtain ⟨t, rfl, ht⟩ := hv2
      refine ⟨.ref t, rfl, t, _, 0, _, rfl, rfl, SqT.of ht, atI_nat (j := 0) rfl, rfl, _, rfl, iteTd kAA ?_⟩
      exact ⟨Nat.zero_le _, fun p hp => q _ p (same_upd hp) hp ⟨[], upd_same, .nil⟩⟩
    | whn j b c2 =>
      obtain ⟨t, rfl, ht⟩ := hv2
      refine ⟨.ref t, rfl, t, _, 0, _, rfl, rfl, SqT.of ht, atI_nat (j := 0) rfl, rfl, _, rfl, iteFd kWA ?_⟩
      refine ⟨.ref t, rfl, t, _, 0, _, rfl, rfl, SqT.of ht, atI_nat (j := 0) rfl, rfl, _, rfl, iteTd kWW ?_⟩
      refine ⟨.ref t, rfl, t, _, 3, _, rfl, rfl, SqT.of ht, atI_nat (j := 3) rfl, by show 2 ≤ sizeLine; decide, fun p hp => ⟨by show 1 ≤ sizeLine; decide, fun p2 hp2 => ?_⟩⟩
      obtain ⟨n1, n2⟩ := upd_none_of hp2
      refine q _ p2 ((same_upd hp).trans (same_upd hp2)) n2 ⟨[.ref p], upd_same, .cons ⟨p, rfl, ?_⟩ .nil⟩
      rw [upd_ne (Ne.symm n1)]
      exact upd_same
    | lst as =>
      obtain ⟨t, l, rfl, ht, hA⟩ := hv2
      refine ⟨.ref t, rfl, t, _, 0, _, rfl, rfl, SqT.of ht, atI_nat (j := 0) rfl, rfl, _, rfl, iteFd kLA ?_⟩
      refine ⟨.ref t, rfl, t, _, 0, _, rfl, rfl, SqT.of ht, atI_nat (j := 0) rfl, rfl, _, rfl, iteFd kLW ?_⟩
      obtain ⟨us, hu, hq⟩ := hA
      refine ⟨.ref t, rfl, t, _, 1, _, rfl, rfl, SqT.of ht, atI_nat (j := 1) rfl, l, us, rfl, .inl (SqL.of hu), fun p hp => ?_⟩
      exact q _ p (same_upd hp) hp ⟨us, upd_same, Paired.mapP hq fun _ _ z => z.xt (Xt.of_same (same_upd hp))⟩
    | gst as =>
      obtain ⟨t, l, rfl, ht, hA⟩ := hv2
      refine ⟨.ref t, rfl, t, _, 0, _, rfl, rfl, SqT.of ht, atI_nat (j := 0) rfl, rfl, _, rfl, iteFd kGA ?_⟩
      refine ⟨.ref t, rfl, t, _, 0, _, rfl, rfl, SqT.of ht, atI_nat (j := 0) rfl, rfl, _, rfl, iteFd kGW ?_⟩
      obtain ⟨us, hu, hq⟩ := hA
      refine ⟨.ref t, rfl, t, _, 1, _, rfl, rfl, SqT.of ht, atI_nat (j := 1) rfl, l, us, rfl, .inl (SqL.of hu), fun p hp => ?_⟩
      exact q _ p (same_upd hp) hp ⟨us, upd_same, Paired.mapP hq fun _ _ z => z.xt (Xt.of_same (same_upd hp))⟩
/-! ### conditions_of -/
abbrev sConditionsOf : Stmt := topS 14
theorem scConditionsOf : FnScope ["flat", "cell"] ["flat"] (defScope sConditionsOf) := ⟨rfl, rfl, rfl, by decide +kernel, rfl, by decide +kernel, by decide +kernel⟩
def spConditionsOf : Sp := fun vs H Q _ => ∃ (a : Addr) (S : List Fm), vs = [.ref a] ∧ ShAt H a S ∧ S.length ≤ 1000 ∧ ∀ H' p, Same H H' → H p = none → H' p = some (.lst ((conds S).map nat2V)) → Q (.ref p) H'
/-- a formula's word -/
def wordOf : Fm → Str
  | .amt _ => "amount"
  | .lst _ => "least"
  | .gst _ => "greatest"
  | .whn _ _ _ => "when"
theorem FmAt.tup {H : Hp} {v : V} : ∀ {F : Fm}, FmAt H v F → ∃ t r, v = .ref t ∧ H t = some (.tup (.str (wordOf F) :: r))
  | .amt _, ⟨t, e, h⟩ => ⟨t, _, e, h⟩
  | .lst _, ⟨t, _, e, h, _⟩ => ⟨t, _, e, h⟩
  | .gst _, ⟨t, _, e, h, _⟩ => ⟨t, _, e, h⟩
  | .whn _ _ _, ⟨t, e, h⟩ => ⟨t, _, e, h⟩
theorem word_when (F : Fm) : decide (V.str (wordOf F) = V.str "when") = isWhn (some F) := by
  cases F with
  | amt _ => exact kAW
  | lst _ => exact kLW
  | gst _ => exact kGW
  | whn _ _ _ => exact kWW
theorem kn_conditions_of (D : Stands K mg "conditions_of" sConditionsOf) (mr : mg "range" = none) (ml : mg "len" = none) : Kn P w K mg base (k + 1) "conditions_of" ["flat"] spConditionsOf := by
  refine kn_of D scConditionsOf (fun _ _ _ _ _ _ us hl => match us, hl with | [_], _ => rfl) (fun vs H Q E h => ?_) (fun f cdv A outer s H vs Q E hr h => ?_)
  · obtain ⟨a, S, rfl, _⟩ := h
    rfl
  · obtain ⟨a, S, rfl, hS, hlen, q⟩ := h
    refine ⟨_, pss_one (ps_ret (pe_lc (own := [("cell", 1)]) (g := gName 1) (tt := tTest (tOp rEq (tOp (rIxT K) (tOp (rIxL K) (tVar 0) (tVar 1)) (tC (.int 0))) (tC (.str "when")))) (te := tVar 1) (by rfl) scConditionsOf.nd
      (pi_range1 (by rfl) mr (pa_cons (pe_callB call_len_seq (by rfl) ml PySem.boot_len (pa_cons (pv 0) pa_nil)) pa_nil)) (blkOk_by (own := [("cell", 1)]) (N := ["flat", "cell"]) (sc := defScope sConditionsOf) (by decide +kernel))
      (fun _ _ _ _ _ => pg_name (i := 1) scConditionsOf.nd rfl (.inl rfl)) (fun _ _ _ _ _ => pts_one (pt_cmpR op_eq (pe_ix ix_tup (pe_ix ix_list (pv 0) (pv 1) (fun _ _ => rfl)) pe_int (fun _ _ => rfl)) pe_str (nomark _)))
      (fun _ _ _ _ _ => pv 1))), ?_⟩
    obtain ⟨vs, hv, hp⟩ := hS
    have hvl : vs.length = S.length := Paired.length hp
    refine ⟨.ref a, rfl, a, vs, rfl, .inl (SqL.of hv), (vs.length : Int), rfl, by omega, by omega, fun Dl hD => ?_⟩
    refine lc_filt walk_range0 hD (fun i => isWhn S[i]?) nat2V (fun _ _ => trivial) (by omega) (fun i y H1 H2 hi e1 hDl hY Q' Q0 q1 q0 => ?_) fun H' e1 e2 => ?_
    · obtain ⟨rfl, rfl⟩ := hY
      have hi : i < vs.length := by omega
      obtain ⟨F, hF1, hF2⟩ := paired_get hp (List.getElem?_eq_getElem hi)
      obtain ⟨t, r, et, ht⟩ := hF2.tup
      refine ⟨rfl, .ref a, rfl, _, rfl, a, vs, _, vs[i], rfl, rfl, e1.seq (SqL.of hv), at_nat (List.getElem?_eq_getElem hi), t, _, 0, _, et, rfl, SqT.of (e1 _ _ ht), atI_nat (j := 0) rfl, rfl, _, rfl, ?_⟩
      rw [word_when, ← hF1]
      refine ite2 (fun c => ⟨_, rfl, ?_⟩) fun c => ?_
      · exact q1 H2 (Same.refl _) c
      · exact q0 H2 (Same.refl _) (by simpa using c)
    · refine q H' Dl e1 hD ?_
      rw [e2]
      show some (HO.lst (((List.range ((vs.length : Int)).toNat).filter fun i => isWhn S[i]?).map nat2V)) = some (.lst ((conds S).map nat2V))
      rw [Int.toNat_natCast, hvl]
      rfl
end
end CW
namespace CW
open PySem PySem.Spec PyProof.Rows L2 CS
/-! ### a heap without the list that is being made -/
def hide (o : Addr) (H : Hp) : Hp := fun b => if b = o then none else H b
theorem hide_ne {o b : Addr} {H : Hp} (h : b ≠ o) : hide o H b = H b := if_neg h
theorem hide_same {o : Addr} {H : Hp} : Same (hide o H) H := fun b u h => by
  by_cases e : b = o
  · subst e
    have h : (if b = b then none else H b) = some u := h
    rw [if_pos rfl] at h
    cases h
  · rw [hide_ne e] at h
    exact h
theorem to_hide {o : Addr} {H H' : Hp} (e : Same H H') (h : H o = none) : Same H (hide o H') := fun b u hb => by
  rw [hide_ne (ne_of_none hb h)]
  exact e b u hb
theorem hide_upd {o : Addr} {H : Hp} {x : HO} : hide o (upd H o x) = hide o H := by
  funext b
  by_cases e : b = o
  · show (if b = o then none else upd H o x b) = if b = o then none else H b
    rw [if_pos e, if_pos e]
  · rw [hide_ne e, hide_ne e, upd_ne e]
theorem hide_mono {o : Addr} {H H' : Hp} (e : Same H H') : Same (hide o H) (hide o H') := fun b u h => by
  by_cases eb : b = o
  · subst eb
    have h : (if b = b then none else H b) = some u := h
    rw [if_pos rfl] at h
    cases h
  · rw [hide_ne eb] at h ⊢
    exact e b u h
theorem hide_get {o b : Addr} {H : Hp} {u : HO} (h : H b = some u) (n : b ≠ o) : hide o H b = some u := by
  rw [hide_ne n]
  exact h
theorem flat_nats : ∀ (l : List Nat), (l.map nat2V).all flatV = true
  | [] => rfl
  | a :: l => by
    rw [List.map_cons, List.all_cons, flat_nats l]
    rfl
theorem inV_nats (c : Nat) : ∀ (l : List Nat), inV (.int (c : Int)) (l.map nat2V) = decide (c ∈ l)
  | [] => rfl
  | a :: l => by
    have ih := inV_nats c l
    unfold inV at ih ⊢
    rw [List.map_cons, List.any_cons, ih]
    have e : eqV (nat2V a) (.int (c : Int)) = decide (c = a) := by
      show eqV (.int (a : Int)) (.int (c : Int)) = _
      by_cases h : c = a
      · subst h
        simp [eqV]
      · have h2 : ¬ (a : Int) = (c : Int) := by omega
        simp [eqV, h, h2]
    rw [e]
    by_cases h : c = a
    · subst h
      simp
    · simp [h]
theorem nAW : (!decide (V.str "amount" = V.str "when")) = true := by rw [kAW]; rfl
theorem nLW : (!decide (V.str "least" = V.str "when")) = true := by rw [kLW]; rfl
theorem nGW : (!decide (V.str "greatest" = V.str "when")) = true := by rw [kGW]; rfl
theorem nWW : (!decide (V.str "when" = V.str "when")) = false := by rw [kWW]; rfl
theorem opened_take {S : List Fm} {pl : List Nat} {i : Nat} {F : Fm} (h : S[i]? = some F) : (opened S pl).take (i + 1) = (opened S pl).take i ++ [openF pl i F] := by
  rw [List.take_add_one, opened_at, h]
  rfl
section
variable {P : Program} {w : World} {K : PySem.W.Frag} {mg : Str → Option Value} {base : Heap} {k : Nat}
/-! ### opened -/
abbrev sOpened : Stmt := topS 15
theorem scOpened : FnScope ["flat", "places", "found", "cell", "formula"] ["flat", "places"] (defScope sOpened) := ⟨rfl, rfl, rfl, by decide +kernel, rfl, by decide +kernel, by decide +kernel⟩
def spOpened : Sp := fun vs H Q _ => ∃ (a p : Addr) (S : List Fm) (pl : List Nat), vs = [.ref a, .ref p] ∧ ShAt H a S ∧ S.length ≤ 1000 ∧ H p = some (.lst (pl.map nat2V)) ∧ ∀ H' o, Same H H' → H o = none → ShAt H' o (opened S pl) → Q (.ref o) H'
theorem kn_opened (D : Stands K mg "opened" sOpened) (me : mg "enumerate" = none) (ml : mg "list" = none) : Kn P w K mg base (k + 1) "opened" ["flat", "places"] spOpened := by
  refine kn_of D scOpened (fun _ _ _ _ _ _ us hl => match us, hl with | [_, _], _ => rfl) (fun vs H Q E h => ?_) (fun f cdv A outer s H vs Q E hr h => ?_)
  · obtain ⟨a, p, S, pl, rfl, _⟩ := h
    rfl
  · obtain ⟨a, p, S, pl, rfl, hS, hlen, hpl, q⟩ := h
    refine ⟨_, pss_cons (ps_set (i := 2) scOpened.nd rfl (.inl rfl) (pe_lst pa_nil))
      (pss_cons (ps_for PassesOwn.never rfl (pi_enum (by rfl) me (pa_cons (pv 0) pa_nil)) (pg_tup rfl (pgs_cons (pg_name (i := 3) scOpened.nd rfl (.inl rfl)) (pgs_cons (pg_name (i := 4) scOpened.nd rfl (.inl rfl)) pgs_nil)))
        (pss_one (ps_if (pt_cmpR op_ne (pe_ix ix_tup (pv 4) pe_int (fun _ _ => rfl)) pe_str (nomark _))
          (pss_one (ps_expr (pe_bm PySem.F.plainAttrs_list PySem.F.slot_list_append PySem.F.type_list_append mt_append (pv 2) (pa_cons
            (pe_ifExp (pt_cmpR op_eq (pe_ix ix_tup (pv 4) pe_int (fun _ _ => rfl)) pe_str (nomark _)) (pv 4)
              (pe_tup (pa_cons (pe_ix ix_tup (pv 4) pe_int (fun _ _ => rfl)) (pa_cons (pe_callTy call_list_of (by rfl) ml (by decide +kernel) (pa_cons (pe_ix ix_tup (pv 4) pe_int (fun _ _ => rfl)) pa_nil)) pa_nil)))) pa_nil))))
          (pss_one (ps_if (pt_cmpR op_in_seq (pv 3) (pv 1) (by rfl))
            (pss_one (ps_expr (pe_bm PySem.F.plainAttrs_list PySem.F.slot_list_append PySem.F.type_list_append mt_append (pv 2) (pa_cons
              (pe_tup (pa_cons pe_str (pa_cons (pe_lst (pa_cons (pe_tup (pa_cons (pe_ix ix_tup (pv 4) pe_int (fun _ _ => rfl)) (pa_cons pe_int pa_nil))) pa_nil)) pa_nil))) pa_nil))))
            (pss_one (ps_expr (pe_bm PySem.F.plainAttrs_list PySem.F.slot_list_append PySem.F.type_list_append mt_append (pv 2) (pa_cons (pe_tup (pa_cons pe_str (pa_cons pe_int pa_nil))) pa_nil)))))))))
      (pss_one (ps_ret (pv 2)))), ?_⟩
    obtain ⟨vs, hv, hp⟩ := id hS
    have hvl : vs.length = S.length := Paired.length hp
    refine ⟨Nat.zero_le _, fun o no => ?_⟩
    have s0 : Same H (upd H o (.lst [])) := same_upd no
    refine ⟨.ref a, rfl, a, vs, rfl, s0.seq (SqL.of hv), ?_⟩
    refine for_it walk_enum (fun i σ H' => ∃ y3 y4, σ = [some (.ref a), some (.ref p), some (.ref o), y3, y4] ∧ Same H H' ∧ ∃ ys, H' o = some (.lst ys) ∧ Paired (FmAt (hide o H')) ys ((opened S pl).take i))
      ⟨none, none, rfl, s0, [], upd_same, .nil⟩ (fun i σ H' _ ⟨_, _, _, e, _⟩ => e.seq (SqL.of hv)) (fun i v σ H1 H2 hi hW hY => ?_) (fun σ H' hW => ?_)
    · obtain ⟨y3, y4, rfl, e1, ys, ho, hys⟩ := hW
      obtain ⟨T, u1, u2, rfl, nT, rfl, f1, f2⟩ := hY
      have k1 : u1 = .int (i : Int) := (Option.some.inj f1).symm
      subst k1
      obtain ⟨F, hF1, hF2⟩ := paired_get hp f2
      have eT : Same H1 (upd H1 T (.tup [.int (i : Int), u2])) := same_upd nT
      generalize hH3 : upd H1 T (.tup [.int (i : Int), u2]) = H3 at eT ⊢
      have hT3 : H3 T = some (.tup [.int (i : Int), u2]) := by rw [← hH3]; exact upd_same
      have e3 : Same H H3 := e1.trans eT
      have ho3 : H3 o = some (.lst ys) := eT o _ ho
      have hlt : ys.length < 100000 := by
        have h1 := Paired.length hys
        have h2 : ((opened S pl).take i).length ≤ i := List.length_take_le i _
        omega
      refine ⟨T, _, rfl, SqT.of hT3, rfl, _, _, rfl, _, _, rfl, rfl, ?_⟩
      -- the new formula is appended
      have app : ∀ (z : V) (H4 : Hp), Same H3 H4 → FmAt (hide o H4) z (openF pl i F) → rAppend (.ref o) [z] H4 fun _ H5 => ∃ y3 y4, ([some (.ref a), some (.ref p), some (.ref o), some (.int (i : Int)), some u2] : L2.St) = [some (.ref a), some (.ref p), some (.ref o), y3, y4] ∧ Same H H5 ∧ ∃ ys, H5 o = some (.lst ys) ∧ Paired (FmAt (hide o H5)) ys ((opened S pl).take (i + 1)) := by
        intro z H4 e4 hz
        refine ⟨o, ys, z, rfl, rfl, e4 o _ ho3, szl hlt, _, _, rfl, same_mut (e3.trans e4) no, _, upd_same, ?_⟩
        rw [hide_upd, opened_take hF1]
        exact paired_app (Paired.mapP hys fun _ _ q => q.xt (Xt.of_same (hide_mono (eT.trans e4)))) hz
      cases F with
      | amt b =>
        obtain ⟨t, rfl, ht⟩ := hF2
        refine ⟨.ref t, rfl, t, _, 0, _, rfl, rfl, SqT.of (e3 _ _ ht), atI_nat (j := 0) rfl, rfl, _, rfl, iteTd nAW ?_⟩
        refine ⟨.ref o, rfl, .inl ⟨rfl, _, SqL.of ho3⟩, .ref t, rfl, t, _, 0, _, rfl, rfl, SqT.of (e3 _ _ ht), atI_nat (j := 0) rfl, rfl, _, rfl, iteTd kAA ⟨_, rfl, ?_⟩⟩
        exact app _ _ (Same.refl _) ⟨t, rfl, to_hide e3 no _ _ ht⟩
      | lst as =>
        obtain ⟨t, l, rfl, ht, us, hu, hq⟩ := hF2
        refine ⟨.ref t, rfl, t, _, 0, _, rfl, rfl, SqT.of (e3 _ _ ht), atI_nat (j := 0) rfl, rfl, _, rfl, iteTd nLW ?_⟩
        refine ⟨.ref o, rfl, .inl ⟨rfl, _, SqL.of ho3⟩, .ref t, rfl, t, _, 0, _, rfl, rfl, SqT.of (e3 _ _ ht), atI_nat (j := 0) rfl, rfl, _, rfl, iteFd kLA ?_⟩
        refine ⟨.ref t, rfl, t, _, 0, _, rfl, rfl, SqT.of (e3 _ _ ht), atI_nat (j := 0) rfl, .ref t, rfl, t, _, 1, _, rfl, rfl, SqT.of (e3 _ _ ht), atI_nat (j := 1) rfl, l, us, rfl, .inl (SqL.of (e3 _ _ hu)), fun l2 n2 => ?_⟩
        refine ⟨by show 2 ≤ sizeLine; decide, fun t2 m2 => ?_⟩
        obtain ⟨m3, m4⟩ := upd_none_of m2
        have ne1 : l2 ≠ o := (ne_of_none ho3 n2).symm
        have ne2 : t2 ≠ o := (ne_of_none ho3 m4).symm
        have e4 := (same_upd (o := .lst us) n2).trans (same_upd (o := .tup [.str "least", .ref l2]) m2)
        refine app _ _ e4 ⟨t2, l2, rfl, hide_get upd_same ne2, us, hide_get ?_ ne1, Paired.mapP hq fun _ _ z => z.xt (Xt.of_same (to_hide (e3.trans e4) no))⟩
        rw [upd_ne m3.symm]
        exact upd_same
      | gst as =>
        obtain ⟨t, l, rfl, ht, us, hu, hq⟩ := hF2
        refine ⟨.ref t, rfl, t, _, 0, _, rfl, rfl, SqT.of (e3 _ _ ht), atI_nat (j := 0) rfl, rfl, _, rfl, iteTd nGW ?_⟩
        refine ⟨.ref o, rfl, .inl ⟨rfl, _, SqL.of ho3⟩, .ref t, rfl, t, _, 0, _, rfl, rfl, SqT.of (e3 _ _ ht), atI_nat (j := 0) rfl, rfl, _, rfl, iteFd kGA ?_⟩
        refine ⟨.ref t, rfl, t, _, 0, _, rfl, rfl, SqT.of (e3 _ _ ht), atI_nat (j := 0) rfl, .ref t, rfl, t, _, 1, _, rfl, rfl, SqT.of (e3 _ _ ht), atI_nat (j := 1) rfl, l, us, rfl, .inl (SqL.of (e3 _ _ hu)), fun l2 n2 => ?_⟩
        refine ⟨by show 2 ≤ sizeLine; decide, fun t2 m2 => ?_⟩
        obtain ⟨m3, m4⟩ := upd_none_of m2
        have ne1 : l2 ≠ o := (ne_of_none ho3 n2).symm
        have ne2 : t2 ≠ o := (ne_of_none ho3 m4).symm
        have e4 := (same_upd (o := .lst us) n2).trans (same_upd (o := .tup [.str "greatest", .ref l2]) m2)
        refine app _ _ e4 ⟨t2, l2, rfl, hide_get upd_same ne2, us, hide_get ?_ ne1, Paired.mapP hq fun _ _ z => z.xt (Xt.of_same (to_hide (e3.trans e4) no))⟩
        rw [upd_ne m3.symm]
        exact upd_same
      | whn j b c =>
        obtain ⟨t, rfl, ht⟩ := hF2
        refine ⟨.ref t, rfl, t, _, 0, _, rfl, rfl, SqT.of (e3 _ _ ht), atI_nat (j := 0) rfl, rfl, _, rfl, iteFd nWW ?_⟩
        refine ⟨_, rfl, _, rfl, p, _, rfl, .inl (SqL.of (e3 _ _ hpl)), rfl, flat_nats pl, inV (.int (i : Int)) (pl.map nat2V), rfl, ?_⟩
        rw [inV_nats]
        refine ite2 (fun h => ?_) fun h => ?_
        · refine ⟨.ref o, rfl, .inl ⟨rfl, _, SqL.of ho3⟩, .ref t, rfl, t, _, 3, _, rfl, rfl, SqT.of (e3 _ _ ht), atI_nat (j := 3) rfl, by show 2 ≤ sizeLine; decide, fun p1 n1 => ⟨by show 1 ≤ sizeLine; decide, fun p2 n2 => ⟨by show 2 ≤ sizeLine; decide, fun p3 n3 => ?_⟩⟩⟩
          obtain ⟨m2, m2'⟩ := upd_none_of n2
          obtain ⟨m3, m3'⟩ := upd_none_of n3
          obtain ⟨m4, m4'⟩ := upd_none_of m3'
          have e4 := ((same_upd (o := .tup [.int (c : Int), .int 0]) n1).trans (same_upd (o := .lst [.ref p1]) n2)).trans (same_upd (o := .tup [.str "greatest", .ref p2]) n3)
          have eF : openF pl i (.whn j b c) = .gst [(c, 0)] := if_pos (of_decide_eq_true h)
          refine app _ _ e4 ?_
          rw [eF]
          refine ⟨p3, p2, rfl, hide_get upd_same (ne_of_none ho3 m4').symm, [.ref p1], hide_get ?_ (ne_of_none ho3 m2').symm, .cons ⟨p1, rfl, hide_get ?_ (ne_of_none ho3 n1).symm⟩ .nil⟩
          · rw [upd_ne m3.symm]
            exact upd_same
          · rw [upd_ne m4.symm, upd_ne m2.symm]
            exact upd_same
        · refine ⟨.ref o, rfl, .inl ⟨rfl, _, SqL.of ho3⟩, by show 2 ≤ sizeLine; decide, fun p1 n1 => ?_⟩
          have eF : openF pl i (.whn j b c) = .amt (some 0) := if_neg fun z => h (decide_eq_true z)
          refine app _ _ (same_upd n1) ?_
          rw [eF]
          exact ⟨p1, rfl, hide_get upd_same (ne_of_none ho3 n1).symm⟩
    · obtain ⟨y3, y4, rfl, e1, ys, ho, hys⟩ := hW
      refine ⟨_, rfl, q H' o e1 no ⟨ys, ho, ?_⟩⟩
      rw [hvl, List.take_of_length_le (by rw [opened_len]; exact Nat.le_refl _)] at hys
      exact Paired.mapP hys fun _ _ z => z.xt (Xt.of_same hide_same)
end
end CW
namespace CW
open PySem PySem.Spec PyProof.Rows L2 CS
theorem word_greatest (F : Fm) : decide (V.str (wordOf F) = V.str "greatest") = (match F with | .gst _ => true | _ => false) := by
  cases F with
  | amt _ => exact kAG
  | lst _ => exact kLG
  | gst _ => exact kGG
  | whn _ _ _ => exact kWG
abbrev LnkAt (H : Hp) (v : V) (as : List Arc) : Prop := ∃ l, v = .ref l ∧ ArcsAt H l as
theorem LnkAt.xt {H H' : Hp} (e : Xt H H') {v : V} {as : List Arc} (h : LnkAt H v as) : LnkAt H' v as := by
  obtain ⟨l, h1, h2⟩ := h
  exact ⟨l, h1, h2.xt e⟩
theorem told_take {S : List Fm} {ch : List (Option Nat)} {i : Nat} {F : Fm} (h : S[i]? = some F) : (toldArcs S ch).take (i + 1) = (toldArcs S ch).take i ++ [arcsOfF (tellF (chAt ch i) F)] := by
  unfold toldArcs
  rw [List.take_add_one, List.getElem?_mapIdx, h]
  rfl
section
variable {P : Program} {w : World} {K : PySem.W.Frag} {mg : Str → Option Value} {base : Heap} {k : Nat}
/-! ### told_arcs -/
abbrev sToldArcs : Stmt := topS 16
theorem scToldArcs : FnScope ["plain", "choices", "word", "found", "cell", "arcs"] ["plain", "choices", "word"] (defScope sToldArcs) := ⟨rfl, rfl, rfl, by decide +kernel, rfl, by decide +kernel, by decide +kernel⟩
def spToldArcs : Sp := fun vs H Q _ => ∃ (a c : Addr) (S : List Fm) (ch : List (Option Nat)), vs = [.ref a, .ref c, .str "greatest"] ∧ ShAt H a S ∧ S.length ≤ 1000 ∧ ChOk S ch ∧ H c = some (.lst (ch.map opV)) ∧ ∀ H' o, Same H H' → H o = none → AassAt H' o (toldArcs S ch) → Q (.ref o) H'
theorem kn_told_arcs (D : Stands K mg "told_arcs" sToldArcs) (GA : Kn P w K mg base k "arcs_of" ["flat", "cell"] spArcsOf) (mr : mg "range" = none) (ml : mg "len" = none) : Kn P w K mg base (k + 1) "told_arcs" ["plain", "choices", "word"] spToldArcs := by
  refine kn_of D scToldArcs (fun _ _ _ _ _ _ us hl => match us, hl with | [_, _, _], _ => rfl) (fun vs H Q E h => ?_) (fun f cdv A outer s H vs Q E hr h => ?_)
  · obtain ⟨a, c, S, ch, rfl, _⟩ := h
    rfl
  · obtain ⟨a, c, S, ch, rfl, hS, hlen, C, hc, q⟩ := h
    refine ⟨_, pss_cons (ps_set (i := 3) scToldArcs.nd rfl (.inl rfl) (pe_lst pa_nil))
      (pss_cons (ps_for PassesOwn.never rfl (pi_range1 (by rfl) mr (pa_cons (pe_callB call_len_seq (by rfl) ml PySem.boot_len (pa_cons (pv 0) pa_nil)) pa_nil)) (pg_name (i := 4) scToldArcs.nd rfl (.inl rfl))
        (pss_cons (ps_set (i := 5) scToldArcs.nd rfl (.inl rfl) (pe_kn GA hr (by rfl) (pa_cons (pv 0) (pa_cons (pv 4) pa_nil))))
        (pss_one (ps_expr (pe_bm PySem.F.plainAttrs_list PySem.F.slot_list_append PySem.F.type_list_append mt_append (pv 3) (pa_cons
          (pe_ifExp (pt_cmpR op_eq (pe_ix ix_tup (pe_ix ix_list (pv 0) (pv 4) (fun _ _ => rfl)) pe_int (fun _ _ => rfl)) (pv 2) (nomark _))
            (pe_lst (pa_cons (pe_ix ix_list (pv 5) (pe_ix ix_list (pv 1) (pv 4) (fun _ _ => rfl)) (fun _ _ => rfl)) pa_nil)) (pv 5)) pa_nil))))))
      (pss_one (ps_ret (pv 3)))), ?_⟩
    obtain ⟨vs, hv, hp⟩ := id hS
    have hvl : vs.length = S.length := Paired.length hp
    refine ⟨Nat.zero_le _, fun o no => ?_⟩
    have s0 : Same H (upd H o (.lst [])) := same_upd no
    refine ⟨.ref a, rfl, a, vs, rfl, .inl (s0.seq (SqL.of hv)), (vs.length : Int), rfl, by omega, by omega, ?_⟩
    refine for_it walk_range0 (fun i σ H' => ∃ y4 y5, σ = [some (.ref a), some (.ref c), some (.str "greatest"), some (.ref o), y4, y5] ∧ Same H H' ∧ ∃ ys, H' o = some (.lst ys) ∧ Paired (LnkAt (hide o H')) ys ((toldArcs S ch).take i))
      ⟨none, none, rfl, s0, [], upd_same, .nil⟩ (fun i σ H' _ _ => trivial) (fun i v σ H1 H2 hi hW hY => ?_) (fun σ H' hW => ?_)
    · obtain ⟨y4, y5, rfl, e1, ys, ho, hys⟩ := hW
      obtain ⟨rfl, rfl⟩ := hY
      have hi : i < vs.length := by omega
      obtain ⟨F, hF1, hF2⟩ := paired_get hp (List.getElem?_eq_getElem hi)
      have hlt : ys.length < 100000 := by
        have h1 := Paired.length hys
        have h2 : ((toldArcs S ch).take i).length ≤ i := List.length_take_le i _
        omega
      refine ⟨.ref a, rfl, .int (i : Int), rfl, a, S, i, F, rfl, hS.xt (Xt.of_same e1), hF1, fun H3 p e2 np hA => ?_⟩
      have e3 := e1.trans e2
      have ho3 : H3 o = some (.lst ys) := e2 o _ ho
      have npo : p ≠ o := (ne_of_none ho np).symm
      -- the new list of arcs is appended
      have app : ∀ (z : V) (H4 : Hp), Same H3 H4 → LnkAt (hide o H4) z (arcsOfF (tellF (chAt ch i) F)) → rAppend (.ref o) [z] H4 fun _ H5 => ∃ y4 y5, ([some (.ref a), some (.ref c), some (.str "greatest"), some (.ref o), some (.int (i : Int)), some (.ref p)] : L2.St) = [some (.ref a), some (.ref c), some (.str "greatest"), some (.ref o), y4, y5] ∧ Same H H5 ∧ ∃ ys, H5 o = some (.lst ys) ∧ Paired (LnkAt (hide o H5)) ys ((toldArcs S ch).take (i + 1)) := by
        intro z H4 e4 hz
        refine ⟨o, ys, z, rfl, rfl, e4 o _ ho3, szl hlt, _, _, rfl, same_mut (e3.trans e4) no, _, upd_same, ?_⟩
        rw [hide_upd, told_take hF1]
        exact paired_app (Paired.mapP hys fun _ _ q => q.xt (Xt.of_same (hide_mono (e2.trans e4)))) hz
      obtain ⟨t, r, et, ht⟩ := hF2.tup
      refine ⟨.ref o, rfl, .inl ⟨rfl, _, SqL.of ho3⟩, .ref a, rfl, .int (i : Int), rfl, a, vs, (i : Int), vs[i], rfl, rfl, e3.seq (SqL.of hv), at_nat (List.getElem?_eq_getElem hi), t, _, 0, _, et, rfl, SqT.of (e3 _ _ ht), atI_nat (j := 0) rfl, .str "greatest", rfl, rfl, _, rfl, ?_⟩
      rw [word_greatest]
      obtain ⟨us, hu, hus⟩ := hA
      have keep : ∀ (H4 : Hp), Same H3 H4 → Paired (ArcAt (hide o H4)) us (arcsOfF F) := fun H4 e4 => Paired.mapP hus fun _ _ z => by
        obtain ⟨t, h1, h2⟩ := z
        exact ⟨t, h1, hide_get (e4 _ _ h2) (ne_of ho3 h2 (fun q => nomatch q)).symm⟩
      cases F with
      | gst as =>
        refine iteT ?_
        obtain ⟨m, hm1, hm2⟩ := C.at_ i as hF1
        obtain ⟨b, hb1, hb2⟩ := paired_get' hus (show as[m]? = some (as[m]) from List.getElem?_eq_getElem hm2)
        have hcm : (ch.map opV)[i]? = some (.int (m : Int)) := by
          rw [List.getElem?_map, hm1]
          rfl
        refine ⟨.ref p, rfl, .ref c, rfl, .int (i : Int), rfl, c, _, (i : Int), _, rfl, rfl, e3.seq (SqL.of hc), at_nat hcm, p, us, (m : Int), b, rfl, rfl, SqL.of hu, at_nat hb1, by show 1 ≤ sizeLine; decide, fun l2 n2 => ?_⟩
        refine app _ _ (same_upd n2) ⟨l2, rfl, [b], hide_get upd_same (ne_of_none ho3 n2).symm, ?_⟩
        show Paired _ [b] [as.getD (chAt ch i) (0, 0)]
        rw [chAt_of hm1, getD_of (List.getElem?_eq_getElem hm2)]
        obtain ⟨t2, h1, h2⟩ := hb2
        exact .cons ⟨t2, h1, hide_get (same_upd n2 _ _ h2) (ne_of ho3 h2 (fun q => nomatch q)).symm⟩ .nil
      | amt b =>
        refine iteF ⟨.ref p, rfl, ?_⟩
        exact app _ _ (Same.refl _) ⟨p, rfl, us, hide_get hu npo, keep H3 (Same.refl _)⟩
      | lst as =>
        refine iteF ⟨.ref p, rfl, ?_⟩
        exact app _ _ (Same.refl _) ⟨p, rfl, us, hide_get hu npo, keep H3 (Same.refl _)⟩
      | whn j b e =>
        refine iteF ⟨.ref p, rfl, ?_⟩
        exact app _ _ (Same.refl _) ⟨p, rfl, us, hide_get hu npo, keep H3 (Same.refl _)⟩
    · obtain ⟨y4, y5, rfl, e1, ys, ho, hys⟩ := hW
      refine ⟨_, rfl, q H' o e1 no ⟨ys, ho, ?_⟩⟩
      rw [Int.toNat_natCast, hvl, List.take_of_length_le (by rw [toldArcs_len]; exact Nat.le_refl _)] at hys
      exact Paired.mapP hys fun _ _ z => z.xt (Xt.of_same hide_same)
/-! ### nought_cell -/
abbrev sNoughtCell : Stmt := topS 18
theorem scNoughtCell : FnScope ["circle", "total", "best", "found", "place", "cell", "shift"] ["circle"] (defScope sNoughtCell) := ⟨rfl, rfl, rfl, by decide +kernel, rfl, by decide +kernel, by decide +kernel⟩
def spNoughtCell : Sp := fun vs H Q _ => ∃ (a : Addr) (ring : List Arc), vs = [.ref a] ∧ ArcsAt H a ring ∧ ring ≠ [] ∧ ring.length ≤ 1000 ∧ ∀ H', Same H H' → Q (.int (noughtCell ring : Nat)) H'
theorem kn_nought_cell (D : Stands K mg "nought_cell" sNoughtCell) (me : mg "enumerate" = none) (ml : mg "len" = none) : Kn P w K mg base (k + 1) "nought_cell" ["circle"] spNoughtCell := by
  refine kn_of D scNoughtCell (fun _ _ _ _ _ _ us hl => match us, hl with | [_], _ => rfl) (fun vs H Q E h => ?_) (fun f cdv A outer s H vs Q E hr h => ?_)
  · obtain ⟨a, ring, rfl, _⟩ := h
    rfl
  · obtain ⟨a, ring, rfl, hA, hne, hlen, q⟩ := h
    refine ⟨_, pss_cons (ps_set (i := 1) scNoughtCell.nd rfl (.inl rfl) pe_int) (pss_cons (ps_set (i := 2) scNoughtCell.nd rfl (.inl rfl) pe_int)
      (pss_cons (ps_set (i := 3) scNoughtCell.nd rfl (.inl rfl) (pe_ix ix_tup (pe_ix ix_list (pv 0) pe_int (fun _ _ => rfl)) pe_int (fun _ _ => rfl)))
      (pss_cons (ps_for PassesOwn.never rfl (pi_enum (by rfl) me (pa_cons (pv 0) pa_nil)) (pg_tup rfl (pgs_cons (pg_name (i := 4) scNoughtCell.nd rfl (.inl rfl)) (pgs_cons (pg_tup rfl (pgs_cons (pg_name (i := 5) scNoughtCell.nd rfl (.inl rfl)) (pgs_cons (pg_name (i := 6) scNoughtCell.nd rfl (.inl rfl)) pgs_nil))) pgs_nil)))
        (pss_cons (ps_aug (i := 1) scNoughtCell.nd rfl (.inl rfl) (pv 6) ip_add)
        (pss_one (ps_if (pt_cmpR op_gt (pv 1) (pv 2) (nomark _))
          (pss_cons (ps_set (i := 2) scNoughtCell.nd rfl (.inl rfl) (pv 1))
          (pss_one (ps_set (i := 3) scNoughtCell.nd rfl (.inl rfl) (pe_ix ix_tup (pe_ix ix_list (pv 0) (pe_op op_mod (pe_op op_add (pv 4) pe_int) (pe_callB call_len_seq (by rfl) ml PySem.boot_len (pa_cons (pv 0) pa_nil))) (fun _ _ => rfl)) pe_int (fun _ _ => rfl))))) pss_nil))))
      (pss_one (ps_ret (pv 3)))))), ?_⟩
    obtain ⟨vs, hv, hp⟩ := hA
    have hvl : vs.length = ring.length := Paired.length hp
    have hpos : 0 < ring.length := List.length_pos_iff.mpr hne
    -- an item of the ring
    have item : ∀ (j : Nat), j < ring.length → ∃ t, vs[j]? = some (.ref t) ∧ H t = some (.tup (arcX (ring.getD j (0, 0)))) := fun j hj => by
      obtain ⟨v, h1, t, h2, h3⟩ := paired_get' hp (List.getElem?_eq_getElem hj)
      subst h2
      refine ⟨t, h1, ?_⟩
      rw [getD_of (List.getElem?_eq_getElem hj)]
      exact h3
    obtain ⟨t0, h1, h2⟩ := item 0 hpos
    refine ⟨.ref a, rfl, a, vs, 0, _, rfl, rfl, SqL.of hv, at_nat (j := 0) h1, t0, _, 0, _, rfl, rfl, SqT.of h2, atI_nat (j := 0) rfl, ?_⟩
    refine ⟨.ref a, rfl, a, vs, rfl, SqL.of hv, ?_⟩
    refine for_it walk_enum (fun i σ H' => ∃ y4 y5 y6, σ = [some (.ref a), some (.int (ncRun ring i).1), some (.int (ncRun ring i).2.1), some (.int ((ncRun ring i).2.2 : Nat)), y4, y5, y6] ∧ Same H H')
      ⟨none, none, none, rfl, Same.refl H⟩ (fun i σ H' _ ⟨_, _, _, _, e⟩ => e.seq (SqL.of hv)) (fun i v σ H1 H2 hi hW hY => ?_) (fun σ H' hW => ?_)
    · obtain ⟨y4, y5, y6, rfl, e1⟩ := hW
      obtain ⟨T, u1, u2, rfl, nT, rfl, f1, f2⟩ := hY
      have k1 : u1 = .int (i : Int) := (Option.some.inj f1).symm
      subst k1
      have hi : i < ring.length := by omega
      obtain ⟨t, g1, g2⟩ := item i hi
      have k2 : u2 = .ref t := Option.some.inj (f2.symm.trans g1)
      subst k2
      have eT : Same H1 (upd H1 T (.tup [.int (i : Int), .ref t])) := same_upd nT
      have e3 := e1.trans eT
      refine ⟨T, _, rfl, SqT.of upd_same, rfl, _, _, rfl, _, _, rfl, ⟨t, _, rfl, SqT.of (e3 _ _ g2), rfl, _, _, rfl, _, _, rfl, rfl, rfl, ?_⟩⟩
      refine ⟨_, rfl, _, rfl, _, _, rfl, rfl, ?_⟩
      refine ⟨_, rfl, _, rfl, _, _, rfl, rfl, _, rfl, ite2 (fun c => ?_) fun c => ?_⟩
      · obtain ⟨t2, g3, g4⟩ := item ((i + 1) % ring.length) (Nat.mod_lt _ hpos)
        have em : ((i : Int) + 1) % (vs.length : Int) = (((i + 1) % ring.length : Nat) : Int) := by
          rw [hvl]
          exact (Int.natCast_emod (i + 1) ring.length).symm
        refine ⟨_, rfl, .ref a, rfl, _, rfl, _, _, rfl, rfl, .ref a, rfl, a, vs, rfl, .inl (e3.seq (SqL.of hv)), _, _, rfl, rfl, by omega, a, vs, _, _, rfl, rfl, e3.seq (SqL.of hv), by rw [em]; exact at_nat g3, t2, _, 0, _, rfl, rfl, SqT.of (e3 _ _ g4), atI_nat (j := 0) rfl, ?_⟩
        have ce : (ncRun ring i).2.1 < (ncRun ring i).1 + (ring.getD i (0, 0)).2 := of_decide_eq_true c
        refine ⟨some (.int (i : Int)), some (.int ((ring.getD i (0, 0)).1 : Int)), some (.int (ring.getD i (0, 0)).2), ?_, e3⟩
        rw [ncRun_succ]
        unfold ncStep
        rw [if_pos ce]
        rfl
      · have ce : ¬ (ncRun ring i).2.1 < (ncRun ring i).1 + (ring.getD i (0, 0)).2 := fun z => c (decide_eq_true z)
        refine ⟨some (.int (i : Int)), some (.int ((ring.getD i (0, 0)).1 : Int)), some (.int (ring.getD i (0, 0)).2), ?_, e3⟩
        rw [ncRun_succ]
        unfold ncStep
        rw [if_neg ce]
        rfl
    · obtain ⟨y4, y5, y6, rfl, e1⟩ := hW
      refine ⟨_, rfl, ?_⟩
      rw [hvl]
      exact q H' e1
end
end CW
namespace CW
open PySem PySem.Spec PyProof.Rows L2 CS
theorem rdRounds_snoc (S : List Fm) (arcs : List (List Arc)) (nts : List Nat) : ∀ (r : Nat) (st : List Am), rdRounds S arcs nts (r + 1) st = rdRound S arcs nts (rdRounds S arcs nts r st)
  | 0, st => rfl
  | r + 1, st => rdRounds_snoc S arcs nts r (rdRound S arcs nts st)
theorem foldl_range_succ {β : Type} (f : β → Nat → β) (b : β) (i : Nat) : (List.range (i + 1)).foldl f b = f ((List.range i).foldl f b) i := by
  rw [List.range_succ, List.foldl_append]
  rfl
theorem rdArc_len (c : Nat) (st : List Am) (p : Arc) : (rdArc c st p).length = st.length := by
  unfold rdArc
  split
  · exact List.length_set
  · rfl
theorem rdArcs_len (c : Nat) : ∀ (ps : List Arc) (st : List Am), (ps.foldl (rdArc c) st).length = st.length
  | [], _ => rfl
  | p :: ps, st => (rdArcs_len c ps _).trans (rdArc_len c st p)
theorem rdCell_len (S : List Fm) (arcs : List (List Arc)) (nts : List Nat) (st : List Am) (c : Nat) : (rdCell S arcs nts st c).length = st.length := by
  unfold rdCell
  split
  · exact List.length_set
  · split
    · exact List.length_set
    · exact rdArcs_len c _ _
theorem rdFold_len (S : List Fm) (arcs : List (List Arc)) (nts : List Nat) : ∀ (l : List Nat) (st : List Am), (l.foldl (rdCell S arcs nts) st).length = st.length
  | [], _ => rfl
  | c :: l, st => (rdFold_len S arcs nts l _).trans (rdCell_len S arcs nts st c)
theorem rdRounds_len (S : List Fm) (arcs : List (List Arc)) (nts : List Nat) : ∀ (r : Nat) (st : List Am), (rdRounds S arcs nts r st).length = st.length
  | 0, _ => rfl
  | r + 1, st => (rdRounds_len S arcs nts r _).trans (rdFold_len S arcs nts _ st)
theorem set_amV (x : List Am) (i : Nat) (a : Am) : (x.map amV).set i (amV a) = (x.set i a).map amV := List.map_set.symm
theorem word_amount (F : Fm) : decide (V.str (wordOf F) = V.str "amount") = (match F with | .amt _ => true | _ => false) := by
  cases F with
  | amt _ => exact kAA
  | lst _ => exact kLA
  | gst _ => exact kGA
  | whn _ _ _ => exact kWA
section
variable {P : Program} {w : World} {K : PySem.W.Frag} {mg : Str → Option Value} {base : Heap} {k : Nat}
/-! ### rounds_down -/
abbrev sRoundsDown : Stmt := topS 19
theorem scRoundsDown : FnScope ["plain", "arcs", "noughts", "found", "step", "cell", "formula", "target", "shift", "amount"] ["plain", "arcs", "noughts"] (defScope sRoundsDown) := ⟨rfl, rfl, rfl, by decide +kernel, rfl, by decide +kernel, by decide +kernel⟩
def spRoundsDown : Sp := fun vs H Q _ => ∃ (a b c : Addr) (S : List Fm) (arcs : List (List Arc)) (nts : List Nat), vs = [.ref a, .ref b, .ref c] ∧ ShAt H a S ∧ S.length ≤ 1000 ∧ AassAt H b arcs ∧ arcs.length = S.length ∧ (∀ i, ∀ p ∈ arcs.getD i [], p.1 < S.length) ∧
  H c = some (.lst (nts.map nat2V)) ∧ ∀ H' o, Same H H' → H o = none → AmsAt H' o (roundsDown S arcs nts) → Q (.ref o) H'
theorem kn_rounds_down (D : Stands K mg "rounds_down" sRoundsDown) (GA : Kn P w K mg base k "at_most" ["a", "b"] spAtMost) (GS : Kn P w K mg base k "shifted" ["a", "c"] spShifted) (mr : mg "range" = none) (ml : mg "len" = none) (me : mg "enumerate" = none) :
    Kn P w K mg base (k + 1) "rounds_down" ["plain", "arcs", "noughts"] spRoundsDown := by
  refine kn_of D scRoundsDown (fun _ _ _ _ _ _ us hl => match us, hl with | [_, _, _], _ => rfl) (fun vs H Q E h => ?_) (fun f cdv A outer s H vs Q E hr h => ?_)
  · obtain ⟨a, b, c, S, arcs, nts, rfl, _⟩ := h
    rfl
  · obtain ⟨a, b, c, S, arcs, nts, rfl, hS, hlen, hB, hbl, hin, hc, q⟩ := h
    refine ⟨_, pss_cons (ps_setLc (i := 3) (own := [("cell", 5)]) (g := gName 5) (te := tC .non) (by rfl) scRoundsDown.nd rfl rfl (sw_true rfl rfl rfl (by decide +kernel)) (pi_list (pv 0))
        (blkOk_by (own := [("cell", 5)]) (N := ["plain", "arcs", "noughts", "found", "step", "cell", "formula", "target", "shift", "amount"]) (sc := defScope sRoundsDown) (by decide +kernel))
        (fun _ _ _ _ _ => pg_name (i := 5) scRoundsDown.nd rfl (.inl rfl)) (fun _ _ _ _ _ => pts_nil) (fun _ _ _ _ _ => pe_non))
      (pss_cons (ps_for PassesOwn.never rfl (pi_range1 (by rfl) mr (pa_cons (pe_op op_add (pe_callB call_len_seq (by rfl) ml PySem.boot_len (pa_cons (pv 0) pa_nil)) pe_int) pa_nil)) (pg_name (i := 4) scRoundsDown.nd rfl (.inl rfl))
        (pss_one (ps_for PassesOwn.never rfl (pi_enum (by rfl) me (pa_cons (pv 0) pa_nil)) (pg_tup rfl (pgs_cons (pg_name (i := 5) scRoundsDown.nd rfl (.inl rfl)) (pgs_cons (pg_name (i := 6) scRoundsDown.nd rfl (.inl rfl)) pgs_nil)))
          (pss_one (ps_if (pt_cmpR op_in_seq (pv 5) (pv 2) (by rfl)) (pss_one (ps_asg pe_int (pg_sub (pv 3) (pv 5) set_list)))
            (pss_one (ps_if (pt_cmpR op_eq (pe_ix ix_tup (pv 6) pe_int (fun _ _ => rfl)) pe_str (nomark _)) (pss_one (ps_asg (pe_ix ix_tup (pv 6) pe_int (fun _ _ => rfl)) (pg_sub (pv 3) (pv 5) set_list)))
              (pss_one (ps_for PassesOwn.never rfl (pi_list (pe_ix ix_list (pv 1) (pv 5) (fun _ _ => rfl))) (pg_tup rfl (pgs_cons (pg_name (i := 7) scRoundsDown.nd rfl (.inl rfl)) (pgs_cons (pg_name (i := 8) scRoundsDown.nd rfl (.inl rfl)) pgs_nil)))
                (pss_cons (ps_set (i := 9) scRoundsDown.nd rfl (.inl rfl) (pe_kn GS hr (by rfl) (pa_cons (pe_ix ix_list (pv 3) (pv 7) (fun _ _ => rfl)) (pa_cons (pv 8) pa_nil))))
                (pss_one (ps_if (pt_val (pe_kn GA hr (by rfl) (pa_cons (pv 9) (pa_cons (pe_ix ix_list (pv 3) (pv 5) (fun _ _ => rfl)) pa_nil)))) (pss_one (ps_asg (pv 9) (pg_sub (pv 3) (pv 5) set_list))) pss_nil))))))))))))
      (pss_one (ps_ret (pv 3)))), ?_⟩
    obtain ⟨vs, hv, hp⟩ := id hS
    have hvl : vs.length = S.length := Paired.length hp
    obtain ⟨ws, hw, hq⟩ := id hB
    have hwl : ws.length = arcs.length := Paired.length hq
    -- found = [None ..]
    refine ⟨.ref a, rfl, a, rfl, ⟨vs, SqL.of hv⟩, fun o no => ?_⟩
    refine lc_vals walk_list no (fun _ => .non) (fun H' e => e.seq (SqL.of hv)) (by omega) (fun i y H1 H2 hi e1 hDl hY Q' q' => ?_) fun H0 s0 h0 => ?_
    · obtain ⟨rfl, hy⟩ := hY
      exact ⟨rfl, q' H2 (Same.refl _)⟩
    have ho0 : AmsAt H0 o (List.replicate S.length none) := by
      show H0 o = some (.lst ((List.replicate S.length none).map amV))
      rw [h0, hvl, List.map_replicate]
      congr 2
      exact List.ext_getElem? fun i => by
        by_cases hi : i < S.length
        · rw [List.getElem?_map, List.getElem?_range hi, List.getElem?_replicate_of_lt hi]
          rfl
        · rw [List.getElem?_eq_none (by rw [List.length_map, List.length_range]; omega), List.getElem?_eq_none (by rw [List.length_replicate]; omega)]
    -- an amount of the list, an amount stored
    have look : ∀ {H1 : Hp} {st : List Am} (j : Nat), AmsAt H1 o st → j < st.length → atI (st.map amV) (j : Int) = some (amV (at_ st j)) := fun {H1 st} j _ hj => at_nat (by rw [List.getElem?_map, get_at hj]; rfl)
    refine ⟨.ref a, rfl, a, vs, rfl, .inl (s0.seq (SqL.of hv)), _, _, rfl, rfl, (vs.length : Int) + 1, rfl, by omega, by omega, ?_⟩
    refine for_it walk_range0 (fun r σ H' => ∃ y4 y5 y6 y7 y8 y9, σ = [some (.ref a), some (.ref b), some (.ref c), some (.ref o), y4, y5, y6, y7, y8, y9] ∧ Same H H' ∧ AmsAt H' o (rdRounds S arcs nts r (List.replicate S.length none)))
      ⟨none, none, none, none, none, none, rfl, s0, ho0⟩ (fun i σ H' _ _ => trivial) (fun r v σ H1 H2 hr1 hW hY => ?_) (fun σ H' hW => ?_)
    · obtain ⟨y4, y5, y6, y7, y8, y9, rfl, e1, ho⟩ := hW
      obtain ⟨rfl, rfl⟩ := hY
      have stl : (rdRounds S arcs nts r (List.replicate S.length none)).length = S.length := by rw [rdRounds_len, List.length_replicate]
      rw [rdRounds_snoc]
      generalize rdRounds S arcs nts r (List.replicate S.length none) = st0 at ho stl
      refine ⟨.ref a, rfl, a, vs, rfl, e1.seq (SqL.of hv), ?_⟩
      refine for_it walk_enum (fun i σ H' => ∃ y4 y5 y6 y7 y8 y9, σ = [some (.ref a), some (.ref b), some (.ref c), some (.ref o), y4, y5, y6, y7, y8, y9] ∧ Same H H' ∧ AmsAt H' o ((List.range i).foldl (rdCell S arcs nts) st0))
        ⟨_, _, _, _, _, _, rfl, e1, ho⟩ (fun i σ H' _ ⟨_, _, _, _, _, _, _, e, _⟩ => e.seq (SqL.of hv)) (fun i v σ H1 H2 hi hW hY => ?_) (fun σ H' hW => ?_)
      · obtain ⟨z4, z5, z6, z7, z8, z9, rfl, e1, ho⟩ := hW
        obtain ⟨T, u1, u2, rfl, nT, rfl, f1, f2⟩ := hY
        have k1 : u1 = .int (i : Int) := (Option.some.inj f1).symm
        subst k1
        obtain ⟨F, hF1, hF2⟩ := paired_get hp f2
        have hi : i < S.length := (List.getElem?_eq_some_iff.mp hF1).1
        have eT : Same H1 (upd H1 T (.tup [.int (i : Int), u2])) := same_upd nT
        have hT3 : (upd H1 T (.tup [.int (i : Int), u2])) T = some (.tup [.int (i : Int), u2]) := upd_same
        generalize upd H1 T (.tup [.int (i : Int), u2]) = H3 at eT hT3 ⊢
        have e3 : Same H H3 := e1.trans eT
        have ho3 := AmsAt.xt (Xt.of_same eT) ho
        rw [foldl_range_succ]
        have stl2 : ((List.range i).foldl (rdCell S arcs nts) st0).length = S.length := by rw [rdFold_len, stl]
        generalize (List.range i).foldl (rdCell S arcs nts) st0 = st at ho ho3 stl2
        have put : ∀ (x : Am) (H4 : Hp), Same H H4 → AmsAt H4 o st → ∀ (N : Hp → Prop), (∀ H5, Same H H5 → AmsAt H5 o (st.set i x) → N H5) → rSetL (.ref o) (.int (i : Int)) (amV x) H4 N := fun x H4 e4 h4 N hN => by
          refine ⟨o, _, (i : Int), i, rfl, rfl, h4, ixN_at (by rw [List.length_map]; omega), hN _ (same_mut e4 no) ?_⟩
          show upd H4 o _ o = _
          rw [upd_same, set_amV]
        refine ⟨T, _, rfl, SqT.of hT3, rfl, _, _, rfl, _, _, rfl, rfl, ?_⟩
        refine ⟨_, rfl, .ref c, rfl, c, _, rfl, .inl (e3.seq (SqL.of hc)), rfl, flat_nats nts, inV (.int (i : Int)) (nts.map nat2V), rfl, ?_⟩
        rw [inV_nats]
        refine ite2 (fun hn => ?_) fun hn => ?_
        · have en : rdCell S arcs nts st i = st.set i (some 0) := if_pos (of_decide_eq_true hn)
          rw [en]
          exact ⟨.ref o, rfl, .int (i : Int), rfl, put (some 0) H3 e3 ho3 _ fun H5 e5 h5 => ⟨_, _, _, _, _, _, rfl, e5, h5⟩⟩
        · have hn2 : i ∉ nts := fun z => hn (decide_eq_true z)
          obtain ⟨t, rr, et, ht⟩ := hF2.tup
          refine ⟨u2, rfl, t, _, 0, _, et, rfl, SqT.of (e3 _ _ ht), atI_nat (j := 0) rfl, rfl, _, rfl, ?_⟩
          rw [word_amount]
          -- the arcs
          have arcsWay : (∀ x, F ≠ .amt x) → rdCell S arcs nts st i = (arcs.getD i []).foldl (rdArc i) st := fun hF => by
            unfold rdCell
            rw [if_neg hn2, hF1]
            cases F with
            | amt x => exact absurd rfl (hF x)
            | _ => rfl
          have hia : i < arcs.length := by omega
          obtain ⟨wv, hwv, l, rfl, hl⟩ := paired_get' hq (show arcs[i]? = some arcs[i] from List.getElem?_eq_getElem hia)
          obtain ⟨us, hu, hus⟩ := hl
          have eg : arcs.getD i [] = arcs[i] := getD_of (List.getElem?_eq_getElem hia)
          have hul : us.length = arcs[i].length := Paired.length hus
          have way : (∀ x, F ≠ .amt x) → tFor (iList K (tOp (rIxL K) (tVar 1) (tVar 5))) (gTup K 2 (gCons (gName 7) (gCons (gName 8) gNil)))
              (tSeq (tAsg (tCall spShifted [] E0 (tCons (tOp (rIxL K) (tVar 3) (tVar 7)) (tCons (tVar 8) tNil))) (gName 9)) (tIfS (tB (tCall spAtMost [] E0 (tCons (tVar 9) (tCons (tOp (rIxL K) (tVar 3) (tVar 5)) tNil)))) (tAsg (tVar 9) (gSub (tVar 3) (tVar 5) rSetL)) tNext))
              { nx := fun σ H' => ∃ y4 y5 y6 y7 y8 y9, σ = [some (.ref a), some (.ref b), some (.ref c), some (.ref o), y4, y5, y6, y7, y8, y9] ∧ Same H H' ∧ AmsAt H' o (rdCell S arcs nts st i), rt := Q }
              [some (.ref a), some (.ref b), some (.ref c), some (.ref o), z4, some (.int (i : Int)), some u2, z7, z8, z9] H3 := fun hF => by
            refine ⟨.ref b, rfl, .int (i : Int), rfl, b, ws, (i : Int), .ref l, rfl, rfl, e3.seq (SqL.of hw), at_nat hwv, l, rfl, ⟨us, SqL.of (e3 _ _ hu)⟩, ?_⟩
            refine for_it walk_list (fun m σ H' => ∃ y7 y8 y9, σ = [some (.ref a), some (.ref b), some (.ref c), some (.ref o), z4, some (.int (i : Int)), some u2, y7, y8, y9] ∧ Same H H' ∧ AmsAt H' o (runTo (rdArc i) st arcs[i] m))
              ⟨_, _, _, rfl, e3, ho3⟩ (fun i σ H' _ ⟨_, _, _, _, e, _⟩ => e.seq (SqL.of hu)) (fun m v σ H5 H6 hm hW hY => ?_) (fun σ H' hW => ?_)
            · obtain ⟨y7, y8, y9, rfl, e5, h5⟩ := hW
              obtain ⟨rfl, hy⟩ := hY
              obtain ⟨p, hp1, tt, rfl, htt⟩ := paired_get hus hy
              have hpin : p.1 < S.length := hin i p (by rw [eg]; exact List.mem_of_getElem? hp1)
              rw [runTo_succ hp1]
              have stl3 : (runTo (rdArc i) st arcs[i] m).length = S.length := by
                unfold runTo
                rw [rdArcs_len, stl2]
              generalize runTo (rdArc i) st arcs[i] m = s5 at h5 stl3
              refine ⟨tt, _, rfl, SqT.of (e5 _ _ htt), rfl, _, _, rfl, _, _, rfl, rfl, ?_⟩
              refine ⟨.ref o, rfl, .int (p.1 : Int), rfl, o, _, (p.1 : Int), _, rfl, rfl, SqL.of h5, look p.1 h5 (by omega), .int p.2, rfl, at_ s5 p.1, p.2, rfl, ?_⟩
              refine ⟨_, rfl, .ref o, rfl, .int (i : Int), rfl, o, _, (i : Int), _, rfl, rfl, SqL.of h5, look i h5 (by omega), arcV (at_ s5) p, at_ s5 i, rfl, _, rfl, ite2 (fun cc => ?_) fun cc => ?_⟩
              · have er : rdArc i s5 p = s5.set i (arcV (at_ s5) p) := if_pos (of_decide_eq_true cc)
                rw [er]
                refine ⟨_, rfl, .ref o, rfl, .int (i : Int), rfl, o, _, (i : Int), i, rfl, rfl, h5, ixN_at (by rw [List.length_map]; omega), _, _, _, rfl, same_mut e5 no, ?_⟩
                show upd H6 o _ o = _
                rw [upd_same]
                exact congrArg (fun z => some (HO.lst z)) (set_amV s5 i _)
              · have er : rdArc i s5 p = s5 := if_neg fun z => cc (decide_eq_true z)
                rw [er]
                exact ⟨_, _, _, rfl, e5, h5⟩
            · obtain ⟨y7, y8, y9, rfl, e5, h5⟩ := hW
              refine ⟨_, _, _, _, _, _, rfl, e5, ?_⟩
              rw [arcsWay hF, eg]
              rw [hul, runTo_all] at h5
              exact h5
          cases F with
          | amt x =>
            obtain ⟨t2, rfl, ht2⟩ := hF2
            refine iteT ?_
            have en : rdCell S arcs nts st i = st.set i x := by
              unfold rdCell
              rw [if_neg hn2, hF1]
            rw [en]
            refine ⟨.ref t2, rfl, t2, _, 1, _, rfl, rfl, SqT.of (e3 _ _ ht2), atI_nat (j := 1) rfl, ?_⟩
            exact ⟨.ref o, rfl, .int (i : Int), rfl, put x H3 e3 ho3 _ fun H5 e5 h5 => ⟨_, _, _, _, _, _, rfl, e5, h5⟩⟩
          | lst as => exact iteF (way fun x z => nomatch z)
          | gst as => exact iteF (way fun x z => nomatch z)
          | whn j d e => exact iteF (way fun x z => nomatch z)
      · obtain ⟨z4, z5, z6, z7, z8, z9, rfl, e1, ho⟩ := hW
        refine ⟨_, _, _, _, _, _, rfl, e1, ?_⟩
        rw [hvl] at ho
        exact ho
    · obtain ⟨z4, z5, z6, z7, z8, z9, rfl, e1, ho⟩ := hW
      refine ⟨_, rfl, q H' o e1 no ?_⟩
      have en : ((vs.length : Int) + 1).toNat = S.length + 1 := by omega
      rw [en] at ho
      exact ho
end
end CW
namespace CW
open PySem PySem.Spec PyProof.Rows L2 CS
/-! ### a def whose code object is told; a lambda of one parameter that is handed to a def and called there -/
structure StandsC (K : PySem.W.Frag) (mg : Str → Option Value) (x : Str) (st : Stmt) (c : Addr) : Prop where
  ex : ∃ (f : Addr) (oc : Value) (od : Option Addr) (kV doc pm : Value) (an : Option Addr) (ct : Value) (osl : Array (Option Value)), mg x = some (.ref f) ∧
    K.lookup f = some ⟨oc, od, .func (PySem.W.fnOf x x (defArgs st) (defBody st) (defScope st) .none kV doc pm an (.ref c) ct), osl⟩ ∧ PySem.W.codeIn K (.ref c) x = true ∧ PySem.W.keepIn K (.ref f) = true
section
variable {P : Program} {w : World} {K : PySem.W.Frag} {mg : Str → Option Value} {base : Heap}
theorem kn_ofC {x : Str} {st : Stmt} {N ps : List Str} {k : Nat} {sp : Sp} {c : Addr} (D : StandsC K mg x st c) (S : FnScope N ps (defScope st)) (hb : BindEq x st ps) (len : ∀ vs H Q E, sp vs H Q E → vs.length = ps.length)
    (hbody : ∀ (f : Addr) (A : Around) (outer : List Env) (s : Shared) (H : Hp) (vs : List V) (Q : VK) (E : XK), Room k (A.deeper (envOfC x (defScope st) s.heap.objs.size f (.ref c))) → sp vs H Q E →
      ∃ t, PSs (cxOf CX0 P w K mg base N x (defScope st) f (.ref c) A outer s H E).nox (defBody st) t ∧ t { nx := fun _ H' => Q .non H', rt := Q } (start N vs) H) : Kn P w K mg base (k + 1) x ps sp := by
  obtain ⟨f, oc, od, kV, doc, pm, an, ct, osl, hm, lk, hcd, hk⟩ := D.ex
  refine ⟨f, _, hm, hk, .all (hb kV doc pm an (.ref c) ct), fn_of lk hcd S len fun A outer s H vs Q E hr hsp => ?_⟩
  obtain ⟨t, h, q⟩ := hbody f A outer s H vs Q E hr hsp
  exact ⟨t, h.nox, q⟩
end
/-- the words of a lambda, as of a nested function -/
def lamF (q : Str) (params : Arguments) (scope : Scope) (cl : List (Str × Addr)) (c : Addr) : NdefX.NF := ⟨"<lambda>", q, params, [], scope, cl, c⟩
section
variable {P : Program} {w : World} {K : PySem.W.Frag} {mg : Str → Option Value} {base : Heap}
/-- the lambda's object called with one value -/
theorem lam_run {A : Around} {outer : List Env} {s : Shared} {H : Hp} {E : XK} {Q : VK} {N fr : List Str} {p q : Str} {params : Arguments} {body : Expr} {scope : Scope} {cl : List (Str × Addr)} {f c' : Addr} {pm ctv u : Value} {v : V} {ws : List (Option V)} {k : Nat} {t : TE}
    (S : NdefX.NScope N [p] fr scope) (hr : Room (k + 1) A) (e0 : Env0 P w K mg base A outer s H) (ho : s.heap.get? f = some (PySem.W.kla_obj "<lambda>" q params body scope cl pm c' ctv)) (hc : H c' = some (LamX.CodeO c' q))
    (hbind : bindArgs (PySem.W.kla_fn "<lambda>" q params body scope cl pm (.ref c') ctv) ⟨[u], []⟩ = pure [(p, u)]) (C : NdefX.CellsAt cl fr ws s.heap H) (r : RelV v u)
    (hbody : PE (NdefX.ncx CX0 P w K mg base N (lamF q params scope cl c') f A outer s H E) body t) (ht : t (NdefX.startF N [v] ws) H Q) :
    codeAny (model P w) A (.call (.ref f) ⟨[u], []⟩) (CR CX0 outer P w H s Q E) s := by
  have lim : s.heap.NoLimit := e0.mod.nolimit.keeps fun b o e => (e0.bs b o e).1
  refine PySem.W.kla_callFunE hr.depth ho rfl S.co S.gen rfl (NdefX.codeO_at e0.hok hc) ?_
  rw [hbind]
  refine wpAny_pure (wpAny_newFunctionEnv S.nocell (fun y hy => ?_) (fun g hns hsb => ⟨lim.fresh _ hsb, ?_⟩) S.kind)
  · rw [List.mem_singleton.mp hy]
    exact S.par p List.mem_cons_self
  · show codeAny _ _ (.expr body (NdefX.envF (lamF q params scope cl c') f s.heap.objs.size)) _ _
    have kp : ∀ b o, s.heap.get? b = some o → g.get? b = some o := fun b o e => hsb.extBut b o (Nat.ne_of_lt (Heap.lt_size e)) (Heap.get?_push_of_some _ e)
    have I := NdefX.inv_startN (CX := CX0) (E := E) (F := lamF q params scope cl c') (f := f) (tk := s.toks + [(p, u)].length) (us := [u]) S hr.hd e0 (vs := [v]) rfl (.cons r .nil) C hns kp
    refine PySem.W.kla_codeExpr (wpAny_mono (hbody.run [] _ _ H Q I ht) (fun u' s' hq => ?_) fun e s' hq => hq)
    obtain ⟨v', H', J, rv, qv⟩ := hq
    exact ⟨v', H', J.os, J.bare, J.base, J.hok, rv, qv⟩
end
section
variable {X : Cx} {pins : List (Addr × Obj)} {σ : L2.St} {H : Hp} {s : Shared} {cl : List (Str × Addr)} {fr : List Str} {ws : List (Option V)}
/-- what the cells held when the running def was entered they hold still -/
theorem cells_still (C : NdefX.CellsAt cl fr ws X.s_0.heap X.H_0) (hx : X.ex = []) (I : Inv X pins σ H s) : NdefX.CellsAt cl fr ws s.heap H := by
  have nx : ∀ c, c ∉ X.ex := fun c z => by
    rw [hx] at z
    exact absurd z (List.not_mem_nil)
  have kp : ∀ {c : Addr} {v : Option Value}, X.H_0 c = none → X.s_0.heap.IsCell c v → s.heap.IsCell c v := fun {c v} n z => by
    obtain ⟨o, ho, hd⟩ := z
    obtain ⟨sl, e⟩ := I.base.any ho n (nx c)
    exact ⟨_, e, hd⟩
  refine ⟨C.len, fun y c e => ?_, C.inj, fun i y e => ?_⟩
  · obtain ⟨n, v, z⟩ := C.all y c e
    refine ⟨?_, v, kp n z⟩
    obtain ⟨o, ho, _⟩ := z
    exact I.base.free c o ho n (nx c)
  · obtain ⟨c, hc, hv⟩ := C.has i y e
    exact ⟨c, hc, fun v ev => by
      obtain ⟨u, r, z⟩ := hv v ev
      exact ⟨u, r, kp (C.all y c hc).1 z⟩⟩
end
/-- the reading of a(e), a in slot i the lambda at f, whose answer is W of an int -/
def tWt (f c' : Addr) (q : Str) (W : Int → Int) (i : Nat) (te : TE) : TE := fun σ H Q => σ[i]? = some (some (.ref f)) ∧ te σ H fun v H1 => ∃ sh, v = .int sh ∧ H1 c' = some (LamX.CodeO c' q) ∧ Q (.int (W sh)) H1
/-- a(e) in the def that got the lambda -/
theorem pe_wt {Z : Cx} {N fr : List Str} {p q a : Str} {params : Arguments} {body : Expr} {scope : Scope} {cl : List (Str × Addr)} {f c' : Addr} {pm ctv : Value} {ws : List (Option V)} {k i : Nat} {e : Expr} {te : TE} {p1 p2 : Pos} {t : TE} {W : Int → Int}
    (S : NdefX.NScope N [p] fr scope) (hr : Room (k + 1) Z.A) (hex : Z.ex = []) (ho : Z.s_0.heap.get? f = some (PySem.W.kla_obj "<lambda>" q params body scope cl pm c' ctv)) (hfn : Z.H_0 f = none) (hfr : f ∉ Z.fs)
    (hbind : ∀ u, bindArgs (PySem.W.kla_fn "<lambda>" q params body scope cl pm (.ref c') ctv) ⟨[u], []⟩ = pure [(p, u)]) (C : NdefX.CellsAt cl fr ws Z.s_0.heap Z.H_0)
    (hbody : ∀ (A : Around) (outer : List Env) (s : Shared) (H : Hp), PE (NdefX.ncx CX0 Z.prog Z.w Z.K Z.mg Z.base N (lamF q params scope cl c') f A outer s H E0) body t) (ht : ∀ (sh : Int) (H : Hp) (Q : VK), Q (.int (W sh)) H → t (NdefX.startF N [.int sh] ws) H Q)
    (hN : Z.N[i]? = some a) (hv : Vis Z.env.scope a) (he : PE Z e te) (hst : starEach [e] Z.env = (false, eval e Z.env) :: starEach [] Z.env) (hd : (a == ("__debug__" : Str)) = false) (hcd : (a == ("__classdict__" : Str)) = false) :
    PE Z (.Call (.Name a p1) [e] [] p2) (tWt f c' q W i te) := by
  refine ⟨fun pins s σ H Q I h => ?_⟩
  obtain ⟨hs, h1⟩ := h
  have at_ : ∀ {pins : List (Addr × Obj)} {σ : L2.St} {H : Hp} {s : Shared}, Inv Z pins σ H s → s.heap.get? f = some (PySem.W.kla_obj "<lambda>" q params body scope cl pm c' ctv) := fun I => I.base.keep f _ ho hfn hfr (by rw [hex]; exact List.not_mem_nil)
  refine wpAny_Call_Name_kw (thn ((pe_var (pos := p1) (i := i) hN hv hd hcd).run pins s σ H (fun v H1 => v = .ref f ∧ H1 = H) I ⟨.ref f, hs, rfl, rfl⟩) fun u s1 ⟨v, H1, I1, r1, q1⟩ => ?_)
  obtain ⟨ev, eH⟩ := q1
  subst ev
  rw [eH] at I1
  obtain rfl : u = Value.ref f := r1
  refine PySem.W.callWith_F (first := []) ⟨_, _, _, _, at_ I1⟩ (thn ((pa_cons he pa_nil hst).run p2 pins s1 σ H (fun vs H1 => ∃ sh, vs = [.int sh] ∧ H1 c' = some (LamX.CodeO c' q) ∧ Q (.int (W sh)) H1) I1 ?_) fun us s2 ⟨vs, H2, I2, r, sh, evs, h2, q2⟩ => ⟨⟨_, _, _, _, at_ I2⟩, ?_⟩) hst rfl
  · show te σ H _
    have conv : ∀ v H1, (∃ sh, v = V.int sh ∧ H1 c' = some (LamX.CodeO c' q) ∧ Q (.int (W sh)) H1) = (∃ sh, [v] = [V.int sh] ∧ H1 c' = some (LamX.CodeO c' q) ∧ Q (.int (W sh)) H1) := fun v H1 => by
      refine propext ⟨fun ⟨sh, e1, e2⟩ => ⟨sh, by rw [e1], e2⟩, fun ⟨sh, e1, e2⟩ => ⟨sh, List.head_eq_of_cons_eq e1, e2⟩⟩
    have e1 : (fun v H1 => ∃ sh, v = V.int sh ∧ H1 c' = some (LamX.CodeO c' q) ∧ Q (.int (W sh)) H1) = fun v H1 => ∃ sh, [v] = [V.int sh] ∧ H1 c' = some (LamX.CodeO c' q) ∧ Q (.int (W sh)) H1 := by
      funext v H1
      exact conv v H1
    rw [e1] at h1
    exact h1
  · subst evs
    show wpAny _ _ (call (.ref f) us) _ _ _
    cases r with
    | cons ru rr =>
      cases rr
      have rc := lam_run (k := k) (E := E0) S hr I2.env0 (at_ I2) h2 (hbind _) (cells_still C hex I2) ru (hbody _ _ _ _) (ht sh H2 Q q2)
      refine wpAny_call (codeAny_mono rc fun rs s' hq => ?_)
      cases rs with
      | error e => exact (show False from hq).elim
      | ok fl =>
        cases fl with
        | ret u => exact I2.after hq
        | next => exact False.elim hq
        | brk => exact False.elim hq
        | cont => exact False.elim hq
end CW
namespace CW
open PySem PySem.Spec PyProof.Rows L2 CS
def StepAt (H : Hp) (v : V) : Option Arc → Prop
  | none => v = .non
  | some p => ArcAt H v p
theorem StepAt.xt {H H' : Hp} (e : Xt H H') {v : V} : ∀ {o : Option Arc}, StepAt H v o → StepAt H' v o
  | none, h => h
  | some p, h => ArcAt.xt e h
/-- a list is stored anew: tuples stay -/
theorem ArcAt.lset {H : Hp} {d : Addr} {xs : List V} {o : HO} (hd : H d = some (.lst xs)) {v : V} {p : Arc} (h : ArcAt H v p) : ArcAt (upd H d o) v p := by
  obtain ⟨t, h1, h2⟩ := h
  refine ⟨t, h1, ?_⟩
  rw [upd_ne (ne_of h2 hd fun z => nomatch z)]
  exact h2
theorem StepAt.lset {H : Hp} {d : Addr} {xs : List V} {u : HO} (hd : H d = some (.lst xs)) {v : V} : ∀ {o : Option Arc}, StepAt H v o → StepAt (upd H d u) v o
  | none, h => h
  | some p, h => ArcAt.lset hd h
structure BFat (H : Hp) (d e : Addr) (n : Nat) (st : BF) : Prop where
  d1 : H d = some (.lst (st.dues.map V.int))
  l1 : st.dues.length = n
  l2 : st.steps.length = n
  e1 : ∃ vs, H e = some (.lst vs) ∧ Paired (StepAt H) vs st.steps
  ne : d ≠ e
theorem BFat.same {H H' : Hp} {d e : Addr} {n : Nat} {st : BF} (s : Same H H') (h : BFat H d e n st) : BFat H' d e n st := by
  obtain ⟨vs, h1, h2⟩ := h.e1
  exact ⟨s _ _ h.d1, h.l1, h.l2, ⟨vs, s _ _ h1, Paired.mapP h2 fun _ _ z => z.xt (Xt.of_same s)⟩, h.ne⟩
theorem bfArc_len {w : Int → Int} {c : Nat} {st : BF} {p : Arc} : (bfArc w c st p).dues.length = st.dues.length ∧ (bfArc w c st p).steps.length = st.steps.length := by
  unfold bfArc
  split
  · exact ⟨List.length_set, List.length_set⟩
  · exact ⟨rfl, rfl⟩
theorem getD_some {α : Type} {l : List (Option α)} {i : Nat} {a : α} (h : l.getD i none = some a) : l[i]? = some (some a) := by
  rw [List.getD_eq_getElem?_getD] at h
  cases e : l[i]? with
  | none =>
    rw [e] at h
    cases h
  | some x =>
    rw [e] at h
    have h : x = some a := h
    rw [h]
section
variable {P : Program} {w : World} {K : PySem.W.Frag} {mg : Str → Option Value} {base : Heap} {k : Nat}
abbrev sCircleBelow : Stmt := topS 17
abbrev nCB : List Str := ["arcs", "weight", "many", "dues", "steps", "last", "step", "cell", "target", "shift", "circle"]
theorem scCircleBelow : FnScope nCB ["arcs", "weight"] (defScope sCircleBelow) := ⟨rfl, rfl, rfl, by decide +kernel, rfl, by decide +kernel, by decide +kernel⟩
/-- what circle_below hands back -/
def CbEnd (H : Hp) (Q : VK) : Option (List Arc) → Prop
  | none => ∀ H', Same H H' → Q .non H'
  | some ring => ∀ H' p, Same H H' → H p = none → ArcsAt H' p ring → Q (.ref p) H'
theorem cb_body {f : Addr} {cdv : Value} {A : Around} {outer : List Env} {s : Shared} {H : Hp} {Q : VK} {lf lc oa : Addr} {q : Str} {W : Int → Int} {arcs : List (List Arc)} {r : Option (List Arc)}
    (mr : mg "range" = none) (ml : mg "len" = none)
    (act : ∀ p1 p2 p3, PE (cxOf CX0 P w K mg base nCB "circle_below" (defScope sCircleBelow) f cdv A outer s H E0).nox (.Call (.Name "weight" p1) [.Name "shift" p2] [] p3) (tWt lf lc q W 1 (tVar 9)))
    (hA : AassAt H oa arcs) (hIn : ArcsIn arcs) (hlen : arcs.length ≤ 1000) (hc : H lc = some (LamX.CodeO lc q)) (hr : circleBelow W arcs = some r) (hQ : CbEnd H Q r) :
    ∃ t, PSs (cxOf CX0 P w K mg base nCB "circle_below" (defScope sCircleBelow) f cdv A outer s H E0).nox (defBody sCircleBelow) t ∧ t { nx := fun _ H' => Q .non H', rt := Q } (start nCB [.ref oa, .ref lf]) H := by
  refine ⟨_, pss_cons (ps_set (i := 2) scCircleBelow.nd rfl (.inl rfl) (pe_callB call_len_seq (by rfl) ml PySem.boot_len (pa_cons (pv 0) pa_nil)))
    (pss_cons (ps_setLc (i := 3) (own := [("cell", 7)]) (g := gName 7) (te := tC (.int 0)) (by rfl) scCircleBelow.nd rfl rfl (sw_true rfl rfl rfl (by decide +kernel)) (pi_list (pv 0)) (blkOk_by (own := [("cell", 7)]) (N := nCB) (sc := defScope sCircleBelow) (by decide +kernel))
        (fun _ _ _ _ _ => pg_name (i := 7) scCircleBelow.nd rfl (.inl rfl)) (fun _ _ _ _ _ => pts_nil) (fun _ _ _ _ _ => pe_int))
    (pss_cons (ps_setLc (i := 4) (own := [("cell", 7)]) (g := gName 7) (te := tC .non) (by rfl) scCircleBelow.nd rfl rfl (sw_true rfl rfl rfl (by decide +kernel)) (pi_list (pv 0)) (blkOk_by (own := [("cell", 7)]) (N := nCB) (sc := defScope sCircleBelow) (by decide +kernel))
        (fun _ _ _ _ _ => pg_name (i := 7) scCircleBelow.nd rfl (.inl rfl)) (fun _ _ _ _ _ => pts_nil) (fun _ _ _ _ _ => pe_non))
    (pss_cons (ps_set (i := 5) scCircleBelow.nd rfl (.inl rfl) pe_non)
    (pss_cons (ps_for PassesOwn.never rfl (pi_range1 (by rfl) mr (pa_cons (pe_op op_add (pv 2) pe_int) pa_nil)) (pg_name (i := 6) scCircleBelow.nd rfl (.inl rfl))
      (pss_cons (ps_set (i := 5) scCircleBelow.nd rfl (.inl rfl) pe_non)
      (pss_cons (ps_for PassesOwn.never rfl (pi_range1 (by rfl) mr (pa_cons (pv 2) pa_nil)) (pg_name (i := 7) scCircleBelow.nd rfl (.inl rfl))
        (pss_one (ps_for PassesOwn.never rfl (pi_list (pe_ix ix_list (pv 0) (pv 7) (fun _ _ => rfl))) (pg_tup rfl (pgs_cons (pg_name (i := 8) scCircleBelow.nd rfl (.inl rfl)) (pgs_cons (pg_name (i := 9) scCircleBelow.nd rfl (.inl rfl)) pgs_nil)))
          (pss_one (ps_if (pt_cmpR op_lt (pe_op op_add (pe_ix ix_list (pv 3) (pv 8) (fun _ _ => rfl)) (act _ _ _)) (pe_ix ix_list (pv 3) (pv 7) (fun _ _ => rfl)) (nomark _))
            (pss_cons (ps_asg (pe_op op_add (pe_ix ix_list (pv 3) (pv 8) (fun _ _ => rfl)) (act _ _ _)) (pg_sub (pv 3) (pv 7) set_list))
            (pss_cons (ps_asg (pe_tup (pa_cons (pv 8) (pa_cons (pv 9) pa_nil))) (pg_sub (pv 4) (pv 7) set_list))
            (pss_one (ps_set (i := 5) scCircleBelow.nd rfl (.inl rfl) (pv 7))))) pss_nil)))))
      (pss_one (ps_if (pt_cmpR op_isN (pv 5) pe_non (nomark _)) (pss_one (ps_ret pe_non)) pss_nil)))))
    (pss_cons (ps_for PassesOwn.never rfl (pi_range1 (by rfl) mr (pa_cons (pv 2) pa_nil)) (pg_name (i := 6) scCircleBelow.nd rfl (.inl rfl))
      (pss_one (ps_set (i := 5) scCircleBelow.nd rfl (.inl rfl) (pe_ix ix_tup (pe_ix ix_list (pv 4) (pv 5) (fun _ _ => rfl)) pe_int (fun _ _ => rfl)))))
    (pss_cons (ps_set (i := 10) scCircleBelow.nd rfl (.inl rfl) (pe_lst pa_nil))
    (pss_cons (ps_set (i := 7) scCircleBelow.nd rfl (.inl rfl) (pv 5))
    (pss_one (ps_while PassesOwn.never (pt_val pe_bl)
      (pss_cons (ps_expr (pe_bm PySem.F.plainAttrs_list PySem.F.slot_list_append PySem.F.type_list_append mt_append (pv 10) (pa_cons (pe_tup (pa_cons (pv 7) (pa_cons (pe_ix ix_tup (pe_ix ix_list (pv 4) (pv 7) (fun _ _ => rfl)) pe_int (fun _ _ => rfl)) pa_nil))) pa_nil)))
      (pss_cons (ps_set (i := 7) scCircleBelow.nd rfl (.inl rfl) (pe_ix ix_tup (pe_ix ix_list (pv 4) (pv 7) (fun _ _ => rfl)) pe_int (fun _ _ => rfl)))
      (pss_one (ps_if (pt_cmpR op_eq (pv 7) (pv 5) (nomark _)) (pss_one (ps_ret (pv 10))) pss_nil))))))))))))), ?_⟩
  obtain ⟨vs, hv, hp⟩ := hA
  have hvl : vs.length = arcs.length := Paired.length hp
  have hS : SqL K H oa vs := SqL.of hv
  -- many, dues, steps, last
  refine ⟨.ref oa, rfl, oa, vs, rfl, .inl hS, ?_⟩
  rw [hvl]
  refine ⟨.ref oa, rfl, oa, rfl, ⟨vs, hS⟩, fun d nd => ?_⟩
  refine lc_vals walk_list nd (fun _ => .int 0) (fun H' e => e.seq hS) (by omega) (fun i y H1 H2 hi e1 hDl hY Q' q' => ?_) fun Ha sa ha => ?_
  · obtain ⟨rfl, hy⟩ := hY
    exact ⟨rfl, q' H2 (Same.refl _)⟩
  refine ⟨.ref oa, rfl, oa, rfl, ⟨vs, sa.seq hS⟩, fun e ne0 => ?_⟩
  refine lc_vals walk_list ne0 (fun _ => .non) (fun H' e => e.seq (sa.seq hS)) (by omega) (fun i y H1 H2 hi e1 hDl hY Q' q' => ?_) fun Hb sb hb => ?_
  · obtain ⟨rfl, hy⟩ := hY
    exact ⟨rfl, q' H2 (Same.refl _)⟩
  have ne : H e = none := sa.free ne0
  have hde : d ≠ e := ne_of_none ha ne0
  have s0 : Same H Hb := sa.trans sb
  have rep : ∀ {α : Type} (x : α) (n : Nat), (List.range n).map (fun _ => x) = List.replicate n x := fun x n => List.ext_getElem? fun i => by
    by_cases hi : i < n
    · rw [List.getElem?_map, List.getElem?_range hi, List.getElem?_replicate_of_lt hi]
      rfl
    · rw [List.getElem?_eq_none (by rw [List.length_map, List.length_range]; omega), List.getElem?_eq_none (by rw [List.length_replicate]; omega)]
  have prep : ∀ (n : Nat), Paired (StepAt Hb) (List.replicate n V.non) (List.replicate n (none : Option Arc)) := fun n => by
    induction n with
    | zero => exact .nil
    | succ n ih => exact .cons rfl ih
  have b0 : BFat Hb d e arcs.length (bfInit arcs.length) := by
    refine ⟨?_, List.length_replicate, List.length_replicate, ⟨_, hb, ?_⟩, hde⟩
    · rw [sb _ _ ha, rep, hvl]
      show _ = some (HO.lst ((List.replicate arcs.length (0 : Int)).map V.int))
      rw [List.map_replicate]
    · rw [rep, hvl]
      exact prep _
  -- the passes
  refine ⟨_, rfl, (arcs.length : Int), 1, rfl, rfl, (arcs.length : Int) + 1, rfl, by omega, by omega, ?_⟩
  have eN : ((arcs.length : Int) + 1).toNat = arcs.length + 1 := by omega
  rw [eN]
  refine for_it walk_range0 (fun i σ H' => ∃ st y6 y7 y8 y9, σ = [some (.ref oa), some (.ref lf), some (.int (arcs.length : Int)), some (.ref d), some (.ref e), some (opV st.last), y6, y7, y8, y9, none] ∧ Same H H' ∧ BFat H' d e arcs.length st ∧ (∀ l, st.last = some l → l < arcs.length) ∧
      bfPasses W arcs (arcs.length + 1 - i) st = bfPasses W arcs (arcs.length + 1) (bfInit arcs.length))
    ⟨bfInit arcs.length, none, none, none, none, rfl, s0, b0, fun l z => (nomatch z), rfl⟩ (fun i σ H' _ _ => trivial) (fun i v σ H1 H2 hi hW hY => ?_) (fun σ H' hW => ?_)
  · obtain ⟨st, y6, y7, y8, y9, rfl, s1, b1, ll1, eB⟩ := hW
    obtain ⟨rfl, rfl⟩ := hY
    -- one pass
    refine ⟨_, rfl, (arcs.length : Int), rfl, by omega, by omega, ?_⟩
    rw [Int.toNat_natCast]
    have b1' : BFat H2 d e arcs.length { st with last := none } := ⟨b1.d1, b1.l1, b1.l2, b1.e1, b1.ne⟩
    refine for_it walk_range0 (fun c σ H' => ∃ st' y7 y8 y9, σ = [some (.ref oa), some (.ref lf), some (.int (arcs.length : Int)), some (.ref d), some (.ref e), some (opV st'.last), some (.int (i : Int)), y7, y8, y9, none] ∧ Same H H' ∧ BFat H' d e arcs.length st' ∧ (∀ l, st'.last = some l → l < arcs.length) ∧ st' = (List.range c).foldl (bfCell W arcs) { st with last := none })
      ⟨{ st with last := none }, _, _, _, rfl, s1, b1', fun l z => (nomatch z), rfl⟩ (fun i σ H' _ _ => trivial) (fun c v σ H3 H4 hc1 hW hY => ?_) (fun σ H' hW => ?_)
    · obtain ⟨st', z7, z8, z9, rfl, s3, b3, ll3, e3⟩ := hW
      obtain ⟨rfl, rfl⟩ := hY
      obtain ⟨wv, hwv, l, rfl, us, hu, hus⟩ := paired_get' hp (show arcs[c]? = some arcs[c] from List.getElem?_eq_getElem hc1)
      have eg : arcs.getD c [] = arcs[c] := getD_of (List.getElem?_eq_getElem hc1)
      have hul : us.length = arcs[c].length := Paired.length hus
      refine ⟨.ref oa, rfl, .int (c : Int), rfl, oa, vs, (c : Int), .ref l, rfl, rfl, s3.seq hS, at_nat hwv, l, rfl, ⟨us, SqL.of (s3 _ _ hu)⟩, ?_⟩
      refine for_it walk_list (fun m σ H' => ∃ st2 y8 y9, σ = [some (.ref oa), some (.ref lf), some (.int (arcs.length : Int)), some (.ref d), some (.ref e), some (opV st2.last), some (.int (i : Int)), some (.int (c : Int)), y8, y9, none] ∧ Same H H' ∧ BFat H' d e arcs.length st2 ∧ (∀ l, st2.last = some l → l < arcs.length) ∧ st2 = runTo (bfArc W c) st' arcs[c] m)
        ⟨st', _, _, rfl, s3, b3, ll3, rfl⟩ (fun i σ H' _ ⟨_, _, _, _, z, _⟩ => z.seq (SqL.of hu)) (fun m v σ H5 H6 hm hW hY => ?_) (fun σ H' hW => ?_)
      · obtain ⟨st2, w8, w9, rfl, s5, b5, ll5, e5⟩ := hW
        obtain ⟨rfl, hy⟩ := hY
        obtain ⟨p, hp1, tt, rfl, htt⟩ := paired_get hus hy
        have hpin : p.1 < arcs.length := hIn c p (by rw [eg]; exact List.mem_of_getElem? hp1)
        obtain ⟨ss, hss, hps⟩ := b5.e1
        have look : ∀ j : Nat, j < arcs.length → atI (st2.dues.map V.int) (j : Int) = some (.int (due st2 j)) := fun j hj => at_nat (by
          rw [List.getElem?_map, List.getElem?_eq_getElem (show j < st2.dues.length by rw [b5.l1]; exact hj)]
          unfold due
          rw [getD_of (List.getElem?_eq_getElem (show j < st2.dues.length by rw [b5.l1]; exact hj))]
          rfl)
        refine ⟨tt, _, rfl, SqT.of (s5 _ _ htt), rfl, _, _, rfl, _, _, rfl, rfl, ?_⟩
        refine ⟨.ref d, rfl, .int (p.1 : Int), rfl, d, _, (p.1 : Int), _, rfl, rfl, SqL.of b5.d1, look p.1 hpin, rfl, _, rfl, p.2, rfl, s5 _ _ hc, due st2 p.1, W p.2, rfl, rfl, .ref d, rfl, .int (c : Int), rfl, d, _, (c : Int), _, rfl, rfl, SqL.of b5.d1, look c hc1, due st2 p.1 + W p.2, due st2 c, rfl, rfl, _, rfl, ite2 (fun cc => ?_) fun cc => ?_⟩
        · have en : runTo (bfArc W c) st' arcs[c] (m + 1) = ⟨st2.dues.set c (due st2 p.1 + W p.2), st2.steps.set c (some p), some c⟩ := by
            rw [runTo_succ hp1, ← e5]
            exact if_pos (of_decide_eq_true cc)
          refine ⟨.ref d, rfl, .int (p.1 : Int), rfl, d, _, (p.1 : Int), _, rfl, rfl, SqL.of b5.d1, look p.1 hpin, rfl, _, rfl, p.2, rfl, s5 _ _ hc, due st2 p.1, W p.2, rfl, rfl, ?_⟩
          refine ⟨.ref d, rfl, .int (c : Int), rfl, d, _, (c : Int), c, rfl, rfl, b5.d1, ixN_at (by rw [List.length_map, b5.l1]; exact hc1), ?_⟩
          generalize hH7 : upd H6 d (.lst ((st2.dues.map V.int).set c (.int (due st2 p.1 + W p.2)))) = H7
          have s7 : Same H H7 := by
            rw [← hH7]
            exact same_mut s5 nd
          have d7 : H7 d = some (.lst ((st2.dues.set c (due st2 p.1 + W p.2)).map V.int)) := by
            rw [← hH7, upd_same, List.map_set]
          have e7 : H7 e = some (.lst ss) := by
            rw [← hH7, upd_ne hde.symm]
            exact hss
          have p7 : Paired (StepAt H7) ss st2.steps := by
            rw [← hH7]
            exact Paired.mapP hps fun _ _ z => z.lset b5.d1
          refine ⟨.int (p.1 : Int), rfl, .int p.2, rfl, by show 2 ≤ sizeLine; decide, fun T nT => ?_⟩
          refine ⟨.ref e, rfl, .int (c : Int), rfl, e, ss, (c : Int), c, rfl, rfl, same_upd nT _ _ e7, ixN_at (by rw [Paired.length hps, b5.l2]; exact hc1), ?_⟩
          have s8 := same_upd (o := .tup (arcX p)) nT
          have de : d ≠ T := ne_of_none d7 nT
          refine ⟨.int (c : Int), rfl, ⟨st2.dues.set c (due st2 p.1 + W p.2), st2.steps.set c (some p), some c⟩, some (.int (p.1 : Int)), some (.int p.2), rfl, same_mut (s7.trans s8) ne, ⟨?_, by rw [List.length_set]; exact b5.l1, by rw [List.length_set]; exact b5.l2, ⟨ss.set c (.ref T), upd_same, ?_⟩, hde⟩, fun l z => ?_, en.symm⟩
          · rw [upd_ne hde]
            exact s8 _ _ d7
          · have e8 := s8 _ _ e7
            refine Paired.mapP (paired_set (Paired.mapP p7 fun _ _ z => z.xt (Xt.of_same s8)) c (show StepAt _ (.ref T) (some p) from ⟨T, rfl, upd_same⟩)) fun _ _ z => z.lset e8
          · have z : some c = some l := z
            cases z
            exact hc1
        · have en : runTo (bfArc W c) st' arcs[c] (m + 1) = st2 := by
            rw [runTo_succ hp1, ← e5]
            exact if_neg fun z => cc (decide_eq_true z)
          exact ⟨st2, some (.int (p.1 : Int)), some (.int p.2), rfl, s5, b5, ll5, en.symm⟩
      · obtain ⟨st2, w8, w9, rfl, s5, b5, ll5, e5⟩ := hW
        rw [hul, runTo_all] at e5
        refine ⟨st2, _, _, _, rfl, s5, b5, ll5, ?_⟩
        rw [foldl_range_succ, ← e3]
        show st2 = (arcs.getD c []).foldl (bfArc W c) st'
        rw [eg]
        exact e5
    · obtain ⟨st', z7, z8, z9, rfl, s3, b3, ll3, e3⟩ := hW
      have eP : st' = bfPass W arcs st := e3
      have hk : arcs.length + 1 - i = (arcs.length + 1 - (i + 1)) + 1 := by omega
      rw [hk] at eB
      have eB : (if (bfPass W arcs st).last = none then none else bfPasses W arcs (arcs.length + 1 - (i + 1)) (bfPass W arcs st)) = bfPasses W arcs (arcs.length + 1) (bfInit arcs.length) := eB
      rw [← eP] at eB
      cases hl : st'.last with
      | none =>
        rw [hl, if_pos rfl] at eB
        have er : r = none := by
          unfold circleBelow at hr
          rw [← eB] at hr
          exact (Option.some.inj hr).symm
        subst er
        refine ⟨.non, rfl, rfl, true, rfl, iteT ?_⟩
        exact hQ H' s3
      | some l =>
        rw [hl, if_neg (fun z => nomatch z)] at eB
        refine ⟨.int (l : Int), rfl, rfl, false, rfl, iteF ?_⟩
        refine ⟨st', some (.int (i : Int)), z7, z8, z9, ?_, s3, b3, ll3, eB⟩
        rw [hl]
  · obtain ⟨st, y6, y7, y8, y9, rfl, s1, b1, ll1, eB⟩ := hW
    rw [show arcs.length + 1 - (arcs.length + 1) = 0 by omega] at eB
    have eB : some st = bfPasses W arcs (arcs.length + 1) (bfInit arcs.length) := eB
    unfold circleBelow at hr
    rw [← eB] at hr
    have hr : (match st.last with | none => none | some l => match walkBack st.steps arcs.length l with | none => none | some c => (ringFrom st.steps c arcs.length c).map some) = some r := hr
    cases hl : st.last with
    | none =>
      rw [hl] at hr
      cases hr
    | some l =>
      rw [hl] at hr
      have hr : (match walkBack st.steps arcs.length l with | none => none | some c => (ringFrom st.steps c arcs.length c).map some) = some r := hr
      cases hwb : walkBack st.steps arcs.length l with
      | none =>
        rw [hwb] at hr
        cases hr
      | some c =>
        rw [hwb] at hr
        obtain ⟨ring, hring, er⟩ := Option.map_eq_some_iff.mp (show (ringFrom st.steps c arcs.length c).map some = some r from hr)
        subst er
        obtain ⟨ss, hss, hps⟩ := b1.e1
        have hls := b1.l2
        generalize st.steps = steps at hwb hring hps hls
        -- a step
        have stepAt : ∀ {j : Nat} {p : Arc}, steps.getD j none = some p → ∃ t, ss[j]? = some (.ref t) ∧ H' t = some (.tup (arcX p)) := fun {j p} h => by
          obtain ⟨v, h1, h2⟩ := paired_get' hps (getD_some h)
          obtain ⟨t, h3, h4⟩ := (show ArcAt H' v p from h2)
          exact ⟨t, by rw [h1, h3], h4⟩
        refine ⟨_, rfl, (arcs.length : Int), rfl, by omega, by omega, ?_⟩
        rw [Int.toNat_natCast]
        refine for_it walk_range0 (fun i σ H2 => ∃ (l' : Nat) (y6 : Option V), σ = [some (.ref oa), some (.ref lf), some (.int (arcs.length : Int)), some (.ref d), some (.ref e), some (.int (l' : Int)), y6, y7, y8, y9, none] ∧ H2 = H' ∧ walkBack steps (arcs.length - i) l' = some c)
          ⟨l, y6, rfl, rfl, hwb⟩ (fun i σ H' _ _ => trivial) (fun i v σ H1 H2 hi hW hY => ?_) (fun σ H2 hW => ?_)
        · obtain ⟨l', z6, rfl, rfl, hw1⟩ := hW
          obtain ⟨rfl, rfl⟩ := hY
          rw [show arcs.length - i = (arcs.length - (i + 1)) + 1 by omega] at hw1
          have hw1 : (match steps.getD l' none with | none => none | some p => walkBack steps (arcs.length - (i + 1)) p.1) = some c := hw1
          cases hg : steps.getD l' none with
          | none =>
            rw [hg] at hw1
            cases hw1
          | some p =>
            rw [hg] at hw1
            obtain ⟨t, h1, h2⟩ := stepAt hg
            refine ⟨.ref e, rfl, .int (l' : Int), rfl, e, ss, (l' : Int), .ref t, rfl, rfl, SqL.of hss, at_nat h1, t, _, 0, _, rfl, rfl, SqT.of h2, atI_nat (j := 0) rfl, ?_⟩
            exact ⟨p.1, _, rfl, rfl, hw1⟩
        · obtain ⟨l', z6, rfl, rfl, hw1⟩ := hW
          rw [Nat.sub_self] at hw1
          have el : c = l' := (Option.some.inj hw1).symm
          subst el
          -- the circle
          refine ⟨Nat.zero_le _, fun o no => ?_⟩
          have hoe : e ≠ o := ne_of_none hss no
          have noH : H o = none := s1.free no
          refine ⟨_, rfl, ?_⟩
          refine ⟨fun m σ H3 => ∃ (cell : Nat) (acc rest : List Arc) (ys : List V) (y6 : Option V), σ = [some (.ref oa), some (.ref lf), some (.int (arcs.length : Int)), some (.ref d), some (.ref e), some (.int (c : Int)), y6, some (.int (cell : Int)), y8, y9, some (.ref o)] ∧ Same H2 H3 ∧ H3 o = some (.lst ys) ∧ Paired (ArcAt H3) ys acc ∧ ringFrom steps c m cell = some rest ∧ acc ++ rest = ring ∧ acc.length + m ≤ 1000,
            ⟨arcs.length, c, [], ring, [], z6, rfl, same_upd no, upd_same, .nil, hring, rfl, by show 0 + _ ≤ _; omega⟩, fun m σ H3 hW => ?_⟩
          obtain ⟨cell, acc, rest, ys, u6, rfl, s3, ho, hys, hrf, eapp, hsz⟩ := hW
          refine ⟨true, rfl, iteT ?_⟩
          cases m with
          | zero => cases hrf
          | succ m =>
            have hrf : (match steps.getD cell none with | none => none | some p => if p.1 = c then some [(cell, p.2)] else (ringFrom steps c m p.1).map fun r => (cell, p.2) :: r) = some rest := hrf
            cases hg : steps.getD cell none with
            | none =>
              rw [hg] at hrf
              cases hrf
            | some p =>
              rw [hg] at hrf
              have hrf : (if p.1 = c then some [(cell, p.2)] else (ringFrom steps c m p.1).map fun r => (cell, p.2) :: r) = some rest := hrf
              obtain ⟨t, h1, h2⟩ := stepAt hg
              refine ⟨fun σ H4 => ∃ m', m' < m + 1 ∧ ∃ (cell : Nat) (acc rest : List Arc) (ys : List V) (y6 : Option V), σ = [some (.ref oa), some (.ref lf), some (.int (arcs.length : Int)), some (.ref d), some (.ref e), some (.int (c : Int)), y6, some (.int (cell : Int)), y8, y9, some (.ref o)] ∧ Same H2 H4 ∧ H4 o = some (.lst ys) ∧ Paired (ArcAt H4) ys acc ∧ ringFrom steps c m' cell = some rest ∧ acc ++ rest = ring ∧ acc.length + m' ≤ 1000,
                fun σ' H4 z => z, ?_⟩
              -- circle.append((cell, steps[cell][1]))
              refine ⟨.ref o, rfl, .inl ⟨rfl, _, SqL.of ho⟩, .int (cell : Int), rfl, .ref e, rfl, .int (cell : Int), rfl, e, ss, (cell : Int), .ref t, rfl, rfl, SqL.of (s3 _ _ hss), at_nat h1, t, _, 1, _, rfl, rfl, SqT.of (s3 _ _ h2), atI_nat (j := 1) rfl, by show 2 ≤ sizeLine; decide, fun T nT => ?_⟩
              have sT := same_upd (o := .tup (arcX (cell, p.2))) nT
              refine ⟨o, ys, .ref T, rfl, rfl, sT _ _ ho, szl (by have := Paired.length hys; omega), ?_⟩
              have s4 : Same H2 (upd (upd H3 T (.tup (arcX (cell, p.2)))) o (.lst (ys ++ [.ref T]))) := same_mut (s3.trans sT) no
              have ho4 : (upd (upd H3 T (.tup (arcX (cell, p.2)))) o (.lst (ys ++ [.ref T]))) o = some (.lst (ys ++ [.ref T])) := upd_same
              have hys4 : Paired (ArcAt (upd (upd H3 T (.tup (arcX (cell, p.2)))) o (.lst (ys ++ [.ref T])))) (ys ++ [.ref T]) (acc ++ [(cell, p.2)]) := by
                have ho' := sT _ _ ho
                refine paired_app (Paired.mapP hys fun _ _ z => (z.xt (Xt.of_same sT)).lset ho') ?_
                exact ArcAt.lset ho' ⟨T, rfl, upd_same⟩
              -- cell = steps[cell][0]
              refine ⟨.ref e, rfl, .int (cell : Int), rfl, e, ss, (cell : Int), .ref t, rfl, rfl, SqL.of (s4 _ _ hss), at_nat h1, t, _, 0, _, rfl, rfl, SqT.of (s4 _ _ h2), atI_nat (j := 0) rfl, ?_⟩
              refine ⟨_, rfl, _, rfl, rfl, _, rfl, ite2 (fun cc => ?_) fun cc => ?_⟩
              · have ec : p.1 = c := by
                  have := V.int.inj (of_decide_eq_true cc)
                  omega
                rw [if_pos ec] at hrf
                have er : [(cell, p.2)] = rest := Option.some.inj hrf
                subst er
                refine ⟨.ref o, rfl, hQ _ o (s1.trans s4) noH ⟨_, ho4, ?_⟩⟩
                rw [← eapp]
                exact hys4
              · have ec : ¬ p.1 = c := fun z => cc (decide_eq_true (by rw [z]))
                rw [if_neg ec] at hrf
                obtain ⟨rest', hr', er⟩ := Option.map_eq_some_iff.mp hrf
                subst er
                refine ⟨m, Nat.lt_succ_self m, p.1, acc ++ [(cell, p.2)], rest', _, u6, rfl, s4, ho4, hys4, hr', by rw [List.append_assoc]; exact eapp, by rw [List.length_append]; show acc.length + 1 + m ≤ 1000; omega⟩
end
end CW
namespace CW
open PySem PySem.Spec PyProof.Rows L2 CS
theorem xt_mut {H H' : Hp} {p : Addr} {o : HO} (e : Xt H H') (h : H p = none) : Xt H (upd H' p o) := fun b x hb nt => by
  rw [upd_ne (ne_of_none hb h)]
  exact e b x hb nt
theorem tabs_same {T : List (Addr × Str)} {H H' : Hp} (t : LamX.Tabs T H) (e : Same H H') : LamX.Tabs T H' := t.ext e
/-- a list that is stored anew is no table -/
theorem tabs_upd {T : List (Addr × Str)} {H : Hp} {p : Addr} {xs ys : List V} (t : LamX.Tabs T H) (h : H p = some (.lst xs)) : LamX.Tabs T (upd H p (.lst ys)) := fun a ha => by
  obtain ⟨ps, h1, h2, h3⟩ := t a ha
  refine ⟨ps, ?_, h2, fun pos cv hc => ?_⟩
  · rw [upd_ne (ne_of h1 h fun z => nomatch z)]
    exact h1
  · obtain ⟨c, e1, e2⟩ := h3 pos cv hc
    refine ⟨c, e1, ?_⟩
    rw [upd_ne (ne_of e2 h fun z => by unfold LamX.CodeO at z; cases z)]
    exact e2
/-- circle_below(open_arcs, lambda shift: ..): j the slot of the list, m that of what the lambda captures -/
def tCb (T : List (Addr × Str)) (j m : Nat) : TE := fun σ H Q => ∃ (oa : Addr) (n : Nat) (arcs : List (List Arc)) (r : Option (List Arc)), σ[j]? = some (some (.ref oa)) ∧ σ[m]? = some (some (.int (n : Int))) ∧ n ≤ 1000 ∧ AassAt H oa arcs ∧ ArcsIn arcs ∧ arcs.length ≤ 1000 ∧
  circleBelow (wOf n) arcs = some r ∧ LamX.Tabs T H ∧ ∀ H1, Xt H H1 → LamX.Tabs T H1 → CbEnd H1 Q r
section
variable {X : Cx}
theorem pe_cb {T : List (Addr × Str)} {c Pt : Addr} {k j m : Nat} {params : Arguments} {body : Expr} {scope : Scope} {y : Str} {p p2 lpos pos : Pos} (DG : Stands X.K X.mg "circle_below" sCircleBelow) (mr : X.mg "range" = none) (ml : X.mg "len" = none)
    (TB : LamX.TabB X.base X.mg c Pt) (hcode : X.env.code = .ref c) (hmT : (Pt, X.env.qual ++ "<lambda>") ∈ T) (hu : ∀ p ∈ T, p.1 = Pt → p.2 = X.env.qual ++ "<lambda>") (hr : Room (k + 2) X.A) (hg : Gl X "circle_below")
    (hj : X.N[j]? = some y) (hy : Vis X.env.scope y) (hd1 : (y == ("__debug__" : Str)) = false) (hd2 : (y == ("__classdict__" : Str)) = false) (hm : X.N[m]? = some ("many" : Str))
    (hdef : defaultsOf params X.env = ([], [])) (hbind : ∀ (q : Str) (cl : List (Str × Addr)) (pm cv ctv u : Value), bindArgs (PySem.W.kla_fn "<lambda>" q params body scope cl pm cv ctv) ⟨[u], []⟩ = pure [(("shift" : Str), u)])
    (S : NdefX.NScope ["shift", "many"] ["shift"] ["many"] scope) (hfree : ∀ y ∈ scope.names, y.2 = .free → X.env.scope.names.lookup y.1 = some .cell ∨ X.env.scope.names.lookup y.1 = some .free) (hfr : ∀ y ∈ ([("many" : Str)]), (y, NameKind.free) ∈ scope.names)
    (hbodyL : ∀ (F : NdefX.NF) (f : Addr) (A : Around) (outer : List Env) (s : Shared) (H : Hp), F.scope = scope → PE (NdefX.ncx CX0 X.prog X.w X.K X.mg X.base ["shift", "many"] F f A outer s H E0) body (tOp (rI0 fun i j => .int (i - j)) (tOp (rI CMul fun i j => .int (i * j)) (tVar 1) (tVar 0)) (tC (.int 1)))) :
    PE X (.Call (.Name "circle_below" p) [.Name y p2, .Lambda params body scope lpos] [] pos) (tCb T j m) := by
  refine ⟨fun pins s σ H Q I h => ?_⟩
  obtain ⟨oa, n, arcs, r, hs1, hs2, hn, hA, hIn, hlen, hcb, hT, hQ⟩ := h
  obtain ⟨g, fd, hgm, F⟩ := DG.ex
  obtain ⟨oc, od, kV, doc, pm0, an, cdv, ct, osl, rfl, lk, hcd⟩ := F.ex
  refine wpAny_Call_Name_kw (ld_glob I hg hgm ?_ (by decide))
  refine PySem.W.callWith_K (h₀ := X.base) I.ok.mod.kin F.kp ?_ (by rfl) (by rfl)
  show wpAny _ _ (spliced ((false, eval (.Name y p2) X.env) :: (false, eval (.Lambda params body scope lpos) X.env) :: backTo pos (starEach [] X.env))) _ _ s
  refine Calls.spliced_cons (thn ((pe_var (pos := p2) (i := j) hj hy hd1 hd2).run pins s σ H (fun v H1 => v = .ref oa ∧ H1 = H) I ⟨.ref oa, hs1, rfl, rfl⟩) fun u s0 ⟨v, H0, I0, r0, q0⟩ => ?_)
  obtain ⟨ev, eH⟩ := q0
  subst ev
  rw [eH] at I0
  obtain rfl : u = Value.ref oa := r0
  have hfc : ∀ y ∈ scope.names, y.2 = .free → ∃ c, X.env.cells.lookup y.1 = some c := fun y hy e => (hfree y hy e).elim (fun z => I.ok.has _ (.inl z)) fun z => I.ok.has _ (.inr z)
  refine Calls.spliced_cons (LamX.lam_make2 I0 TB hcode hmT hu hT hdef hfc fun f c' pm ctv H1 s' I1 eN T1 hf hfn hfr2 hco => ?_)
  refine Calls.spliced_nil ⟨I1.kIn, ?_⟩
  show wpAny _ _ (call (.ref g) [.ref oa, .ref f]) _ _ _
  have rc : codeAny (model X.prog X.w) X.A (.call (.ref g) ⟨[.ref oa, .ref f], []⟩) (CR CX0 X.stack X.prog X.w H1 s' Q E0) s' := by
    refine LamX.run_ofS (CX := CX0) (N := nCB) (ps := ["arcs", "weight"]) (us := [.ref oa, .ref f]) (vs := [.ref oa, .ref f]) lk hcd scCircleBelow hr I1.env0 (BindsTo.of_eq rfl) (.cons rfl (.cons rfl .nil)) rfl fun hr' => ?_
    have cp : NdefX.Caps X (cloFrom X.env.cells scope.names []) ["many"] [m] := NdefX.Caps.made I1.ok hfree hfr (by
      show [X.N[m]?] = [some _]
      rw [hm])
    have CA := NdefX.cells_of I1 cp
    have ews : [m].map (NdefX.slotAt σ) = [some (.int (n : Int))] := by
      show [NdefX.slotAt σ m] = _
      rw [NdefX.slotAt_of hs2]
    rw [ews] at CA
    have hans : ∀ (sh : Int) (H : Hp) (Q : VK), Q (.int (wOf n sh)) H → (tOp (rI0 fun i j => .int (i - j)) (tOp (rI CMul fun i j => .int (i * j)) (tVar 1) (tVar 0)) (tC (.int 1))) (NdefX.startF ["shift", "many"] [.int sh] [some (.int (n : Int))]) H Q :=
      fun sh H Q q => ⟨.int (n : Int), rfl, .int sh, rfl, (n : Int), sh, rfl, rfl, .inl ⟨by omega, by omega⟩, (n : Int) * sh, 1, rfl, rfl, q⟩
    obtain ⟨t, ht, hq⟩ := cb_body (P := X.prog) (w := X.w) (K := X.K) (mg := X.mg) (base := X.base) (f := g) (cdv := cdv) (A := X.A) (outer := X.stack) (s := s') (H := H1) (Q := Q) (lf := f) (lc := c') (oa := oa) (q := X.env.qual ++ "<lambda>") (W := wOf n) (arcs := arcs) (r := r) mr ml
      (fun p1 p2 p3 => pe_wt (k := k) (N := ["shift", "many"]) (fr := ["many"]) (ws := [some (.int (n : Int))]) (params := params) (body := body) (scope := scope) (cl := cloFrom X.env.cells scope.names []) (pm := pm) (ctv := ctv) (i := 1)
        S hr' rfl hf hfn hfr2 (fun u => hbind _ _ _ _ _ u) CA (fun A outer s H => hbodyL _ _ _ _ _ _ rfl) hans rfl (.inl rfl) (pv 9) rfl (by decide) (by decide))
      (hA.xt eN) hIn hlen hco hcb (hQ H1 eN T1)
    exact ⟨t, ht.nox, hq⟩
  refine wpAny_call (codeAny_mono rc fun rs s2 hq => ?_)
  cases rs with
  | error e => exact (show False from hq).elim
  | ok fl =>
    cases fl with
    | ret u => exact I1.after hq
    | next => exact False.elim hq
    | brk => exact False.elim hq
    | cont => exact False.elim hq
end
end CW
namespace CW
open PySem PySem.Spec PyProof.Rows L2 CS
theorem tabs_new {T : List (Addr × Str)} {H : Hp} {p : Addr} {o : HO} (t : LamX.Tabs T H) (h : H p = none) : LamX.Tabs T (upd H p o) := t.ext (same_upd h)
theorem hide_xt {o : Addr} {H H' : Hp} (e : Xt H H') : Xt (hide o H) (hide o H') := fun b u h nt => by
  by_cases eb : b = o
  · subst eb
    have h : (if b = b then none else H b) = some u := h
    rw [if_pos rfl] at h
    cases h
  · rw [hide_ne eb] at h ⊢
    exact e b u h nt
theorem lnk_open {H : Hp} {Dl : Addr} {y : V} {as : List Arc} (h : LnkAt (hide Dl H) y as) : LnkAt H y as := h.xt (Xt.of_same hide_same)
section
variable {P : Program} {w : World} {K : PySem.W.Frag} {mg : Str → Option Value} {base : Heap} {k : Nat}
/-! ### least_with -/
abbrev sLeastWith : Stmt := topS 20
abbrev nmLW : List Str := ["plain", "choices", "many", "arcs", "noughts", "open_arcs", "circle", "cell"]
theorem scLeastWith : FnScope nmLW ["plain", "choices"] (defScope sLeastWith) := ⟨rfl, rfl, rfl, by decide +kernel, rfl, by decide +kernel, by decide +kernel⟩
def qLam : Str := "least_with" ++ ".<locals>." ++ "<lambda>"
def spLeastWith (Pt : Addr) : Sp := fun vs H Q _ => ∃ (a c : Addr) (S : List Fm) (ch : List (Option Nat)) (x : List Am), vs = [.ref a, .ref c] ∧ ShAt H a S ∧ S.length ≤ 1000 ∧ WFs S ∧ ChOk S ch ∧ H c = some (.lst (ch.map opV)) ∧ leastWith S ch = some x ∧ LamX.Tabs [(Pt, qLam)] H ∧
  ∀ H' o, Xt H H' → LamX.Tabs [(Pt, qLam)] H' → AmsAt H' o x → Q (.ref o) H'
theorem kn_least_with {c0 Pt : Addr} (D : StandsC K mg "least_with" sLeastWith c0) (TB : LamX.TabB base mg c0 Pt) (DC : Stands K mg "circle_below" sCircleBelow) (GT : Kn P w K mg base (k + 2) "told_arcs" ["plain", "choices", "word"] spToldArcs)
    (GN : Kn P w K mg base (k + 2) "nought_cell" ["circle"] spNoughtCell) (GR : Kn P w K mg base (k + 2) "rounds_down" ["plain", "arcs", "noughts"] spRoundsDown) (mr : mg "range" = none) (ml : mg "len" = none) :
    Kn P w K mg base (k + 3) "least_with" ["plain", "choices"] (spLeastWith Pt) := by
  refine kn_ofC D scLeastWith (fun _ _ _ _ _ _ us hl => match us, hl with | [_, _], _ => rfl) (fun vs H Q E h => ?_) (fun f A outer s H vs Q E hr h => ?_)
  · obtain ⟨a, c, S, ch, x, rfl, _⟩ := h
    rfl
  · obtain ⟨a, c, S, ch, x, rfl, hS, hlen, W, C, hc, hx, hT, q⟩ := h
    refine ⟨_, pss_cons (ps_set (i := 2) scLeastWith.nd rfl (.inr rfl) (pe_callB call_len_seq (by rfl) ml PySem.boot_len (pa_cons (pv 0) pa_nil)))
      (pss_cons (ps_set (i := 3) scLeastWith.nd rfl (.inr rfl) (pe_kn GT hr (by rfl) (pa_cons (pv 0) (pa_cons (pv 1) (pa_cons pe_str pa_nil)))))
      (pss_cons (ps_set (i := 4) scLeastWith.nd rfl (.inr rfl) (pe_lst pa_nil))
      (pss_one (ps_while PassesOwn.never (pt_val pe_bl)
        (pss_cons (ps_setLc (i := 5) (own := [("cell", 7)]) (g := gName 7) (te := tIf (tTest (tOp (rIn K false) (tVar 7) (tVar 4))) (tLst tNil) (tOp (rIxL K) (tVar 3) (tVar 7))) (by rfl) scLeastWith.nd rfl rfl (sw_true rfl rfl rfl (by decide +kernel)) (pi_range1 (by rfl) mr (pa_cons (pv 2) pa_nil))
          (blkOk_by (own := [("cell", 7)]) (N := nmLW) (sc := defScope sLeastWith) (by decide +kernel)) (fun _ _ _ _ _ => pg_name (i := 7) scLeastWith.nd rfl (.inl rfl)) (fun _ _ _ _ _ => pts_nil)
          (fun _ _ _ _ _ => pe_ifExp (pt_cmpR op_in_seq (pv 7) (pv 4) (by rfl)) (pe_lst pa_nil) (pe_ix ix_list (pv 3) (pv 7) (fun _ _ => rfl))))
        (pss_cons (ps_set (i := 6) scLeastWith.nd rfl (.inl rfl) (pe_cb (k := k) (T := [(Pt, qLam)]) (j := 5) (m := 2) DC mr ml TB rfl (List.mem_singleton.mpr rfl) (fun p hp _ => by rw [List.mem_singleton.mp hp]; rfl) hr (by rfl) rfl (.inl rfl) (by decide) (by decide) rfl rfl
          (fun _ _ _ _ _ _ => rfl) (NdefX.nscope_by (by decide +kernel)) (NdefX.ndef_free (sc := defScope sLeastWith) (fr := ["many"]) (by decide +kernel)) (by decide +kernel)
          (fun F f A outer s H e => pe_op op_sub (pe_op op_mul (pe_var (i := 1) rfl (by show Vis F.scope _; rw [e]; exact .inr (.inr rfl))) (pe_var (i := 0) rfl (by show Vis F.scope _; rw [e]; exact .inl rfl))) pe_int)))
        (pss_cons (ps_if (pt_cmpR op_isN (pv 6) pe_non (nomark _)) (pss_one (ps_ret (pe_kn GR hr (by rfl) (pa_cons (pv 0) (pa_cons (pv 3) (pa_cons (pv 4) pa_nil)))))) pss_nil)
        (pss_one (ps_expr (pe_bm PySem.F.plainAttrs_list PySem.F.slot_list_append PySem.F.type_list_append mt_append (pv 4) (pa_cons (pe_kn GN hr (by rfl) (pa_cons (pv 6) pa_nil)) pa_nil))))))))))), ?_⟩
    obtain ⟨vs, hv, hp⟩ := id hS
    have hvl : vs.length = S.length := Paired.length hp
    refine ⟨.ref a, rfl, a, vs, rfl, .inl (SqL.of hv), ?_⟩
    rw [hvl]
    refine ⟨.ref a, rfl, .ref c, rfl, a, c, S, ch, rfl, hS, hlen, C, hc, fun H1 ar s1 nar hAr => ?_⟩
    refine ⟨Nat.zero_le _, fun o no => ?_⟩
    have noH : H o = none := s1.free no
    have s2 := same_upd (o := .lst []) no
    refine ⟨fun m σ H' => ∃ (nts : List Nat) (y5 y6 y7 : Option V), σ = [some (.ref a), some (.ref c), some (.int (S.length : Int)), some (.ref ar), some (.ref o), y5, y6, y7] ∧ Xt H H' ∧ LamX.Tabs [(Pt, qLam)] H' ∧ AassAt (hide o H') ar (toldArcs S ch) ∧ H' o = some (.lst (nts.map nat2V)) ∧
        leastFrom S (toldArcs S ch) m nts = some x ∧ nts.length + m ≤ 2000, ⟨S.length + 1, [], none, none, none, rfl, Xt.of_same (s1.trans s2), (hT.ext s1).ext s2, hAr.xt (Xt.of_same (to_hide s2 no)), upd_same, hx, by show 0 + _ ≤ _; omega⟩, fun m σ H' hW => ?_⟩
    obtain ⟨nts, y5, y6, y7, rfl, e1, t1, hA0, ho, hlf, hsz⟩ := hW
    have hA1 := hA0.xt (Xt.of_same hide_same)
    refine ⟨true, rfl, iteT ?_⟩
    cases m with
    | zero => cases hlf
    | succ m =>
      refine ⟨_, fun σ' H' z => z, ?_⟩
      obtain ⟨us, hu, hus⟩ := id hA1
      have hul : us.length = S.length := (Paired.length hus).trans toldArcs_len
      -- open_arcs
      refine ⟨_, rfl, (S.length : Int), rfl, by omega, by omega, fun Dl hD => ?_⟩
      rw [Int.toNat_natCast]
      have noD : H' Dl = none := hD
      refine lc_rel walk_range0 hD (fun i y H => LnkAt (hide Dl H) y ((openArcs S.length (toldArcs S ch) nts).getD i [])) (fun i y H1 H2 e h => ?_) (fun _ _ => trivial) (by omega) (fun i y H2 H3 hi e2 hDl hY Q' q' => ?_) fun H3 ys e3 hDl hyl hys => ?_
      · obtain ⟨l, h1, us', h2, h3⟩ := h
        have eh : Same (hide Dl H1) (hide Dl H2) := fun b u hb => by
          by_cases eb : b = Dl
          · subst eb
            have hb : (if b = b then none else H1 b) = some u := hb
            rw [if_pos rfl] at hb
            cases hb
          · rw [hide_ne eb] at hb ⊢
            exact e b u eb hb
        exact ⟨l, h1, us', eh _ _ h2, Paired.mapP h3 fun _ _ z => z.xt (Xt.of_same eh)⟩
      · obtain ⟨rfl, rfl⟩ := hY
        refine ⟨rfl, .int (i : Int), rfl, .ref o, rfl, o, _, rfl, .inl (SqL.of (e2 _ _ ho)), rfl, flat_nats nts, inV (.int (i : Int)) (nts.map nat2V), rfl, ?_⟩
        rw [inV_nats]
        refine ite2 (fun hn => ⟨Nat.zero_le _, fun l2 n2 => ?_⟩) fun hn => ?_
        · refine q' _ _ (same_upd n2) ⟨l2, rfl, [], hide_get upd_same (fun z => hDl (z ▸ n2)), ?_⟩
          rw [open_at hi, if_pos (of_decide_eq_true hn)]
          exact .nil
        · obtain ⟨uv, huv, l, rfl, ws, hw, hws⟩ := paired_get' hus (show (toldArcs S ch)[i]? = some _ from List.getElem?_eq_getElem (by rw [toldArcs_len]; exact hi))
          refine ⟨.ref ar, rfl, .int (i : Int), rfl, ar, us, (i : Int), .ref l, rfl, rfl, SqL.of (e2 _ _ hu), at_nat huv, ?_⟩
          have eh : Same H' (hide Dl H3) := to_hide e2 noD
          refine q' _ _ (Same.refl _) ⟨l, rfl, ws, eh _ _ hw, ?_⟩
          rw [open_at hi, if_neg (fun z => hn (decide_eq_true z)), getD_of (List.getElem?_eq_getElem (by rw [toldArcs_len]; exact hi))]
          exact Paired.mapP hws fun _ _ z => z.xt (Xt.of_same eh)
      · have eOl : (openArcs S.length (toldArcs S ch) nts).length = S.length := by
          unfold openArcs
          rw [List.length_map, List.length_range]
        have hO : AassAt H3 Dl (openArcs S.length (toldArcs S ch) nts) := by
          refine ⟨ys, hDl, ?_⟩
          have mk : ∀ (xs : List V) (zs : List (List Arc)), xs.length = zs.length → (∀ i y, xs[i]? = some y → LnkAt H3 y (zs.getD i [])) → Paired (LnkAt H3) xs zs := by
            intro xs
            induction xs with
            | nil =>
              intro zs hl _
              cases zs with
              | nil => exact .nil
              | cons z zs => cases hl
            | cons y xs ih =>
              intro zs hl hh
              cases zs with
              | nil => cases hl
              | cons z zs => exact .cons (hh 0 y rfl) (ih zs (Nat.succ.inj hl) fun i u hu => hh (i + 1) u hu)
          exact mk ys _ (by rw [hyl, eOl]) fun i y hy => lnk_open (hys i y hy)
        have hIn : ArcsIn (openArcs S.length (toldArcs S ch) nts) := fun v p hp => by
          obtain ⟨_, _, h3⟩ := open_sub hp
          rw [eOl]
          exact told_in W C v p h3
        have e4 : Xt H H3 := e1.trans (Xt.of_same e3)
        have t4 : LamX.Tabs [(Pt, qLam)] H3 := t1.ext e3
        have ho3 : H3 o = some (.lst (nts.map nat2V)) := e3 _ _ ho
        have hA3 := hA1.xt (Xt.of_same e3)
        have hlf : (match circleBelow (wOf S.length) (openArcs S.length (toldArcs S ch) nts) with | none => none | some none => some (roundsDown S (toldArcs S ch) nts) | some (some ring) => leastFrom S (toldArcs S ch) m (nts ++ [noughtCell ring])) = some x := hlf
        rcases circleBelow_ok (w := wOf S.length) hIn with ⟨ecb, _⟩ | ⟨ring, cc, ecb, r1, r2, _, _⟩
        · rw [ecb] at hlf
          have ex : roundsDown S (toldArcs S ch) nts = x := Option.some.inj hlf
          refine ⟨Dl, S.length, _, none, rfl, rfl, hlen, hO, hIn, by rw [eOl]; exact hlen, ecb, t4, fun H4 e5 t5 H5 s5 => ?_⟩
          have e6 : Xt H3 H5 := e5.trans (Xt.of_same s5)
          refine ⟨.non, rfl, rfl, true, rfl, iteT ?_⟩
          refine ⟨.ref a, rfl, .ref ar, rfl, .ref o, rfl, a, ar, o, S, toldArcs S ch, nts, rfl, hS.xt (e4.trans e6), hlen, hA3.xt e6, toldArcs_len, told_in W C, e6.lst ho3, fun H7 p s7 np hp7 => ?_⟩
          rw [ex] at hp7
          exact q H7 p ((e4.trans e6).trans (Xt.of_same s7)) ((t5.ext s5).ext s7) hp7
        · rw [ecb] at hlf
          have hlf : leastFrom S (toldArcs S ch) m (nts ++ [noughtCell ring]) = some x := hlf
          refine ⟨Dl, S.length, _, some ring, rfl, rfl, hlen, hO, hIn, by rw [eOl]; exact hlen, ecb, t4, fun H4 e5 t5 H5 rg s5 nrg hrg => ?_⟩
          have e6 : Xt H3 H5 := e5.trans (Xt.of_same s5)
          have t6 : LamX.Tabs [(Pt, qLam)] H5 := t5.ext s5
          refine ⟨.ref rg, rfl, rfl, false, rfl, iteF ?_⟩
          have ho5 : H5 o = some (.lst (nts.map nat2V)) := e6.lst ho3
          refine ⟨.ref o, rfl, .inl ⟨rfl, _, SqL.of ho5⟩, .ref rg, rfl, rg, ring, rfl, hrg, r1, by rw [eOl] at r2; omega, fun H7 s7 => ?_⟩
          have ho7 := s7 _ _ ho5
          refine ⟨o, _, _, rfl, rfl, ho7, szl (by rw [List.length_map]; omega), ?_⟩
          refine ⟨m, Nat.lt_succ_self m, nts ++ [noughtCell ring], some (.ref Dl), some (.ref rg), y7, rfl, xt_mut ((e4.trans e6).trans (Xt.of_same s7)) noH, tabs_upd (t6.ext s7) ho7, ?_, ?_, hlf, by rw [List.length_append]; show nts.length + 1 + m ≤ 2000; omega⟩
          · rw [hide_upd]
            exact hA0.xt (hide_xt (((Xt.of_same e3).trans e6).trans (Xt.of_same s7)))
          · rw [upd_same, List.map_append]
            rfl
end
end CW
namespace CW
open PySem PySem.Spec PyProof.Rows L2 CS
/-! ### == of lists of amounts -/
def opD : Option Nat → PyData
  | none => .none
  | some n => .int (n : Int)
theorem opV_amV : opV = amV := funext fun a => by cases a <;> rfl
theorem opD_all {K : PySem.W.Frag} {H : Hp} : ∀ (l : List (Option Nat)), DpAll K H (l.map amV) (l.map opD)
  | [] => .nil
  | none :: l => .cons .non (opD_all l)
  | some n :: l => .cons (.int _) (opD_all l)
theorem opD_dp {K : PySem.W.Frag} {H : Hp} {a : Addr} {l : List (Option Nat)} (h : SqL K H a (l.map amV)) : Dp K H (.ref a) (.list (l.map opD)) := .lst h (opD_all l)
theorem opD_lay : ∀ (l : List (Option Nat)), PyData.canLayAll0 (l.map opD) = true
  | [] => rfl
  | none :: l => by simp [PyData.canLayAll0, PyData.canLay0, opD, opD_lay l]
  | some n :: l => by simp [PyData.canLayAll0, PyData.canLay0, opD, opD_lay l]
theorem opD_depth : ∀ (l : List (Option Nat)), PyData.depthAll (l.map opD) = 0
  | [] => rfl
  | none :: l => by simp [PyData.depthAll, PyData.depth, opD, opD_depth l]
  | some n :: l => by simp [PyData.depthAll, PyData.depth, opD, opD_depth l]
theorem opD_shaped (l : List (Option Nat)) : SeqAt.shaped (.list (l.map opD)) = true := by
  simp [SeqAt.shaped, PyData.canLay0, PyData.depth, opD_lay, opD_depth]
theorem opD_one (a b : Option Nat) : PyData.eqv (opD a) (opD b) = decide (a = b) := by
  cases a <;> cases b <;> simp [opD, PyData.eqv]
  rw [Bool.eq_iff_iff]
  simp
  omega
theorem opD_eqvAll : ∀ (l m : List (Option Nat)), PyData.eqvAll (l.map opD) (m.map opD) = decide (l = m)
  | [], [] => rfl
  | [], _ :: _ => by simp [PyData.eqvAll]
  | _ :: _, [] => by simp [PyData.eqvAll]
  | a :: l, b :: m => by
    simp only [List.map_cons, PyData.eqvAll, opD_one, opD_eqvAll l m]
    by_cases h1 : a = b <;> by_cases h2 : l = m <;> simp [h1, h2]
theorem opD_eqv (l m : List (Option Nat)) : PyData.eqv (.list (l.map opD)) (.list (m.map opD)) = decide (l = m) := by
  show PyData.eqvAll _ _ = _
  exact opD_eqvAll l m
theorem eq_ams {K : PySem.W.Frag} {H : Hp} {a b : Addr} {l m : List (Option Nat)} {Q : VK} (h1 : H a = some (.lst (l.map amV))) (h2 : H b = some (.lst (m.map amV))) (q : Q (.bl (decide (l = m))) H) : rEqD K (.ref a) (.ref b) H Q :=
  ⟨_, _, opD_dp (SqL.of h1), opD_dp (SqL.of h2), opD_shaped l, opD_shaped m, by rw [opD_eqv]; exact q⟩
theorem ne_ams {K : PySem.W.Frag} {H : Hp} {a b : Addr} {l m : List (Option Nat)} {Q : VK} (h1 : H a = some (.lst (l.map amV))) (h2 : H b = some (.lst (m.map amV))) (q : Q (.bl (!decide (l = m))) H) : rNeD K (.ref a) (.ref b) H Q :=
  ⟨_, _, opD_dp (SqL.of h1), opD_dp (SqL.of h2), opD_shaped l, opD_shaped m, by rw [opD_eqv]; exact q⟩
theorem scal_am (a b : Am) : scal (amV a) (amV b) = true := by cases a <;> cases b <;> rfl
theorem amV_eq (a b : Am) : decide (amV a = amV b) = decide (a = b) := by
  rw [decide_eq_decide]
  exact ⟨amV_inj, fun e => by rw [e]⟩
theorem set_opV (x : List (Option Nat)) (i : Nat) (a : Nat) : (x.map opV).set i (.int (a : Int)) = (x.set i (some a)).map opV := by
  rw [List.map_set]
  rfl
theorem beStep_len {x : Vec} {as : List Arc} {c : Nat} {b : List (Option Nat)} {p : Nat} : (beStep x as c b p).length = b.length := by
  unfold beStep
  split
  · exact List.length_set
  · rfl
theorem beFold_len {x : Vec} {as : List Arc} {c : Nat} : ∀ (l : List Nat) (b : List (Option Nat)), (l.foldl (beStep x as c) b).length = b.length
  | [], _ => rfl
  | p :: l, b => (beFold_len l _).trans beStep_len
theorem beCell_len {S : List Fm} {x : Vec} {b : List (Option Nat)} {c : Nat} : (beCell S x b c).length = b.length := by
  unfold beCell
  split
  · exact beFold_len _ _
  · rfl
theorem beCells_len {S : List Fm} {x : Vec} : ∀ (l : List Nat) (b : List (Option Nat)), (l.foldl (beCell S x) b).length = b.length
  | [], _ => rfl
  | p :: l, b => (beCells_len l _).trans beCell_len
section
variable {P : Program} {w : World} {K : PySem.W.Frag} {mg : Str → Option Value} {base : Heap} {k : Nat}
/-! ### settled_least -/
abbrev sSettled : Stmt := topS 21
abbrev nmSE : List Str := ["plain", "choices", "found", "better", "cell", "formula", "place", "target", "shift", "amount"]
theorem scSettled : FnScope nmSE ["plain"] (defScope sSettled) := ⟨rfl, rfl, rfl, by decide +kernel, rfl, by decide +kernel, by decide +kernel⟩
def spSettled (Pt : Addr) : Sp := fun vs H Q _ => ∃ (a : Addr) (S : List Fm), vs = [.ref a] ∧ ShAt H a S ∧ OkS S ∧ Plain S ∧ LamX.Tabs [(Pt, qLam)] H ∧
  ∀ H' t f c, Xt H H' → LamX.Tabs [(Pt, qLam)] H' → H' t = some (.tup [.ref f, .ref c]) → AmsAt H' f (lfpL S) → Q (.ref t) H'
theorem kn_settled {Pt : Addr} (D : Stands K mg "settled_least" sSettled) (GL : Kn P w K mg base k "least_with" ["plain", "choices"] (spLeastWith Pt)) (GA : Kn P w K mg base k "at_most" ["a", "b"] spAtMost) (GS : Kn P w K mg base k "shifted" ["a", "c"] spShifted)
    (GV : Kn P w K mg base k "flat_value" ["formula", "x"] spFlatValue) (me : mg "enumerate" = none) (ml : mg "list" = none) : Kn P w K mg base (k + 1) "settled_least" ["plain"] (spSettled Pt) := by
  refine kn_of D scSettled (fun _ _ _ _ _ _ us hl => match us, hl with | [_], _ => rfl) (fun vs H Q E h => ?_) (fun f cdv A outer s H vs Q E hr h => ?_)
  · obtain ⟨a, S, rfl, _⟩ := h
    rfl
  · obtain ⟨a, S, rfl, hS, oS, pS, hT, q⟩ := h
    refine ⟨_, pss_cons (ps_setLc (i := 1) (own := [("formula", 5)]) (g := gName 5) (te := tIf (tTest (tOp rEq (tOp (rIxT K) (tVar 5) (tC (.int 0))) (tC (.str "greatest")))) (tC (.int 0)) (tC .non)) (by rfl) scSettled.nd rfl rfl (sw_true rfl rfl rfl (by decide +kernel)) (pi_list (pv 0))
        (blkOk_by (own := [("formula", 5)]) (N := nmSE) (sc := defScope sSettled) (by decide +kernel))
        (fun _ _ _ _ _ => pg_name (i := 5) scSettled.nd rfl (.inl rfl)) (fun _ _ _ _ _ => pts_nil) (fun _ _ _ _ _ => pe_ifExp (pt_cmpR op_eq (pe_ix ix_tup (pv 5) pe_int (fun _ _ => rfl)) pe_str (nomark _)) pe_int pe_non))
      (pss_one (ps_while PassesOwn.never (pt_val pe_bl)
        (pss_cons (ps_set (i := 2) scSettled.nd rfl (.inl rfl) (pe_kn GL hr (by rfl) (pa_cons (pv 0) (pa_cons (pv 1) pa_nil))))
        (pss_cons (ps_set (i := 3) scSettled.nd rfl (.inl rfl) (pe_callTy call_list_of (by rfl) ml (by decide +kernel) (pa_cons (pv 1) pa_nil)))
        (pss_cons (ps_for PassesOwn.never rfl (pi_enum (by rfl) me (pa_cons (pv 0) pa_nil)) (pg_tup rfl (pgs_cons (pg_name (i := 4) scSettled.nd rfl (.inl rfl)) (pgs_cons (pg_name (i := 5) scSettled.nd rfl (.inl rfl)) pgs_nil)))
          (pss_one (ps_if (pt_cmpR op_eq (pe_ix ix_tup (pv 5) pe_int (fun _ _ => rfl)) pe_str (nomark _))
            (pss_one (ps_for PassesOwn.never rfl (pi_enum (by rfl) me (pa_cons (pe_ix ix_tup (pv 5) pe_int (fun _ _ => rfl)) pa_nil)) (pg_tup rfl (pgs_cons (pg_name (i := 6) scSettled.nd rfl (.inl rfl)) (pgs_cons (pg_tup rfl (pgs_cons (pg_name (i := 7) scSettled.nd rfl (.inl rfl)) (pgs_cons (pg_name (i := 8) scSettled.nd rfl (.inl rfl)) pgs_nil))) pgs_nil)))
              (pss_cons (ps_set (i := 9) scSettled.nd rfl (.inl rfl) (pe_kn GS hr (by rfl) (pa_cons (pe_ix ix_list (pv 2) (pv 7) (fun _ _ => rfl)) (pa_cons (pv 8) pa_nil))))
              (pss_one (ps_if (PW.pt (pw_and (pt_not (pt_val (pe_kn GA hr (by rfl) (pa_cons (pv 9) (pa_cons (pe_ix ix_list (pv 2) (pv 4) (fun _ _ => rfl)) pa_nil))))) (pw_and1 (pt_cmpR op_eq (pv 9) (pe_kn GV hr (by rfl) (pa_cons (pv 5) (pa_cons (pv 2) pa_nil))) (nomark _)))))
                (pss_one (ps_asg (pv 6) (pg_sub (pv 3) (pv 4) set_list))) pss_nil))))) pss_nil)))
        (pss_cons (ps_if (pt_cmpR (op_eqD hr.units) (pv 3) (pv 1) (nomark _)) (pss_one (ps_ret (pe_tup (pa_cons (pv 2) (pa_cons (pv 1) pa_nil))))) pss_nil)
        (pss_one (ps_set (i := 1) scSettled.nd rfl (.inl rfl) (pv 3))))))))), ?_⟩
    obtain ⟨vs, hv, hp⟩ := id hS
    have hvl : vs.length = S.length := Paired.length hp
    have hil : (initCh S).length = S.length := List.length_map ..
    refine ⟨.ref a, rfl, a, rfl, ⟨vs, SqL.of hv⟩, fun o no => ?_⟩
    refine lc_vals walk_list no (fun i => opV ((initCh S).getD i none)) (fun H' e => e.seq (SqL.of hv)) (by rw [hvl]; exact Nat.le_trans oS.len (by decide)) (fun i y H1 H2 hi e1 hDl hY Q' q' => ?_) fun H0 s0 h0 => ?_
    · obtain ⟨rfl, hy⟩ := hY
      obtain ⟨F, hF1, hF2⟩ := paired_get hp hy
      obtain ⟨t, r, rfl, ht⟩ := hF2.tup
      refine ⟨rfl, .ref t, rfl, t, _, 0, _, rfl, rfl, SqT.of (e1 _ _ ht), atI_nat (j := 0) rfl, rfl, _, rfl, ?_⟩
      have q2 := q' H2 (Same.refl _)
      rw [word_greatest]
      cases F with
      | gst as =>
        rw [show (initCh S).getD i none = some 0 from getD_of (by unfold initCh; rw [List.getElem?_map, hF1]; rfl)] at q2
        exact iteT q2
      | lst as =>
        rw [show (initCh S).getD i none = none from getD_of (by unfold initCh; rw [List.getElem?_map, hF1]; rfl)] at q2
        exact iteF q2
      | amt b =>
        rw [show (initCh S).getD i none = none from getD_of (by unfold initCh; rw [List.getElem?_map, hF1]; rfl)] at q2
        exact iteF q2
      | whn j b c =>
        rw [show (initCh S).getD i none = none from getD_of (by unfold initCh; rw [List.getElem?_map, hF1]; rfl)] at q2
        exact iteF q2
    have ho0 : H0 o = some (.lst ((initCh S).map opV)) := by
      rw [h0, hvl, ← hil]
      exact congrArg (fun z => some (HO.lst z)) (map_range_get (f := opV) (d := none) (initCh S))
    obtain ⟨N, r, hN, hr1, hr2⟩ := settled_ok oS.wf pS oS.pos
    refine ⟨fun m σ H' => ∃ (o : Addr) (ch : List (Option Nat)) (y2 y3 y4 y5 y6 y7 y8 y9 : Option V), σ = [some (.ref a), some (.ref o), y2, y3, y4, y5, y6, y7, y8, y9] ∧ Xt H H' ∧ LamX.Tabs [(Pt, qLam)] H' ∧ H' o = some (.lst (ch.map opV)) ∧ ChOk S ch ∧ settledFrom S m ch = some r,
      ⟨N, o, initCh S, none, none, none, none, none, none, none, none, rfl, Xt.of_same s0, hT.ext s0, ho0, initCh_ok oS.wf, hN⟩, fun m σ H' hW => ?_⟩
    obtain ⟨o, ch, y2, y3, y4, y5, y6, y7, y8, y9, rfl, e1, t1, ho, hC, hset⟩ := hW
    refine ⟨true, rfl, iteT ?_⟩
    cases m with
    | zero => cases hset
    | succ m =>
      refine ⟨_, fun σ' H' z => z, ?_⟩
      obtain ⟨x, hx, hxl, _⟩ := leastWith_ok oS.wf pS hC oS.pos
      have hset2 : (if betterCh S (at_ x) ch = ch then some (x, ch) else settledFrom S m (betterCh S (at_ x) ch)) = some r := by
        have z := hset
        unfold settledFrom at z
        rw [hx] at z
        exact z
      refine ⟨.ref a, rfl, .ref o, rfl, a, o, S, ch, x, rfl, hS.xt e1, oS.len, oS.wf, hC, ho, hx, t1, fun G fo eG tG hfo => ?_⟩
      have hoG : G o = some (.lst (ch.map opV)) := eG.lst ho
      refine ⟨.ref o, rfl, o, _, rfl, .inl (SqL.of hoG), fun ob nb => ?_⟩
      have sG : Same G (upd G ob (.lst (ch.map opV))) := same_upd nb
      have hvG : G a = some (.lst vs) := Xt.lst (e1.trans eG) hv
      refine ⟨.ref a, rfl, a, vs, rfl, sG.seq (SqL.of hvG), ?_⟩
      refine for_it walk_enum (fun i σ H' => ∃ y4 y5 y6 y7 y8 y9, σ = [some (.ref a), some (.ref o), some (.ref fo), some (.ref ob), y4, y5, y6, y7, y8, y9] ∧ Same G H' ∧ H' ob = some (.lst (((List.range i).foldl (beCell S (at_ x)) ch).map opV)))
        ⟨_, _, _, _, _, _, rfl, sG, upd_same⟩ (fun i σ H' _ ⟨_, _, _, _, _, _, _, e, _⟩ => e.seq (SqL.of hvG)) (fun i v σ H1 H2 hi hW hY => ?_) (fun σ H' hW => ?_)
      · obtain ⟨z4, z5, z6, z7, z8, z9, rfl, s1, hb⟩ := hW
        obtain ⟨T, u1, u2, rfl, nT, rfl, f1, f2⟩ := hY
        have k1 : u1 = .int (i : Int) := (Option.some.inj f1).symm
        subst k1
        obtain ⟨F, hF1, hF2⟩ := paired_get hp f2
        have hi : i < S.length := (List.getElem?_eq_some_iff.mp hF1).1
        have eT : Same H1 (upd H1 T (.tup [.int (i : Int), u2])) := same_upd nT
        have hT3 : (upd H1 T (.tup [.int (i : Int), u2])) T = some (.tup [.int (i : Int), u2]) := upd_same
        generalize upd H1 T (.tup [.int (i : Int), u2]) = H3 at eT hT3 ⊢
        have s3 : Same G H3 := s1.trans eT
        have hb3 := eT _ _ hb
        have hF3 : FmAt G u2 F := hF2.xt (e1.trans eG)
        rw [foldl_range_succ]
        have bl : ((List.range i).foldl (beCell S (at_ x)) ch).length = S.length := by rw [beCells_len, hC.len]
        generalize (List.range i).foldl (beCell S (at_ x)) ch = b at hb hb3 bl
        refine ⟨T, _, rfl, SqT.of hT3, rfl, _, _, rfl, _, _, rfl, rfl, ?_⟩
        obtain ⟨t, rr, et, ht⟩ := hF3.tup
        refine ⟨u2, rfl, t, _, 0, _, et, rfl, SqT.of (s3 _ _ ht), atI_nat (j := 0) rfl, rfl, _, rfl, ?_⟩
        rw [word_greatest]
        have skip : (∀ as, F ≠ .gst as) → beCell S (at_ x) b i = b := fun hF => by
          unfold beCell
          rw [hF1]
          cases F with
          | gst as => exact absurd rfl (hF as)
          | _ => rfl
        cases F with
        | lst as => exact iteF ⟨_, _, _, _, _, _, rfl, s3, by rw [skip (fun _ z => nomatch z)]; exact hb3⟩
        | amt c => exact iteF ⟨_, _, _, _, _, _, rfl, s3, by rw [skip (fun _ z => nomatch z)]; exact hb3⟩
        | whn j c d => exact iteF ⟨_, _, _, _, _, _, rfl, s3, by rw [skip (fun _ z => nomatch z)]; exact hb3⟩
        | gst as =>
          refine iteT ?_
          have eb : beCell S (at_ x) b i = (List.range as.length).foldl (beStep (at_ x) as i) b := by
            unfold beCell
            rw [hF1]
          have wF : WFm S.length (.gst as) := oS.wf i _ hF1
          have hF4 := hF3
          obtain ⟨t2, l, rfl, ht2, us, hu, hus⟩ := hF3
          have hul : us.length = as.length := Paired.length hus
          refine ⟨.ref t2, rfl, t2, _, 1, _, rfl, rfl, SqT.of (s3 _ _ ht2), atI_nat (j := 1) rfl, l, us, rfl, SqL.of (s3 _ _ hu), ?_⟩
          refine for_it walk_enum (fun p σ H' => ∃ y6 y7 y8 y9, σ = [some (.ref a), some (.ref o), some (.ref fo), some (.ref ob), some (.int (i : Int)), some (.ref t2), y6, y7, y8, y9] ∧ Same G H' ∧ H' ob = some (.lst (((List.range p).foldl (beStep (at_ x) as i) b).map opV)))
            ⟨_, _, _, _, rfl, s3, hb3⟩ (fun i σ H' _ ⟨_, _, _, _, _, e, _⟩ => e.seq (SqL.of hu)) (fun p v σ H5 H6 hp5 hW hY => ?_) (fun σ H' hW => ?_)
          · obtain ⟨z6, z7, z8, z9, rfl, s5, hb5⟩ := hW
            obtain ⟨T5, w1, w2, rfl, nT5, rfl, f5, f6⟩ := hY
            have k5 : w1 = .int (p : Int) := (Option.some.inj f5).symm
            subst k5
            obtain ⟨pr, hpr, tt, rfl, htt⟩ := paired_get hus f6
            have hpin : pr.1 < S.length := wF.2 pr (List.mem_of_getElem? hpr)
            have epr : as.getD p (0, 0) = pr := getD_of hpr
            have eT5 : Same H5 (upd H5 T5 (.tup [.int (p : Int), .ref tt])) := same_upd nT5
            have hT6 : (upd H5 T5 (.tup [.int (p : Int), .ref tt])) T5 = some (.tup [.int (p : Int), .ref tt]) := upd_same
            generalize upd H5 T5 (.tup [.int (p : Int), .ref tt]) = H7 at eT5 hT6 ⊢
            have s7 : Same G H7 := s5.trans eT5
            have hb7 := eT5 _ _ hb5
            rw [foldl_range_succ]
            have bl2 : ((List.range p).foldl (beStep (at_ x) as i) b).length = S.length := by rw [beFold_len, bl]
            generalize (List.range p).foldl (beStep (at_ x) as i) b = b2 at hb5 hb7 bl2
            have look : ∀ j : Nat, j < S.length → atI (x.map amV) (j : Int) = some (amV (at_ x j)) := fun j hj => at_nat (by rw [List.getElem?_map, get_at (by omega)]; rfl)
            refine ⟨T5, _, rfl, SqT.of hT6, rfl, _, _, rfl, _, _, rfl, ⟨tt, _, rfl, SqT.of (s7 _ _ htt), rfl, _, _, rfl, _, _, rfl, rfl, rfl, ?_⟩⟩
            refine ⟨.ref fo, rfl, .int (pr.1 : Int), rfl, fo, _, (pr.1 : Int), _, rfl, rfl, SqL.of (s7 _ _ hfo), look pr.1 hpin, .int pr.2, rfl, at_ x pr.1, pr.2, rfl, ?_⟩
            refine ⟨_, rfl, .ref fo, rfl, .int (i : Int), rfl, fo, _, (i : Int), _, rfl, rfl, SqL.of (s7 _ _ hfo), look i hi, arcV (at_ x) pr, at_ x i, rfl, _, rfl, ite2 (fun c1 => ?_) fun c1 => ?_⟩
            · have c1' : ¬ leA (arcV (at_ x) pr) (at_ x i) := by simpa using c1
              refine ⟨_, rfl, .ref t2, rfl, .ref fo, rfl, .ref t2, .gst as, fo, x, rfl, hF4.xt (Xt.of_same s7), by rw [hxl]; exact wF, (oS.sz i _ hF1).arcs, hfo.xt (Xt.of_same s7), fun H8 s8 => ?_⟩
              refine ⟨scal_am (arcV (at_ x) pr) _, _, rfl, ?_⟩
              show if decide (amV (arcV (at_ x) pr) = _) = true then _ else _
              rw [amV_eq]
              refine ite2 (fun c2 => ?_) fun c2 => ?_
              · have en : beStep (at_ x) as i b2 p = b2.set i (some p) := if_pos ⟨by rw [epr]; exact c1', by rw [epr]; exact of_decide_eq_true c2⟩
                rw [en]
                refine ⟨_, rfl, .ref ob, rfl, .int (i : Int), rfl, ob, _, (i : Int), i, rfl, rfl, s8 _ _ hb7, ixN_at (by rw [List.length_map]; omega), _, _, _, _, rfl, same_mut (s7.trans s8) nb, ?_⟩
                rw [upd_same]
                exact congrArg (fun z => some (HO.lst z)) (set_opV b2 i p)
              · have en : beStep (at_ x) as i b2 p = b2 := if_neg fun z => c2 (decide_eq_true (by rw [epr] at z; exact z.2))
                rw [en]
                exact ⟨_, _, _, _, rfl, s7.trans s8, s8 _ _ hb7⟩
            · have c1' : leA (arcV (at_ x) pr) (at_ x i) := by simpa using c1
              have en : beStep (at_ x) as i b2 p = b2 := if_neg fun z => z.1 (by rw [epr]; exact c1')
              rw [en]
              refine iteFd rfl ?_
              exact ⟨_, _, _, _, rfl, s7, hb7⟩
          · obtain ⟨z6, z7, z8, z9, rfl, s5, hb5⟩ := hW
            refine ⟨_, _, _, _, _, _, rfl, s5, ?_⟩
            rw [eb, ← hul]
            exact hb5
      · obtain ⟨z4, z5, z6, z7, z8, z9, rfl, s1, hb⟩ := hW
        rw [hvl] at hb
        have hb : H' ob = some (.lst ((betterCh S (at_ x) ch).map opV)) := hb
        have ho' : H' o = some (.lst (ch.map opV)) := s1 _ _ hoG
        refine ⟨_, rfl, _, rfl, ?_⟩
        refine eq_ams (by rw [← opV_amV]; exact hb) (by rw [← opV_amV]; exact ho') ⟨_, rfl, ite2 (fun c => ?_) fun c => ?_⟩
        · have c := of_decide_eq_true c
          rw [if_pos c] at hset2
          have er : (x, ch) = r := Option.some.inj hset2
          refine ⟨_, rfl, _, rfl, by show 2 ≤ sizeLine; decide, fun t nt => ?_⟩
          refine q _ t fo o ((e1.trans eG).trans (Xt.of_same (s1.trans (same_upd nt)))) ((tG.ext s1).ext (same_upd nt)) upd_same ?_
          rw [← hr1, ← er]
          exact hfo.xt (Xt.of_same (s1.trans (same_upd nt)))
        · have c : ¬ betterCh S (at_ x) ch = ch := fun z => c (decide_eq_true z)
          rw [if_neg c] at hset2
          refine ⟨_, rfl, m, Nat.lt_succ_self m, ob, betterCh S (at_ x) ch, _, _, _, _, _, _, _, _, rfl, (e1.trans eG).trans (Xt.of_same s1), tG.ext s1, hb, better_ChOk oS.wf hC, hset2⟩
end
end CW
namespace CW
open PySem PySem.Spec PyProof.Rows L2 CS
theorem nats_am (l : List Nat) : l.map nat2V = (l.map some).map amV := by
  rw [List.map_map]
  rfl
theorem some_inj (l m : List Nat) : decide (l.map some = m.map some) = decide (l = m) := by
  rw [decide_eq_decide]
  constructor
  · intro e
    have h : ∀ (l m : List Nat), l.map some = m.map some → l = m := fun l => by
      induction l with
      | nil => intro m e; cases m with | nil => rfl | cons _ _ => cases e
      | cons a l ih =>
        intro m e
        cases m with
        | nil => cases e
        | cons b m =>
          obtain ⟨e1, e2⟩ := List.cons.inj e
          rw [Option.some.inj e1, ih m e2]
    exact h l m e
  · intro e
    rw [e]
theorem eq_nats {K : PySem.W.Frag} {H : Hp} {a b : Addr} {l m : List Nat} {Q : VK} (h1 : H a = some (.lst (l.map nat2V))) (h2 : H b = some (.lst (m.map nat2V))) (q : Q (.bl (decide (l = m))) H) : rEqD K (.ref a) (.ref b) H Q := by
  rw [nats_am] at h1 h2
  exact eq_ams h1 h2 (by rw [some_inj]; exact q)
theorem filt_take {α : Type} {p : α → Bool} {l : List α} {i : Nat} {a : α} (h : l[i]? = some a) : (l.take (i + 1)).filter p = (l.take i).filter p ++ (if p a = true then [a] else []) := by
  rw [List.take_succ, h, List.filter_append]
  show _ ++ List.filter p [a] = _
  rw [List.filter_cons]
  rfl
theorem OkS.opened {S : List Fm} (o : OkS S) (pl : List Nat) : OkS (opened S pl) := by
  refine ⟨opened_wf o.wf, by rw [opened_len]; exact o.pos, by rw [opened_len]; exact o.len, fun i F h => ?_⟩
  rw [opened_at] at h
  obtain ⟨G, hG, e⟩ := Option.map_eq_some_iff.mp h
  have z := o.sz i G hG
  subst e
  cases G with
  | amt a => trivial
  | lst as => exact z
  | gst as => exact z
  | whn j a k =>
    show FmSz (if i ∈ pl then .gst [(k, 0)] else .amt (some 0))
    split
    · show 1 ≤ 1000
      omega
    · trivial
theorem OkS.setIn {S : List Fm} (o : OkS S) (i : Nat) (a : Am) : OkS (setIn S i a) := by
  have hl : (CS.setIn S i a).length = S.length := List.length_set
  refine ⟨fun j F h => ?_, by rw [hl]; exact o.pos, by rw [hl]; exact o.len, fun j F h => ?_⟩
  · rw [hl]
    by_cases e : j = i
    · subst e
      by_cases c : j < S.length
      · rw [setIn_same c] at h
        cases h
        trivial
      · rw [List.getElem?_eq_none (by rw [hl]; omega)] at h
        cases h
    · rw [setIn_ne e] at h
      exact o.wf j F h
  · by_cases e : j = i
    · subst e
      by_cases c : j < S.length
      · rw [setIn_same c] at h
        cases h
        trivial
      · rw [List.getElem?_eq_none (by rw [hl]; omega)] at h
        cases h
    · rw [setIn_ne e] at h
      exact o.sz j F h
section
variable {P : Program} {w : World} {K : PySem.W.Frag} {mg : Str → Option Value} {base : Heap} {k : Nat}
/-! ### fulfilled -/
abbrev sFulfilled : Stmt := topS 31
theorem scFulfilled : FnScope ["flat", "x", "found", "cell"] ["flat", "x"] (defScope sFulfilled) := ⟨rfl, rfl, rfl, by decide +kernel, rfl, by decide +kernel, by decide +kernel⟩
def spFulfilled : Sp := fun vs H Q _ => ∃ (a l : Addr) (S : List Fm) (x : List Am), vs = [.ref a, .ref l] ∧ ShAt H a S ∧ S.length ≤ 1000 ∧ WFs S ∧ AmsAt H l x ∧ x.length = S.length ∧ ∀ H' p, Same H H' → H p = none → H' p = some (.lst ((fulfilled S (at_ x)).map nat2V)) → Q (.ref p) H'
theorem kn_fulfilled (D : Stands K mg "fulfilled" sFulfilled) (GC : Kn P w K mg base k "conditions_of" ["flat"] spConditionsOf) (GA : Kn P w K mg base k "at_most" ["a", "b"] spAtMost) : Kn P w K mg base (k + 1) "fulfilled" ["flat", "x"] spFulfilled := by
  refine kn_of D scFulfilled (fun _ _ _ _ _ _ us hl => match us, hl with | [_, _], _ => rfl) (fun vs H Q E h => ?_) (fun f cdv A outer s H vs Q E hr h => ?_)
  · obtain ⟨a, l, S, x, rfl, _⟩ := h
    rfl
  · obtain ⟨a, l, S, x, rfl, hS, hlen, W, hx, hxl, q⟩ := h
    refine ⟨_, pss_cons (ps_set (i := 2) scFulfilled.nd rfl (.inl rfl) (pe_lst pa_nil))
      (pss_cons (ps_for PassesOwn.never rfl (pi_list (pe_kn GC hr (by rfl) (pa_cons (pv 0) pa_nil))) (pg_name (i := 3) scFulfilled.nd rfl (.inl rfl))
        (pss_one (ps_if (pt_val (pe_kn GA hr (by rfl) (pa_cons (pe_ix ix_tup (pe_ix ix_list (pv 0) (pv 3) (fun _ _ => rfl)) pe_int (fun _ _ => rfl)) (pa_cons (pe_ix ix_list (pv 1) (pe_ix ix_tup (pe_ix ix_list (pv 0) (pv 3) (fun _ _ => rfl)) pe_int (fun _ _ => rfl)) (fun _ _ => rfl)) pa_nil))))
          (pss_one (ps_expr (pe_bm PySem.F.plainAttrs_list PySem.F.slot_list_append PySem.F.type_list_append mt_append (pv 2) (pa_cons (pv 3) pa_nil)))) pss_nil)))
      (pss_one (ps_ret (pv 2)))), ?_⟩
    obtain ⟨vs, hv, hp⟩ := id hS
    refine ⟨Nat.zero_le _, fun o no => ?_⟩
    have s0 : Same H (upd H o (.lst [])) := same_upd no
    refine ⟨.ref a, rfl, a, S, rfl, hS.xt (Xt.of_same s0), hlen, fun H1 pc s1 npc hpc => ?_⟩
    have s01 := s0.trans s1
    have ho1 : H1 o = some (.lst []) := s1 _ _ upd_same
    have npo : pc ≠ o := fun z => by
      subst z
      rw [upd_same] at npc
      cases npc
    have nHpc : H pc = none := s0.free npc
    have hmem : ∀ c ∈ conds S, c < S.length := fun c hc => List.mem_range.mp (List.mem_filter.mp hc).1
    have hcl : (conds S).length ≤ S.length := by
      have := List.length_filter_le (fun i => isWhn S[i]?) (List.range S.length)
      rw [List.length_range] at this
      exact this
    refine ⟨pc, rfl, ⟨_, SqL.of hpc⟩, ?_⟩
    refine for_it walk_list (fun i σ H' => ∃ y3, σ = [some (.ref a), some (.ref l), some (.ref o), y3] ∧ Same H H' ∧ H' pc = some (.lst ((conds S).map nat2V)) ∧ H' o = some (.lst ((((conds S).take i).filter (fulB S (at_ x))).map nat2V)))
      ⟨none, rfl, s01, hpc, ho1⟩ (fun i σ H' _ ⟨_, _, _, e, _⟩ => SqL.of e) (fun i v σ H1 H2 hi hW hY => ?_) (fun σ H' hW => ?_)
    · obtain ⟨y3, rfl, s2, hc2, ho2⟩ := hW
      obtain ⟨rfl, hy⟩ := hY
      obtain ⟨c, hc, rfl⟩ := map_some hy
      obtain ⟨F, hF⟩ : ∃ F, S[c]? = some F := ⟨S[c]'(hmem c (List.mem_of_getElem? hc)), List.getElem?_eq_getElem _⟩
      have hw : isWhn S[c]? = true := (List.mem_filter.mp (List.mem_of_getElem? hc)).2
      obtain ⟨v, hv1, hv2⟩ := paired_get' hp hF
      cases F with
      | amt _ => rw [hF] at hw; cases hw
      | lst _ => rw [hF] at hw; cases hw
      | gst _ => rw [hF] at hw; cases hw
      | whn j b d =>
        obtain ⟨t, rfl, ht⟩ := hv2
        have hj : j < S.length := (W c _ hF).1
        have efb : fulB S (at_ x) c = decide (leA (some b) (at_ x j)) := by
          unfold fulB
          rw [hF]
        have ela : SqL K H2 a vs := SqL.of (s2 _ _ hv)
        refine ⟨.ref a, rfl, .int (c : Int), rfl, a, vs, _, _, rfl, rfl, ela, at_nat hv1, t, _, 2, _, rfl, rfl, SqT.of (s2 _ _ ht), atI_nat (j := 2) rfl,
          .ref l, rfl, .ref a, rfl, .int (c : Int), rfl, a, vs, _, _, rfl, rfl, ela, at_nat hv1, t, _, 1, _, rfl, rfl, SqT.of (s2 _ _ ht), atI_nat (j := 1) rfl,
          l, _, (j : Int), _, rfl, rfl, SqL.of (s2 _ _ hx), at_nat (by rw [List.getElem?_map, get_at (by omega)]; rfl), some b, at_ x j, rfl, _, rfl, ite2 (fun cc => ?_) fun cc => ?_⟩
        · refine ⟨.ref o, rfl, .inl ⟨rfl, _, SqL.of ho2⟩, .int (c : Int), rfl, o, _, _, rfl, rfl, ho2, szl ?_, ?_⟩
          · rw [List.length_map]
            have z1 := List.length_filter_le (fulB S (at_ x)) ((conds S).take i)
            have z2 : ((conds S).take i).length ≤ i := List.length_take_le i _
            have z3 : i < (conds S).length := (List.getElem?_eq_some_iff.mp hc).1
            omega
          · refine ⟨_, rfl, same_mut s2 no, by rw [upd_ne npo]; exact hc2, ?_⟩
            rw [upd_same, filt_take hc, if_pos (by rw [efb]; exact cc), List.map_append]
            rfl
        · refine ⟨_, rfl, s2, hc2, ?_⟩
          rw [filt_take hc, if_neg (by rw [efb]; exact cc), List.append_nil]
          exact ho2
    · obtain ⟨y3, rfl, s2, hc2, ho2⟩ := hW
      refine ⟨_, rfl, q H' o s2 no ?_⟩
      rw [ho2, List.length_map, List.take_length]
      rfl
/-! ### stages_from_below, flat_least -/
abbrev sStages : Stmt := topS 32
abbrev sFlatLeast : Stmt := topS 33
theorem scStages : FnScope ["flat", "places", "stages", "x", "later"] ["flat"] (defScope sStages) := ⟨rfl, rfl, rfl, by decide +kernel, rfl, by decide +kernel, by decide +kernel⟩
theorem scFlatLeast : FnScope ["flat"] ["flat"] (defScope sFlatLeast) := ⟨rfl, rfl, rfl, by decide +kernel, rfl, by decide +kernel, by decide +kernel⟩
def spStages (Pt : Addr) : Sp := fun vs H Q _ => ∃ (a : Addr) (S : List Fm), vs = [.ref a] ∧ ShAt H a S ∧ OkS S ∧ LamX.Tabs [(Pt, qLam)] H ∧
  ∀ H' o ys t p f, Xt H H' → LamX.Tabs [(Pt, qLam)] H' → H' o = some (.lst (ys ++ [.ref t])) → H' t = some (.tup [.ref p, .ref f]) → AmsAt H' f (lfpL S) → Q (.ref o) H'
def spFlatLeast (Pt : Addr) : Sp := fun vs H Q _ => ∃ (a : Addr) (S : List Fm), vs = [.ref a] ∧ ShAt H a S ∧ OkS S ∧ LamX.Tabs [(Pt, qLam)] H ∧
  ∀ H' f, Xt H H' → LamX.Tabs [(Pt, qLam)] H' → AmsAt H' f (lfpL S) → Q (.ref f) H'
theorem kn_stages {Pt : Addr} (D : Stands K mg "stages_from_below" sStages) (GS : Kn P w K mg base k "settled_least" ["plain"] (spSettled Pt)) (GO : Kn P w K mg base k "opened" ["flat", "places"] spOpened) (GF : Kn P w K mg base k "fulfilled" ["flat", "x"] spFulfilled) :
    Kn P w K mg base (k + 1) "stages_from_below" ["flat"] (spStages Pt) := by
  refine kn_of D scStages (fun _ _ _ _ _ _ us hl => match us, hl with | [_], _ => rfl) (fun vs H Q E h => ?_) (fun f cdv A outer s H vs Q E hr h => ?_)
  · obtain ⟨a, S, rfl, _⟩ := h
    rfl
  · obtain ⟨a, S, rfl, hS, oS, hT, q⟩ := h
    refine ⟨_, pss_cons (ps_set (i := 1) scStages.nd rfl (.inl rfl) (pe_lst pa_nil))
      (pss_cons (ps_set (i := 2) scStages.nd rfl (.inl rfl) (pe_lst pa_nil))
      (pss_one (ps_while PassesOwn.never (pt_val pe_bl)
        (pss_cons (ps_set (i := 3) scStages.nd rfl (.inl rfl) (pe_ix ix_tup (pe_kn GS hr (by rfl) (pa_cons (pe_kn GO hr (by rfl) (pa_cons (pv 0) (pa_cons (pv 1) pa_nil))) pa_nil)) pe_int (fun _ _ => rfl)))
        (pss_cons (ps_expr (pe_bm PySem.F.plainAttrs_list PySem.F.slot_list_append PySem.F.type_list_append mt_append (pv 2) (pa_cons (pe_tup (pa_cons (pv 1) (pa_cons (pv 3) pa_nil))) pa_nil)))
        (pss_cons (ps_set (i := 4) scStages.nd rfl (.inl rfl) (pe_kn GF hr (by rfl) (pa_cons (pv 0) (pa_cons (pv 3) pa_nil))))
        (pss_cons (ps_if (pt_cmpR (op_eqD hr.units) (pv 4) (pv 1) (nomark _)) (pss_one (ps_ret (pv 2))) pss_nil)
        (pss_one (ps_set (i := 1) scStages.nd rfl (.inl rfl) (pv 4)))))))))), ?_⟩
    refine ⟨Nat.zero_le _, fun p np => ⟨Nat.zero_le _, fun o no0 => ?_⟩⟩
    obtain ⟨nop, no⟩ := upd_none_of no0
    have s1 : Same H (upd H p (.lst [])) := same_upd np
    have s2 : Same (upd H p (.lst [])) (upd (upd H p (.lst [])) o (.lst [])) := same_upd no0
    obtain ⟨N, hN, hst⟩ := stages_ok oS.wf
    refine ⟨fun m σ H' => ∃ (p : Addr) (pl : List Nat) (ys : List V) (y3 y4 : Option V), σ = [some (.ref a), some (.ref p), some (.ref o), y3, y4] ∧ Xt H H' ∧ LamX.Tabs [(Pt, qLam)] H' ∧ H' p = some (.lst (pl.map nat2V)) ∧ p ≠ o ∧ H' o = some (.lst ys) ∧ (∀ y ∈ ys, ∃ t, y = .ref t) ∧
        ys.length + m ≤ 1010 ∧ stagesFrom S m pl = some (lfpL S),
      ⟨N, p, [], [], none, none, rfl, Xt.of_same (s1.trans s2), (hT.ext s1).ext s2, s2 _ _ upd_same, nop.symm, upd_same, (fun y hy => (List.not_mem_nil hy).elim), by have := oS.len; show 0 + N ≤ 1010; omega, hst⟩, fun m σ H' hW => ?_⟩
    obtain ⟨p, pl, ys, y3, y4, rfl, e1, t1, hp, hpo, ho, hys, hsz, hst⟩ := hW
    refine ⟨true, rfl, iteT ?_⟩
    cases m with
    | zero => cases hst
    | succ m =>
      refine ⟨_, fun σ' H' z => z, ?_⟩
      have hst : (if fulfilled S (at_ (lfpL (opened S pl))) = pl then some (lfpL (opened S pl)) else stagesFrom S m (fulfilled S (at_ (lfpL (opened S pl))))) = some (lfpL S) := hst
      refine ⟨.ref a, rfl, .ref p, rfl, a, p, S, pl, rfl, hS.xt e1, oS.len, hp, fun H2 so s3 nso hso => ?_⟩
      refine ⟨so, opened S pl, rfl, hso, oS.opened pl, opened_plain, t1.ext s3, fun H3 t fx c e3 t3 ht hf => ?_⟩
      refine ⟨t, _, 0, _, rfl, rfl, SqT.of ht, atI_nat (j := 0) rfl, ?_⟩
      have e13 : Xt H' H3 := (Xt.of_same s3).trans e3
      have hp3 : H3 p = some (.lst (pl.map nat2V)) := e13.lst hp
      have ho3 : H3 o = some (.lst ys) := e13.lst ho
      have hxl : (lfpL (opened S pl)).length = S.length := by rw [lfpL_len, opened_len]
      have nfo : fx ≠ o := fun z => by
        subst z
        have h2 := hf
        unfold AmsAt at h2
        rw [ho3] at h2
        have e := HO.lst.inj (Option.some.inj h2)
        have h0 : (lfpL (opened S pl))[0]? = some (at_ (lfpL (opened S pl)) 0) := get_at (by rw [hxl]; exact oS.pos)
        have h1 : ys[0]? = some (amV (at_ (lfpL (opened S pl)) 0)) := by rw [e, List.getElem?_map, h0]; rfl
        obtain ⟨t', et⟩ := hys _ (List.mem_of_getElem? h1)
        cases q0 : at_ (lfpL (opened S pl)) 0 with
        | none => rw [q0] at et; cases et
        | some n => rw [q0] at et; cases et
      refine ⟨.ref o, rfl, .inl ⟨rfl, _, SqL.of ho3⟩, .ref p, rfl, .ref fx, rfl, by show 2 ≤ sizeLine; decide, fun tt nt => ?_⟩
      have s4 : Same H3 (upd H3 tt (.tup [.ref p, .ref fx])) := same_upd nt
      have ht4 : (upd H3 tt (.tup [.ref p, .ref fx])) tt = some (.tup [.ref p, .ref fx]) := upd_same
      have nto : tt ≠ o := (ne_of_none ho3 nt).symm
      generalize upd H3 tt (.tup [.ref p, .ref fx]) = H4 at s4 ht4 ⊢
      refine ⟨o, ys, .ref tt, rfl, rfl, s4 _ _ ho3, szl (by omega), ?_⟩
      have e5 : Xt H (upd H4 o (.lst (ys ++ [.ref tt]))) := xt_mut ((e1.trans e13).trans (Xt.of_same s4)) no
      have t5 : LamX.Tabs [(Pt, qLam)] (upd H4 o (.lst (ys ++ [.ref tt]))) := tabs_upd (t3.ext s4) (s4 _ _ ho3)
      have hp5 : (upd H4 o (.lst (ys ++ [.ref tt]))) p = some (.lst (pl.map nat2V)) := by rw [upd_ne hpo]; exact s4 _ _ hp3
      have hf5 : AmsAt (upd H4 o (.lst (ys ++ [.ref tt]))) fx (lfpL (opened S pl)) := by
        show (upd H4 o _) fx = _
        rw [upd_ne nfo]
        exact s4 _ _ hf
      have ht5 : (upd H4 o (.lst (ys ++ [.ref tt]))) tt = some (.tup [.ref p, .ref fx]) := by rw [upd_ne nto]; exact ht4
      have ho5 : (upd H4 o (.lst (ys ++ [.ref tt]))) o = some (.lst (ys ++ [.ref tt])) := upd_same
      generalize upd H4 o (.lst (ys ++ [.ref tt])) = H5 at e5 t5 hp5 hf5 ht5 ho5 ⊢
      refine ⟨.ref a, rfl, .ref fx, rfl, a, fx, S, lfpL (opened S pl), rfl, hS.xt e5, oS.len, oS.wf, hf5, hxl, fun H6 pn s6 npn hpn => ?_⟩
      refine ⟨_, rfl, _, rfl, eq_nats hpn (s6 _ _ hp5) ⟨_, rfl, ite2 (fun cc => ?_) fun cc => ?_⟩⟩
      · have cc := of_decide_eq_true cc
        rw [if_pos cc] at hst
        have er := Option.some.inj hst
        refine ⟨_, rfl, q H6 o ys tt p fx (e5.trans (Xt.of_same s6)) (t5.ext s6) (s6 _ _ ho5) (s6 _ _ ht5) ?_⟩
        rw [← er]
        exact hf5.xt (Xt.of_same s6)
      · have cc : ¬ fulfilled S (at_ (lfpL (opened S pl))) = pl := fun z => cc (decide_eq_true z)
        rw [if_neg cc] at hst
        refine ⟨_, rfl, m, Nat.lt_succ_self m, pn, _, ys ++ [.ref tt], _, _, rfl, e5.trans (Xt.of_same s6), t5.ext s6, hpn, (ne_of_none ho5 npn).symm, s6 _ _ ho5, fun y hy => ?_, by rw [List.length_append]; show ys.length + 1 + m ≤ 1010; omega, hst⟩
        rcases List.mem_append.mp hy with h | h
        · exact hys y h
        · exact ⟨tt, List.mem_singleton.mp h⟩
theorem kn_flat_least {Pt : Addr} (D : Stands K mg "flat_least" sFlatLeast) (GS : Kn P w K mg base k "stages_from_below" ["flat"] (spStages Pt)) : Kn P w K mg base (k + 1) "flat_least" ["flat"] (spFlatLeast Pt) := by
  refine kn_of D scFlatLeast (fun _ _ _ _ _ _ us hl => match us, hl with | [_], _ => rfl) (fun vs H Q E h => ?_) (fun f cdv A outer s H vs Q E hr h => ?_)
  · obtain ⟨a, S, rfl, _⟩ := h
    rfl
  · obtain ⟨a, S, rfl, hS, oS, hT, q⟩ := h
    refine ⟨_, pss_one (ps_ret (pe_ix ix_tup (pe_ix ix_list (pe_kn GS hr (by rfl) (pa_cons (pv 0) pa_nil)) (pe_un un_neg pe_int) (fun _ _ => rfl)) pe_int (fun _ _ => rfl))), ?_⟩
    refine ⟨.ref a, rfl, a, S, rfl, hS, oS, hT, fun H1 o ys t p fx e1 t1 ho ht hf => ?_⟩
    refine ⟨1, rfl, o, _, -1, .ref t, rfl, rfl, SqL.of ho, atI_last ys _, t, _, 1, _, rfl, rfl, SqT.of ht, atI_nat (j := 1) rfl, ?_⟩
    exact q H1 fx e1 t1 hf
end
end CW
namespace CW
open PySem PySem.Spec PyProof.Rows L2 CS
/-! ### defs with keyword-only parameters -/
structure KnK (P : Program) (w : World) (K : PySem.W.Frag) (mg : Str → Option Value) (base : Heap) (k : Nat) (x : Str) (ps : List Str) (n : Nat) (ks : List Str) (sp : Sp) : Prop where
  ex : ∃ (f : Addr) (fd : FuncData), mg x = some (.ref f) ∧ PySem.W.keepIn K (.ref f) = true ∧ KBn K fd ps n ks (fun us ws => us ++ ws) (fun vs zs => vs ++ zs) ∧ FnOk P w K mg base CX0 k f fd ps sp
theorem KnK.mono {P : Program} {w : World} {K : PySem.W.Frag} {mg : Str → Option Value} {base : Heap} {j k : Nat} {x : Str} {ps ks : List Str} {n : Nat} {sp : Sp} (G : KnK P w K mg base j x ps n ks sp) (h : j ≤ k) : KnK P w K mg base k x ps n ks sp := by
  obtain ⟨f, fd, h1, h2, h3, h4⟩ := G.ex
  exact ⟨f, fd, h1, h2, h3, h4.mono h⟩
def BindEqK (x : Str) (st : Stmt) (ps : List Str) (n : Nat) (ks : List Str) : Prop := ∀ (kV doc pm : Value) (an : Option Addr) (cdv ct : Value) (us ws : List Value), us.length = n → ws.length = ks.length → bindArgs (PySem.W.fnOf x x (defArgs st) (defBody st) (defScope st) .none kV doc pm an cdv ct) ⟨us, ks.zip ws⟩ = pure (ps.zip (us ++ ws))
theorem kn_ofK {P : Program} {w : World} {K : PySem.W.Frag} {mg : Str → Option Value} {base : Heap} {x : Str} {st : Stmt} {N ps ks : List Str} {n k : Nat} {sp : Sp} (D : Stands K mg x st) (S : FnScope N ps (defScope st)) (hb : BindEqK x st ps n ks) (len : ∀ vs H Q E, sp vs H Q E → vs.length = ps.length)
    (hbody : ∀ (f : Addr) (cdv : Value) (A : Around) (outer : List Env) (s : Shared) (H : Hp) (vs : List V) (Q : VK) (E : XK), Room k (A.deeper (envOfC x (defScope st) s.heap.objs.size f cdv)) → sp vs H Q E →
      ∃ t, PSs (cxOf CX0 P w K mg base N x (defScope st) f cdv A outer s H E).nox (defBody st) t ∧ t { nx := fun _ H' => Q .non H', rt := Q } (start N vs) H) : KnK P w K mg base (k + 1) x ps n ks sp := by
  obtain ⟨f, fd, hm, F⟩ := D.ex
  refine ⟨f, fd, hm, F.kp, ⟨fun s us ws _ h1 h2 => ?_, fun r1 r2 => r1.append r2⟩, F.ok S len fun cdv A outer s H vs Q E hr h => hbody f cdv A outer s H vs Q E hr h⟩
  obtain ⟨oc, od, kV, doc, pm, an, cdv, ct, osl, rfl, _, _⟩ := F.ex
  exact .of_eq (hb kV doc pm an cdv ct us ws h1 h2)
theorem pe_knK {X : Cx} {k n : Nat} {x : Str} {ps ks : List Str} {sp : Sp} {p pos : Pos} {e : Expr} {es : List Expr} {kws : List Keyword} {t tk : TA} (G : KnK X.prog X.w X.K X.mg X.base k x ps n ks sp) (hr : Room k X.A) (hg : Gl X x) (ha : PA X (e :: es) t) (hkw : PK X kws tk)
    (hall : (backToKw pos (keywordEach kws X.env)).all (·.1.isSome) = true := by rfl) (hks : (backToKw pos (keywordEach kws X.env)).filterMap (·.1) = ks := by rfl)
    (hdb : (x == ("__debug__" : Str)) = false := by decide) (he : starEach (e :: es) X.env = (false, eval e X.env) :: starEach es X.env := by rfl)
    (hpl : ((backTo pos (starEach (e :: es) X.env)).any (·.1) || (backToKw pos (keywordEach kws X.env)).any (·.1.isNone)) = false := by rfl) :
    PE X (.Call (.Name x p) (e :: es) kws pos) (tCallN n ks.length sp (fun vs zs => vs ++ zs) E0 t tk) := by
  obtain ⟨f, fd, hm, hk, hb, F⟩ := G.ex
  exact pe_callN F hr hg hm hk hb pass0 ha hkw hall hks hdb he hpl
theorem pe_no {X : Cx} {e : Expr} : PE X e (fun _ _ _ => False) := ⟨fun _ _ _ _ _ _ h => h.elim⟩
theorem nAA : (!decide (V.str "amount" = V.str "amount")) = false := by rw [kAA]; rfl
theorem setIn_take {S : List Fm} {c i : Nat} {am : Am} {F : Fm} (h : S[i]? = some F) : (setIn S c am).take (i + 1) = (setIn S c am).take i ++ [if i = c then .amt am else F] := by
  have e : (setIn S c am)[i]? = some (if i = c then .amt am else F) := by
    by_cases z : i = c
    · subst z
      rw [if_pos rfl]
      exact setIn_same (List.getElem?_eq_some_iff.mp h).1
    · rw [if_neg z, setIn_ne z]
      exact h
  rw [List.take_succ, e]
  rfl
theorem setIn_len {S : List Fm} {i : Nat} {a : Am} : (setIn S i a).length = S.length := List.length_set
section
variable {P : Program} {w : World} {K : PySem.W.Frag} {mg : Str → Option Value} {base : Heap} {k : Nat}
/-! ### set_input -/
abbrev sSetInput : Stmt := topS 37
theorem scSetInput : FnScope ["flat", "cell", "amount", "found", "place", "formula"] ["flat", "cell", "amount"] (defScope sSetInput) := ⟨rfl, rfl, rfl, by decide +kernel, rfl, by decide +kernel, by decide +kernel⟩
def spSetInput : Sp := fun vs H Q _ => ∃ (a : Addr) (S : List Fm) (c : Nat) (y am : Am), vs = [.ref a, .int (c : Int), amV am] ∧ ShAt H a S ∧ S.length ≤ 1000 ∧ S[c]? = some (.amt y) ∧ ∀ H' o, Same H H' → H o = none → ShAt H' o (setIn S c am) → Q (.ref o) H'
theorem kn_set_input (D : Stands K mg "set_input" sSetInput) (me : mg "enumerate" = none) (ml : mg "list" = none) : Kn P w K mg base (k + 1) "set_input" ["flat", "cell", "amount"] spSetInput := by
  refine kn_of D scSetInput (fun _ _ _ _ _ _ us hl => match us, hl with | [_, _, _], _ => rfl) (fun vs H Q E h => ?_) (fun f cdv A outer s H vs Q E hr h => ?_)
  · obtain ⟨a, S, c, y, am, rfl, _⟩ := h
    rfl
  · obtain ⟨a, S, c, y, am, rfl, hS, hlen, hc, q⟩ := h
    refine ⟨_, pss_cons (ps_if (pt_cmpR op_ne (pe_ix ix_tup (pe_ix ix_list (pv 0) (pv 1) (fun _ _ => rfl)) pe_int (fun _ _ => rfl)) pe_str (nomark _)) (pss_one ps_never) pss_nil)
      (pss_cons (ps_set (i := 3) scSetInput.nd rfl (.inl rfl) (pe_lst pa_nil))
      (pss_cons (ps_for PassesOwn.never rfl (pi_enum (by rfl) me (pa_cons (pv 0) pa_nil)) (pg_tup rfl (pgs_cons (pg_name (i := 4) scSetInput.nd rfl (.inl rfl)) (pgs_cons (pg_name (i := 5) scSetInput.nd rfl (.inl rfl)) pgs_nil)))
        (pss_one (ps_if (pt_cmpR op_eq (pv 4) (pv 1) (nomark _))
          (pss_one (ps_expr (pe_bm PySem.F.plainAttrs_list PySem.F.slot_list_append PySem.F.type_list_append mt_append (pv 3) (pa_cons (pe_tup (pa_cons pe_str (pa_cons (pv 2) pa_nil))) pa_nil))))
          (pss_one (ps_if (PW.pt (pw_or (pt_cmpR op_eq (pe_ix ix_tup (pv 5) pe_int (fun _ _ => rfl)) pe_str (nomark _)) (pw_or1 (pt_cmpR op_eq (pe_ix ix_tup (pv 5) pe_int (fun _ _ => rfl)) pe_str (nomark _)))))
            (pss_one (ps_expr (pe_bm PySem.F.plainAttrs_list PySem.F.slot_list_append PySem.F.type_list_append mt_append (pv 3) (pa_cons
              (pe_tup (pa_cons (pe_ix ix_tup (pv 5) pe_int (fun _ _ => rfl)) (pa_cons (pe_callTy call_list_of (by rfl) ml (by decide +kernel) (pa_cons (pe_ix ix_tup (pv 5) pe_int (fun _ _ => rfl)) pa_nil)) pa_nil))) pa_nil))))
            (pss_one (ps_expr (pe_bm PySem.F.plainAttrs_list PySem.F.slot_list_append PySem.F.type_list_append mt_append (pv 3) (pa_cons (pv 5) pa_nil)))))))))
      (pss_one (ps_ret (pv 3))))), ?_⟩
    obtain ⟨vs, hv, hp⟩ := id hS
    have hvl : vs.length = S.length := Paired.length hp
    obtain ⟨v0, hv0, t0, rfl, ht0⟩ := paired_get' hp hc
    refine ⟨.ref a, rfl, .int (c : Int), rfl, a, vs, _, _, rfl, rfl, SqL.of hv, at_nat hv0, t0, _, 0, _, rfl, rfl, SqT.of ht0, atI_nat (j := 0) rfl, rfl, _, rfl, iteFd nAA ?_⟩
    refine ⟨Nat.zero_le _, fun o no => ?_⟩
    have s0 : Same H (upd H o (.lst [])) := same_upd no
    refine ⟨.ref a, rfl, a, vs, rfl, s0.seq (SqL.of hv), ?_⟩
    refine for_it walk_enum (fun i σ H' => ∃ y3 y4, σ = [some (.ref a), some (.int (c : Int)), some (amV am), some (.ref o), y3, y4] ∧ Same H H' ∧ ∃ ys, H' o = some (.lst ys) ∧ Paired (FmAt (hide o H')) ys ((setIn S c am).take i))
      ⟨none, none, rfl, s0, [], upd_same, .nil⟩ (fun i σ H' _ ⟨_, _, _, e, _⟩ => e.seq (SqL.of hv)) (fun i v σ H1 H2 hi hW hY => ?_) (fun σ H' hW => ?_)
    · obtain ⟨y3, y4, rfl, e1, ys, ho, hys⟩ := hW
      obtain ⟨T, u1, u2, rfl, nT, rfl, f1, f2⟩ := hY
      have k1 : u1 = .int (i : Int) := (Option.some.inj f1).symm
      subst k1
      obtain ⟨F, hF1, hF2⟩ := paired_get hp f2
      have eT : Same H1 (upd H1 T (.tup [.int (i : Int), u2])) := same_upd nT
      generalize hH3 : upd H1 T (.tup [.int (i : Int), u2]) = H3 at eT ⊢
      have hT3 : H3 T = some (.tup [.int (i : Int), u2]) := by rw [← hH3]; exact upd_same
      have e3 : Same H H3 := e1.trans eT
      have ho3 : H3 o = some (.lst ys) := eT o _ ho
      have hlt : ys.length < 100000 := by
        have h1 := Paired.length hys
        have h2 : ((setIn S c am).take i).length ≤ i := List.length_take_le i _
        omega
      refine ⟨T, _, rfl, SqT.of hT3, rfl, _, _, rfl, _, _, rfl, rfl, ?_⟩
      have app : ∀ (z : V) (H4 : Hp), Same H3 H4 → FmAt (hide o H4) z (if i = c then .amt am else F) → rAppend (.ref o) [z] H4 fun _ H5 => ∃ y3 y4, ([some (.ref a), some (.int (c : Int)), some (amV am), some (.ref o), some (.int (i : Int)), some u2] : L2.St) = [some (.ref a), some (.int (c : Int)), some (amV am), some (.ref o), y3, y4] ∧ Same H H5 ∧ ∃ ys, H5 o = some (.lst ys) ∧ Paired (FmAt (hide o H5)) ys ((setIn S c am).take (i + 1)) := by
        intro z H4 e4 hz
        refine ⟨o, ys, z, rfl, rfl, e4 o _ ho3, szl hlt, _, _, rfl, same_mut (e3.trans e4) no, _, upd_same, ?_⟩
        rw [hide_upd, setIn_take hF1]
        exact paired_app (Paired.mapP hys fun _ _ q => q.xt (Xt.of_same (hide_mono (eT.trans e4)))) hz
      refine ⟨_, rfl, _, rfl, rfl, _, rfl, ?_⟩
      have eic : decide (V.int (i : Int) = V.int (c : Int)) = decide (i = c) := by
        rw [decide_eq_decide]
        constructor
        · intro z
          have := V.int.inj z
          omega
        · intro z
          rw [z]
      rw [eic]
      refine ite2 (fun z => ?_) fun z => ?_
      · have z := of_decide_eq_true z
        refine ⟨.ref o, rfl, .inl ⟨rfl, _, SqL.of ho3⟩, _, rfl, by show 2 ≤ sizeLine; decide, fun p1 n1 => ?_⟩
        refine app _ _ (same_upd n1) ?_
        rw [if_pos z]
        exact ⟨p1, rfl, hide_get upd_same (ne_of_none ho3 n1).symm⟩
      · have z : ¬ i = c := fun q => z (decide_eq_true q)
        rw [if_neg z] at app
        have plain : FmAt (hide o H3) u2 F := hF2.xt (Xt.of_same (to_hide e3 no))
        cases F with
        | amt b =>
          obtain ⟨t, rfl, ht⟩ := hF2
          refine ⟨.ref t, rfl, t, _, 0, _, rfl, rfl, SqT.of (e3 _ _ ht), atI_nat (j := 0) rfl, rfl, _, rfl, iteFd kAL ?_⟩
          refine ⟨.ref t, rfl, t, _, 0, _, rfl, rfl, SqT.of (e3 _ _ ht), atI_nat (j := 0) rfl, rfl, _, rfl, iteFd kAG ?_⟩
          exact ⟨.ref o, rfl, .inl ⟨rfl, _, SqL.of ho3⟩, _, rfl, app _ _ (Same.refl _) plain⟩
        | whn j b d =>
          obtain ⟨t, rfl, ht⟩ := hF2
          refine ⟨.ref t, rfl, t, _, 0, _, rfl, rfl, SqT.of (e3 _ _ ht), atI_nat (j := 0) rfl, rfl, _, rfl, iteFd kWL ?_⟩
          refine ⟨.ref t, rfl, t, _, 0, _, rfl, rfl, SqT.of (e3 _ _ ht), atI_nat (j := 0) rfl, rfl, _, rfl, iteFd kWG ?_⟩
          exact ⟨.ref o, rfl, .inl ⟨rfl, _, SqL.of ho3⟩, _, rfl, app _ _ (Same.refl _) plain⟩
        | lst as =>
          obtain ⟨t, l, rfl, ht, us, hu, hq⟩ := hF2
          refine ⟨.ref t, rfl, t, _, 0, _, rfl, rfl, SqT.of (e3 _ _ ht), atI_nat (j := 0) rfl, rfl, _, rfl, iteTd kLL (iteTd rfl ?_)⟩
          refine ⟨.ref o, rfl, .inl ⟨rfl, _, SqL.of ho3⟩, .ref t, rfl, t, _, 0, _, rfl, rfl, SqT.of (e3 _ _ ht), atI_nat (j := 0) rfl, .ref t, rfl, t, _, 1, _, rfl, rfl, SqT.of (e3 _ _ ht), atI_nat (j := 1) rfl, l, us, rfl, .inl (SqL.of (e3 _ _ hu)), fun l2 n2 => ?_⟩
          refine ⟨by show 2 ≤ sizeLine; decide, fun t2 m2 => ?_⟩
          obtain ⟨m3, m4⟩ := upd_none_of m2
          have ne1 : l2 ≠ o := (ne_of_none ho3 n2).symm
          have ne2 : t2 ≠ o := (ne_of_none ho3 m4).symm
          have e4 := (same_upd (o := .lst us) n2).trans (same_upd (o := .tup [.str "least", .ref l2]) m2)
          refine app _ _ e4 ⟨t2, l2, rfl, hide_get upd_same ne2, us, hide_get ?_ ne1, Paired.mapP hq fun _ _ z => z.xt (Xt.of_same (to_hide (e3.trans e4) no))⟩
          rw [upd_ne m3.symm]
          exact upd_same
        | gst as =>
          obtain ⟨t, l, rfl, ht, us, hu, hq⟩ := hF2
          refine ⟨.ref t, rfl, t, _, 0, _, rfl, rfl, SqT.of (e3 _ _ ht), atI_nat (j := 0) rfl, rfl, _, rfl, iteFd kGL ?_⟩
          refine ⟨.ref t, rfl, t, _, 0, _, rfl, rfl, SqT.of (e3 _ _ ht), atI_nat (j := 0) rfl, rfl, _, rfl, iteTd kGG ?_⟩
          refine ⟨.ref o, rfl, .inl ⟨rfl, _, SqL.of ho3⟩, .ref t, rfl, t, _, 0, _, rfl, rfl, SqT.of (e3 _ _ ht), atI_nat (j := 0) rfl, .ref t, rfl, t, _, 1, _, rfl, rfl, SqT.of (e3 _ _ ht), atI_nat (j := 1) rfl, l, us, rfl, .inl (SqL.of (e3 _ _ hu)), fun l2 n2 => ?_⟩
          refine ⟨by show 2 ≤ sizeLine; decide, fun t2 m2 => ?_⟩
          obtain ⟨m3, m4⟩ := upd_none_of m2
          have ne1 : l2 ≠ o := (ne_of_none ho3 n2).symm
          have ne2 : t2 ≠ o := (ne_of_none ho3 m4).symm
          have e4 := (same_upd (o := .lst us) n2).trans (same_upd (o := .tup [.str "greatest", .ref l2]) m2)
          refine app _ _ e4 ⟨t2, l2, rfl, hide_get upd_same ne2, us, hide_get ?_ ne1, Paired.mapP hq fun _ _ z => z.xt (Xt.of_same (to_hide (e3.trans e4) no))⟩
          rw [upd_ne m3.symm]
          exact upd_same
    · obtain ⟨y3, y4, rfl, e1, ys, ho, hys⟩ := hW
      refine ⟨_, rfl, q H' o e1 no ⟨ys, ho, ?_⟩⟩
      rw [hvl, List.take_of_length_le (by rw [setIn_len]; exact Nat.le_refl _)] at hys
      exact Paired.mapP hys fun _ _ z => z.xt (Xt.of_same hide_same)
/-! ### is_reached -/
/-- a sheet with its input, as the goals are asked of it -/
structure Asked (Pt : Addr) (H : Hp) (a : Addr) (S : List Fm) (ic c : Nat) : Prop where
  sh : ShAt H a S
  ok : OkS S
  inp : ∃ y, S[ic]? = some (.amt y)
  cl : c < S.length
  tb : LamX.Tabs [(Pt, qLam)] H
theorem Asked.xt {Pt : Addr} {H H' : Hp} {a : Addr} {S : List Fm} {ic c : Nat} (h : Asked Pt H a S ic c) (e : Xt H H') (t : LamX.Tabs [(Pt, qLam)] H') : Asked Pt H' a S ic c := ⟨h.sh.xt e, h.ok, h.inp, h.cl, t⟩
theorem ams_at {K : PySem.W.Frag} {H : Hp} {f : Addr} {x : List Am} {c : Nat} {Q : VK} (h : AmsAt H f x) (hc : c < x.length) (q : Q (amV (at_ x c)) H) : rIxL K (.ref f) (.int (c : Int)) H Q :=
  ⟨f, _, (c : Int), _, rfl, rfl, SqL.of h, at_nat (by rw [List.getElem?_map, get_at hc]; rfl), q⟩
theorem ans_eq {S : List Fm} {ic c b : Nat} (h : c < S.length) : at_ (lfpL (setIn S ic (some b))) c = ans S ic c b := lfpL_at (by rw [setIn_len]; exact h)
abbrev sIsReached : Stmt := topS 38
abbrev nmIR : List Str := ["flat", "input_cell", "cell", "goal", "amount", "greatest", "sheet", "x"]
theorem scIsReached : FnScope nmIR ["flat", "input_cell", "cell", "goal", "amount", "greatest"] (defScope sIsReached) := ⟨rfl, rfl, rfl, by decide +kernel, rfl, by decide +kernel, by decide +kernel⟩
def spIsReached (Pt : Addr) : Sp := fun vs H Q _ => ∃ (a : Addr) (S : List Fm) (ic c g b : Nat), vs = [.ref a, .int (ic : Int), .int (c : Int), .int (g : Int), .int (b : Int), .bl false] ∧ Asked Pt H a S ic c ∧
  ∀ H', Xt H H' → LamX.Tabs [(Pt, qLam)] H' → Q (.bl (decide (leA (some g) (ans S ic c b)))) H'
theorem kn_is_reached {Pt : Addr} (D : Stands K mg "is_reached" sIsReached) (GI : Kn P w K mg base k "set_input" ["flat", "cell", "amount"] spSetInput) (GF : Kn P w K mg base k "flat_least" ["flat"] (spFlatLeast Pt)) (GA : Kn P w K mg base k "at_most" ["a", "b"] spAtMost) :
    Kn P w K mg base (k + 1) "is_reached" ["flat", "input_cell", "cell", "goal", "amount", "greatest"] (spIsReached Pt) := by
  refine kn_of D scIsReached (fun _ _ _ _ _ _ us hl => match us, hl with | [_, _, _, _, _, _], _ => rfl) (fun vs H Q E h => ?_) (fun f cdv A outer s H vs Q E hr h => ?_)
  · obtain ⟨a, S, ic, c, g, b, rfl, _⟩ := h
    rfl
  · obtain ⟨a, S, ic, c, g, b, rfl, hA, q⟩ := h
    refine ⟨_, pss_cons (ps_set (i := 6) scIsReached.nd rfl (.inl rfl) (pe_kn GI hr (by rfl) (pa_cons (pv 0) (pa_cons (pv 1) (pa_cons (pv 4) pa_nil)))))
      (pss_cons (ps_set (i := 7) scIsReached.nd rfl (.inl rfl) (pe_ifExp (pt_val (pv 5)) pe_no (pe_kn GF hr (by rfl) (pa_cons (pv 6) pa_nil))))
      (pss_one (ps_ret (pe_kn GA hr (by rfl) (pa_cons (pv 3) (pa_cons (pe_ix ix_list (pv 7) (pv 2) (fun _ _ => rfl)) pa_nil)))))), ?_⟩
    obtain ⟨y, hy⟩ := hA.inp
    refine ⟨_, rfl, _, rfl, _, rfl, a, S, ic, y, some b, rfl, hA.sh, hA.ok.len, hy, fun H1 o s1 no ho => ?_⟩
    refine ⟨_, rfl, false, rfl, iteF ?_⟩
    refine ⟨_, rfl, o, _, rfl, ho, hA.ok.setIn ic _, hA.tb.ext s1, fun H2 fx e2 t2 hf => ?_⟩
    have hl : c < (lfpL (setIn S ic (some b))).length := by rw [lfpL_len, setIn_len]; exact hA.cl
    refine ⟨_, rfl, _, rfl, _, rfl, ams_at hf hl ?_⟩
    rw [ans_eq hA.cl]
    exact ⟨some g, _, rfl, q H2 ((Xt.of_same s1).trans e2) t2⟩
end
end CW
namespace CW
open PySem PySem.Spec PyProof.Rows L2 CS
section
variable {P : Program} {w : World} {K : PySem.W.Frag} {mg : Str → Option Value} {base : Heap} {k : Nat}
/-! ### sought, need -/
abbrev sSought : Stmt := topS 39
abbrev nmSo : List Str := ["flat", "input_cell", "cell", "goal", "greatest", "low", "high", "middle"]
theorem scSought : FnScope nmSo ["flat", "input_cell", "cell", "goal", "greatest"] (defScope sSought) := ⟨rfl, rfl, rfl, by decide +kernel, rfl, by decide +kernel, by decide +kernel⟩
def spSought (Pt : Addr) : Sp := fun vs H Q _ => ∃ (a : Addr) (S : List Fm) (ic c g : Nat), vs = [.ref a, .int (ic : Int), .int (c : Int), .int (g : Int), .bl false] ∧ Asked Pt H a S ic c ∧
  ∀ H' r, Xt H H' → LamX.Tabs [(Pt, qLam)] H' → NeedIs S ic c g r → Q (opV r) H'
theorem kn_sought {Pt : Addr} (D : Stands K mg "sought" sSought) (GR : Kn P w K mg base k "is_reached" ["flat", "input_cell", "cell", "goal", "amount", "greatest"] (spIsReached Pt)) (ml : mg "len" = none) :
    Kn P w K mg base (k + 1) "sought" ["flat", "input_cell", "cell", "goal", "greatest"] (spSought Pt) := by
  refine kn_of D scSought (fun _ _ _ _ _ _ us hl => match us, hl with | [_, _, _, _, _], _ => rfl) (fun vs H Q E h => ?_) (fun f cdv A outer s H vs Q E hr h => ?_)
  · obtain ⟨a, S, ic, c, g, rfl, _⟩ := h
    rfl
  · obtain ⟨a, S, ic, c, g, rfl, hA, q⟩ := h
    refine ⟨_, pss_cons (ps_par (i := 5) (j := 6) rfl scSought.nd rfl rfl (by decide) rfl rfl (pa_cons (pe_un un_neg pe_int) (pa_cons (pe_op op_add pe_int (pe_op op_mul pe_int (pe_callB call_len_seq (by rfl) ml PySem.boot_len (pa_cons (pv 0) pa_nil)))) pa_nil)) rfl)
      (pss_cons (ps_if (pt_not (pt_val (pe_kn GR hr (by rfl) (pa_cons (pv 0) (pa_cons (pv 1) (pa_cons (pv 2) (pa_cons (pv 3) (pa_cons (pv 6) (pa_cons (pv 4) pa_nil))))))))) (pss_one (ps_ret pe_non)) pss_nil)
      (pss_cons (ps_while PassesOwn.never (pt_cmpR op_gt (pe_op op_sub (pv 6) (pv 5)) pe_int (nomark _))
        (pss_cons (ps_set (i := 7) scSought.nd rfl (.inl rfl) (pe_op op_fdiv (pe_op op_add (pv 5) (pv 6)) pe_int))
        (pss_one (ps_if (pt_val (pe_kn GR hr (by rfl) (pa_cons (pv 0) (pa_cons (pv 1) (pa_cons (pv 2) (pa_cons (pv 3) (pa_cons (pv 7) (pa_cons (pv 4) pa_nil))))))))
          (pss_one (ps_set (i := 6) scSought.nd rfl (.inl rfl) (pv 7))) (pss_one (ps_set (i := 5) scSought.nd rfl (.inl rfl) (pv 7)))))))
      (pss_one (ps_ret (pv 6))))), ?_⟩
    obtain ⟨vs, hv, hp⟩ := id hA.sh
    have hvl : vs.length = S.length := Paired.length hp
    have hlen := hA.ok.len
    refine ⟨1, rfl, .ref a, rfl, a, vs, rfl, .inl (SqL.of hv), ?_⟩
    rw [hvl]
    have eH : (1000 : Int) + 2000 * (S.length : Int) = ((1000 + 2000 * S.length : Nat) : Int) := by omega
    refine ⟨2000, (S.length : Int), rfl, rfl, .inl ⟨by omega, by omega⟩, 1000, 2000 * (S.length : Int), rfl, rfl, .int (-1), .int ((1000 + 2000 * S.length : Nat) : Int), congrArg (fun z => [V.int (-1), V.int z]) eH, ?_⟩
    refine ⟨_, rfl, _, rfl, _, rfl, _, rfl, _, rfl, _, rfl, a, S, ic, c, g, 1000 + 2000 * S.length, rfl, hA, fun H1 e1 t1 => ?_⟩
    refine ⟨_, rfl, ?_⟩
    refine ite2 (fun z => ?_) fun z => ?_
    · have z : ¬ leA (some g) (ans S ic c (1000 + 2000 * S.length)) := by simpa using z
      exact q H1 none e1 t1 z
    · have z : leA (some g) (ans S ic c (1000 + 2000 * S.length)) := by simpa using z
      refine ⟨fun m σ H' => ∃ (lo : Int) (hi : Nat) (y7 : Option V), σ = [some (.ref a), some (.int (ic : Int)), some (.int (c : Int)), some (.int (g : Int)), some (.bl false), some (.int lo), some (.int (hi : Int)), y7] ∧ Xt H H' ∧ LamX.Tabs [(Pt, qLam)] H' ∧
          -1 ≤ lo ∧ lo < (hi : Int) ∧ m = ((hi : Int) - lo).toNat ∧ Reach S ic c g hi ∧ (∀ b : Nat, (b : Int) ≤ lo → ¬ Reach S ic c g b),
        ⟨_, -1, 1000 + 2000 * S.length, none, rfl, e1, t1, by omega, by omega, rfl, z, fun b hb => by omega⟩, fun m σ H' hW => ?_⟩
      obtain ⟨lo, hi, y7, rfl, e2, t2, h1, h2, hm, h3, h4⟩ := hW
      refine ⟨_, rfl, _, rfl, _, _, rfl, rfl, _, 1, rfl, rfl, _, rfl, ite2 (fun cc => ?_) fun cc => ?_⟩
      · have cc : 1 < (hi : Int) - lo := of_decide_eq_true cc
        refine ⟨_, fun σ' H' z => z, ?_⟩
        refine ⟨_, rfl, _, rfl, _, _, rfl, rfl, _, 2, rfl, rfl, ⟨by decide, by decide⟩, ?_⟩
        obtain ⟨mid, hmid⟩ : ∃ mid : Nat, (lo + (hi : Int)) / 2 = (mid : Int) := ⟨((lo + (hi : Int)) / 2).toNat, by omega⟩
        have h7 := congrArg (fun z => some (some (V.int z))) hmid
        refine ⟨_, rfl, _, rfl, _, rfl, _, rfl, .int (mid : Int), h7, _, rfl, a, S, ic, c, g, mid, rfl, hA.xt e2 t2, fun H3 e3 t3 => ⟨_, rfl, ite2 (fun z3 => ?_) fun z3 => ?_⟩⟩
        · refine ⟨.int (mid : Int), h7, _, ?_, lo, mid, _, rfl, e2.trans e3, t3, h1, by omega, rfl, (by have r2 : leA (some g) (ans S ic c mid) := of_decide_eq_true z3; exact r2), h4⟩
          omega
        · refine ⟨.int (mid : Int), h7, _, ?_, (mid : Int), hi, _, rfl, e2.trans e3, t3, by omega, by omega, rfl, h3, fun b hb r => z3 (by have r2 : leA (some g) (ans S ic c mid) := reach_mono (by omega) r; exact decide_eq_true r2)⟩
          omega
      · have cc : ¬ 1 < (hi : Int) - lo := fun q => cc (decide_eq_true q)
        exact ⟨_, rfl, q H' (some hi) e2 t2 ⟨h3, fun b hb => h4 b (by omega)⟩⟩
abbrev sNeed : Stmt := topS 40
theorem scNeed : FnScope ["flat", "input_cell", "cell", "goal"] ["flat", "input_cell", "cell", "goal"] (defScope sNeed) := ⟨rfl, rfl, rfl, by decide +kernel, rfl, by decide +kernel, by decide +kernel⟩
def spNeed (Pt : Addr) : Sp := fun vs H Q _ => ∃ (a : Addr) (S : List Fm) (ic c g : Nat), vs = [.ref a, .int (ic : Int), .int (c : Int), .int (g : Int)] ∧ Asked Pt H a S ic c ∧
  ∀ H' r, Xt H H' → LamX.Tabs [(Pt, qLam)] H' → NeedIs S ic c g r → Q (opV r) H'
theorem kn_need {Pt : Addr} (D : Stands K mg "need" sNeed) (GS : Kn P w K mg base k "sought" ["flat", "input_cell", "cell", "goal", "greatest"] (spSought Pt)) :
    KnK P w K mg base (k + 1) "need" ["flat", "input_cell", "cell", "goal"] 2 ["cell", "goal"] (spNeed Pt) := by
  refine kn_ofK D scNeed (fun _ _ _ _ _ _ us ws h1 h2 => match us, h1, ws, h2 with | [_, _], _, [_, _], _ => rfl) (fun vs H Q E h => ?_) (fun f cdv A outer s H vs Q E hr h => ?_)
  · obtain ⟨a, S, ic, c, g, rfl, _⟩ := h
    rfl
  · obtain ⟨a, S, ic, c, g, rfl, hA, q⟩ := h
    refine ⟨_, pss_one (ps_ret (pe_kn GS hr (by rfl) (pa_cons (pv 0) (pa_cons (pv 1) (pa_cons (pv 2) (pa_cons (pv 3) (pa_cons pe_bl pa_nil))))))), ?_⟩
    exact ⟨_, rfl, _, rfl, _, rfl, _, rfl, a, S, ic, c, g, rfl, hA, q⟩
/-! ### answers -/
def PrAt (H : Hp) (v : V) (p : Nat × Am) : Prop := ∃ t, v = .ref t ∧ H t = some (.tup [.int (p.1 : Int), amV p.2])
theorem PrAt.xt {H H' : Hp} (e : Xt H H') {v : V} {p : Nat × Am} (h : PrAt H v p) : PrAt H' v p := by
  obtain ⟨t, h1, h2⟩ := h
  exact ⟨t, h1, e.tup h2⟩
abbrev sAnswers : Stmt := topS 41
theorem scAnswers : FnScope ["flat", "input_cell", "cell", "most", "found", "amount", "told"] ["flat", "input_cell", "cell", "most"] (defScope sAnswers) := ⟨rfl, rfl, rfl, by decide +kernel, rfl, by decide +kernel, by decide +kernel⟩
def spAnswers (Pt : Addr) : Sp := fun vs H Q _ => ∃ (a : Addr) (S : List Fm) (ic c n : Nat), vs = [.ref a, .int (ic : Int), .int (c : Int), .int (n : Int)] ∧ Asked Pt H a S ic c ∧ n ≤ 1000 ∧
  ∀ H' o ys, Xt H H' → LamX.Tabs [(Pt, qLam)] H' → H' o = some (.lst ys) → Paired (PrAt H') ys (answersTo (ans S ic c) (n + 1)) → Q (.ref o) H'
theorem kn_answers {Pt : Addr} (D : Stands K mg "answers" sAnswers) (GI : Kn P w K mg base k "set_input" ["flat", "cell", "amount"] spSetInput) (GF : Kn P w K mg base k "flat_least" ["flat"] (spFlatLeast Pt)) (mr : mg "range" = none) :
    KnK P w K mg base (k + 1) "answers" ["flat", "input_cell", "cell", "most"] 2 ["cell", "most"] (spAnswers Pt) := by
  refine kn_ofK D scAnswers (fun _ _ _ _ _ _ us ws h1 h2 => match us, h1, ws, h2 with | [_, _], _, [_, _], _ => rfl) (fun vs H Q E h => ?_) (fun f cdv A outer s H vs Q E hr h => ?_)
  · obtain ⟨a, S, ic, c, n, rfl, _⟩ := h
    rfl
  · obtain ⟨a, S, ic, c, n, rfl, hA, hn, q⟩ := h
    refine ⟨_, pss_cons (ps_set (i := 4) scAnswers.nd rfl (.inl rfl) (pe_lst pa_nil))
      (pss_cons (ps_for PassesOwn.never rfl (pi_range1 (by rfl) mr (pa_cons (pe_op op_add (pv 3) pe_int) pa_nil)) (pg_name (i := 5) scAnswers.nd rfl (.inl rfl))
        (pss_cons (ps_set (i := 6) scAnswers.nd rfl (.inl rfl) (pe_ix ix_list (pe_kn GF hr (by rfl) (pa_cons (pe_kn GI hr (by rfl) (pa_cons (pv 0) (pa_cons (pv 1) (pa_cons (pv 5) pa_nil)))) pa_nil)) (pv 2) (fun _ _ => rfl)))
        (pss_one (ps_if (PW.pt (pw_or (pt_not (pt_truth (pv 4) (fun _ => rfl))) (pw_or1 (pt_cmpR op_ne (pe_ix ix_tup (pe_ix ix_list (pv 4) (pe_un un_neg pe_int) (fun _ _ => rfl)) pe_int (fun _ _ => rfl)) (pv 6) (nomark _)))))
          (pss_one (ps_expr (pe_bm PySem.F.plainAttrs_list PySem.F.slot_list_append PySem.F.type_list_append mt_append (pv 4) (pa_cons (pe_tup (pa_cons (pv 5) (pa_cons (pv 6) pa_nil))) pa_nil)))) pss_nil))))
      (pss_one (ps_ret (pv 4)))), ?_⟩
    obtain ⟨y, hy⟩ := hA.inp
    refine ⟨Nat.zero_le _, fun o no => ?_⟩
    have s0 : Same H (upd H o (.lst [])) := same_upd no
    refine ⟨_, rfl, (n : Int), 1, rfl, rfl, (n : Int) + 1, rfl, by omega, by omega, ?_⟩
    have eN : ((n : Int) + 1).toNat = n + 1 := by omega
    rw [eN]
    refine for_it walk_range0 (fun i σ H' => ∃ (ys : List V) (y5 y6 : Option V), σ = [some (.ref a), some (.int (ic : Int)), some (.int (c : Int)), some (.int (n : Int)), some (.ref o), y5, y6] ∧ Xt H H' ∧ LamX.Tabs [(Pt, qLam)] H' ∧ H' o = some (.lst ys) ∧ Paired (PrAt (hide o H')) ys (answersTo (ans S ic c) i))
      ⟨[], none, none, rfl, Xt.of_same s0, hA.tb.ext s0, upd_same, .nil⟩ (fun i σ H' _ _ => trivial) (fun i v σ H1 H2 hi hW hY => ?_) (fun σ H' hW => ?_)
    · obtain ⟨ys, y5, y6, rfl, e1, t1, ho, hys⟩ := hW
      obtain ⟨rfl, rfl⟩ := hY
      have hyl : ys.length ≤ i := by rw [Paired.length hys]; exact answersTo_len _ _
      refine ⟨_, rfl, _, rfl, _, rfl, a, S, ic, y, some i, rfl, hA.sh.xt e1, hA.ok.len, hy, fun H3 os s3 nos hos => ?_⟩
      refine ⟨os, _, rfl, hos, hA.ok.setIn ic _, t1.ext s3, fun H4 fx e4 t4 hf => ?_⟩
      have hl : c < (lfpL (setIn S ic (some i))).length := by rw [lfpL_len, setIn_len]; exact hA.cl
      refine ⟨_, rfl, ams_at hf hl ?_⟩
      rw [ans_eq hA.cl]
      have e24 : Xt H2 H4 := (Xt.of_same s3).trans e4
      have ho4 : H4 o = some (.lst ys) := e24.lst ho
      have hys4 : Paired (PrAt (hide o H4)) ys (answersTo (ans S ic c) i) := Paired.mapP hys fun _ _ z => z.xt (hide_xt e24)
      -- the step is told
      have put : stepB (ans S ic c) i = true → tDrop (tBM K "list" rAppend (tVar 4) (tCons (tTup (tCons (tVar 5) (tCons (tVar 6) tNil))) tNil))
          { nx := fun σ H' => ∃ (ys : List V) (y5 y6 : Option V), σ = [some (.ref a), some (.int (ic : Int)), some (.int (c : Int)), some (.int (n : Int)), some (.ref o), y5, y6] ∧ Xt H H' ∧ LamX.Tabs [(Pt, qLam)] H' ∧ H' o = some (.lst ys) ∧ Paired (PrAt (hide o H')) ys (answersTo (ans S ic c) (i + 1)), rt := Q }
          [some (.ref a), some (.int (ic : Int)), some (.int (c : Int)), some (.int (n : Int)), some (.ref o), some (.int (i : Int)), some (amV (ans S ic c i))] H4 := fun hst => by
        refine ⟨.ref o, rfl, .inl ⟨rfl, _, SqL.of ho4⟩, _, rfl, _, rfl, by show 2 ≤ sizeLine; decide, fun t nt => ?_⟩
        have st := same_upd (o := .tup [.int (i : Int), amV (ans S ic c i)]) nt
        refine ⟨o, ys, .ref t, rfl, rfl, st _ _ ho4, szl (by omega), ?_⟩
        refine ⟨_, _, _, rfl, xt_mut ((e1.trans e24).trans (Xt.of_same st)) no, tabs_upd (t4.ext st) (st _ _ ho4), upd_same, ?_⟩
        rw [hide_upd, answersTo_succ, if_pos hst]
        exact paired_app (Paired.mapP hys4 fun _ _ z => z.xt (hide_xt (Xt.of_same st))) ⟨t, rfl, hide_get upd_same (ne_of_none ho4 nt).symm⟩
      refine ⟨_, rfl, !ys.isEmpty, .inl ⟨ys, SqL.of ho4, rfl⟩, ?_⟩
      cases i with
      | zero =>
        cases ys with
        | cons y ys => exact absurd hyl (by show ¬ ys.length + 1 ≤ 0; omega)
        | nil => exact iteT (iteT (put (stepB_true.mpr (.inl rfl))))
      | succ i =>
        obtain ⟨l, b, el⟩ := answersTo_last (ans S ic c) i
        rw [el] at hys4
        have hpos : ys.length = l.length + 1 := by rw [Paired.length hys4, List.length_append]; rfl
        obtain ⟨yv, hyv, t, rfl, ht⟩ := paired_get' hys4 (show (l ++ [(b, ans S ic c i)])[l.length]? = some (b, ans S ic c i) by simp)
        have ht4 : H4 t = some (.tup [.int (b : Int), amV (ans S ic c i)]) := hide_same _ _ ht
        have eys : ∃ ys', ys = ys' ++ [.ref t] := by
          refine ⟨ys.take l.length, ?_⟩
          have e := List.take_succ (l := ys) (i := l.length)
          rw [hyv, ← hpos, List.take_length] at e
          exact e
        obtain ⟨ys', eys⟩ := eys
        have ene : ys.isEmpty = false := by
          rw [eys]
          cases ys' <;> rfl
        rw [ene]
        refine iteFd rfl ?_
        refine ⟨_, rfl, 1, rfl, o, ys, -1, .ref t, rfl, rfl, SqL.of ho4, by rw [eys]; exact atI_last ys' _, t, _, 1, _, rfl, rfl, SqT.of ht4, atI_nat (j := 1) rfl, _, rfl, scal_am _ _, _, rfl, ?_⟩
        rw [amV_eq]
        have est : stepB (ans S ic c) (i + 1) = !decide (ans S ic c i = ans S ic c (i + 1)) := by
          rw [Bool.eq_iff_iff, stepB_true]
          simp only [Nat.add_sub_cancel, Bool.not_eq_true', decide_eq_false_iff_not]
          constructor
          · rintro (z | z)
            · omega
            · exact fun e => z e.symm
          · exact fun z => .inr fun e => z e.symm
        rw [← est]
        refine ite2 (fun z => put z) fun z => ?_
        refine ⟨ys, _, _, rfl, e1.trans e24, t4, ho4, ?_⟩
        rw [answersTo_succ, if_neg z, el]
        exact hys4
    · obtain ⟨ys, y5, y6, rfl, e1, t1, ho, hys⟩ := hW
      exact ⟨_, rfl, q H' o ys e1 t1 ho (Paired.mapP hys fun _ _ z => z.xt (Xt.of_same hide_same))⟩
/-! ### is_missed, miss_of -/
abbrev sIsMissed : Stmt := topS 42
theorem scIsMissed : FnScope ["flat", "input_cell", "cell", "goal", "amount", "x"] ["flat", "input_cell", "cell", "goal", "amount", "x"] (defScope sIsMissed) := ⟨rfl, rfl, rfl, by decide +kernel, rfl, by decide +kernel, by decide +kernel⟩
def spIsMissed (Pt : Addr) : Sp := fun vs H Q _ => ∃ (a l : Addr) (S : List Fm) (ic c g b : Nat) (x : List Am), vs = [.ref a, .int (ic : Int), .int (c : Int), .int (g : Int), .int (b : Int), .ref l] ∧ Asked Pt H a S ic c ∧ AmsAt H l x ∧ x.length = S.length ∧
  ∀ H', Same H H' → Q (.bl (allB (lift1 (setIn S ic (some b)) x) x && !decide (leA (some g) (at_ x c)))) H'
theorem kn_is_missed {Pt : Addr} (D : Stands K mg "is_missed" sIsMissed) (GI : Kn P w K mg base k "set_input" ["flat", "cell", "amount"] spSetInput) (GH : Kn P w K mg base k "is_high" ["flat", "x"] spIsHigh) (GA : Kn P w K mg base k "at_most" ["a", "b"] spAtMost) :
    KnK P w K mg base (k + 1) "is_missed" ["flat", "input_cell", "cell", "goal", "amount", "x"] 2 ["cell", "goal", "amount", "x"] (spIsMissed Pt) := by
  refine kn_ofK D scIsMissed (fun _ _ _ _ _ _ us ws h1 h2 => match us, h1, ws, h2 with | [_, _], _, [_, _, _, _], _ => rfl) (fun vs H Q E h => ?_) (fun f cdv A outer s H vs Q E hr h => ?_)
  · obtain ⟨a, l, S, ic, c, g, b, x, rfl, _⟩ := h
    rfl
  · obtain ⟨a, l, S, ic, c, g, b, x, rfl, hA, hx, hxl, q⟩ := h
    refine ⟨_, pss_one (ps_ret (pe_and (pe_kn GH hr (by rfl) (pa_cons (pe_kn GI hr (by rfl) (pa_cons (pv 0) (pa_cons (pv 1) (pa_cons (pv 4) pa_nil)))) (pa_cons (pv 5) pa_nil)))
      (pe_one (pe_not (pe_kn GA hr (by rfl) (pa_cons (pv 3) (pa_cons (pe_ix ix_list (pv 5) (pv 2) (fun _ _ => rfl)) pa_nil))))))), ?_⟩
    obtain ⟨y, hy⟩ := hA.inp
    refine ⟨_, rfl, _, rfl, _, rfl, a, S, ic, y, some b, rfl, hA.sh, hA.ok.len, hy, fun H1 o s1 no ho => ?_⟩
    refine ⟨_, rfl, o, l, _, x, rfl, ho, hA.ok.setIn ic _, hx.xt (Xt.of_same s1), by rw [setIn_len, hxl], fun H2 s2 => ?_⟩
    have q2 := q H2 (s1.trans s2)
    refine ⟨_, rfl, ite2 (fun z => ?_) fun z => ?_⟩
    · rw [z, Bool.true_and] at q2
      refine ⟨_, rfl, _, rfl, _, rfl, ams_at (hx.xt (Xt.of_same (s1.trans s2))) (by rw [hxl]; exact hA.cl) ⟨some g, _, rfl, _, rfl, q2⟩⟩
    · rw [Bool.not_eq_true] at z
      rw [z, Bool.false_and] at q2
      exact q2
abbrev sMissOf : Stmt := topS 43
theorem scMissOf : FnScope ["flat", "input_cell", "cell", "goal", "amount", "x"] ["flat", "input_cell", "cell", "goal", "amount"] (defScope sMissOf) := ⟨rfl, rfl, rfl, by decide +kernel, rfl, by decide +kernel, by decide +kernel⟩
def spMissOf (Pt : Addr) : Sp := fun vs H Q _ => ∃ (a : Addr) (S : List Fm) (ic c g b : Nat), vs = [.ref a, .int (ic : Int), .int (c : Int), .int (g : Int), .int (b : Int)] ∧ Asked Pt H a S ic c ∧
  ∀ H' f, Xt H H' → LamX.Tabs [(Pt, qLam)] H' → AmsAt H' f (lfpL (setIn S ic (some b))) → Q (if leA (some g) (ans S ic c b) then .non else .ref f) H'
theorem kn_miss_of {Pt : Addr} (D : Stands K mg "miss_of" sMissOf) (GI : Kn P w K mg base k "set_input" ["flat", "cell", "amount"] spSetInput) (GF : Kn P w K mg base k "flat_least" ["flat"] (spFlatLeast Pt)) (GA : Kn P w K mg base k "at_most" ["a", "b"] spAtMost) :
    KnK P w K mg base (k + 1) "miss_of" ["flat", "input_cell", "cell", "goal", "amount"] 2 ["cell", "goal", "amount"] (spMissOf Pt) := by
  refine kn_ofK D scMissOf (fun _ _ _ _ _ _ us ws h1 h2 => match us, h1, ws, h2 with | [_, _], _, [_, _, _], _ => rfl) (fun vs H Q E h => ?_) (fun f cdv A outer s H vs Q E hr h => ?_)
  · obtain ⟨a, S, ic, c, g, b, rfl, _⟩ := h
    rfl
  · obtain ⟨a, S, ic, c, g, b, rfl, hA, q⟩ := h
    refine ⟨_, pss_cons (ps_set (i := 5) scMissOf.nd rfl (.inl rfl) (pe_kn GF hr (by rfl) (pa_cons (pe_kn GI hr (by rfl) (pa_cons (pv 0) (pa_cons (pv 1) (pa_cons (pv 4) pa_nil)))) pa_nil)))
      (pss_one (ps_ret (pe_ifExp (pt_val (pe_kn GA hr (by rfl) (pa_cons (pv 3) (pa_cons (pe_ix ix_list (pv 5) (pv 2) (fun _ _ => rfl)) pa_nil)))) pe_non (pv 5)))), ?_⟩
    obtain ⟨y, hy⟩ := hA.inp
    refine ⟨_, rfl, _, rfl, _, rfl, a, S, ic, y, some b, rfl, hA.sh, hA.ok.len, hy, fun H1 o s1 no ho => ?_⟩
    refine ⟨o, _, rfl, ho, hA.ok.setIn ic _, hA.tb.ext s1, fun H2 fx e2 t2 hf => ?_⟩
    have hl : c < (lfpL (setIn S ic (some b))).length := by rw [lfpL_len, setIn_len]; exact hA.cl
    refine ⟨_, rfl, _, rfl, _, rfl, ams_at hf hl ?_⟩
    rw [ans_eq hA.cl]
    have q2 := q H2 fx ((Xt.of_same s1).trans e2) t2 hf
    refine ⟨some g, _, rfl, _, rfl, ite2 (fun z => ?_) fun z => ?_⟩
    · rw [if_pos (of_decide_eq_true z)] at q2
      exact q2
    · rw [if_neg fun n => z (decide_eq_true n)] at q2
      exact ⟨_, rfl, q2⟩
end
end CW
namespace CW
open PySem PySem.Spec PyProof.Rows L2 CS
theorem SameBut.refl (D : Addr) (H : Hp) : SameBut D H H := fun _ _ _ h => h
theorem SameBut.trans {D : Addr} {H1 H2 H3 : Hp} (a : SameBut D H1 H2) (b : SameBut D H2 H3) : SameBut D H1 H3 := fun x o n h => b x o n (a x o n h)
theorem SameBut.hide {D : Addr} {H H' : Hp} (e : SameBut D H H') : Same (hide D H) (hide D H') := fun b o h => by
  by_cases eb : b = D
  · subst eb
    have h : (if b = b then none else H b) = some o := h
    rw [if_pos rfl] at h
    cases h
  · rw [hide_ne eb] at h ⊢
    exact e b o eb h
/-- a new object stored anew -/
theorem SameBut.mut {D p : Addr} {H H' : Hp} {o : HO} (e : SameBut D H H') (h : H p = none) : SameBut D H (L2.upd H' p o) := fun b u n hb => by
  rw [upd_ne (ne_of_none hb h)]
  exact e b u n hb
theorem SameBut.none {D p : Addr} {H H' : Hp} (e : SameBut D H H') (n : p ≠ D) (h : H' p = none) : H p = none := by
  cases q : H p with
  | none => rfl
  | some o =>
    rw [e p o n q] at h
    cases h
/-- the stream of draws: at st, its script at sc -/
structure Strm (sc st : Addr) (ns : List Int) (H : Hp) : Prop where
  s1 : H sc = some (.lst (ns.map V.int))
  ne : sc ≠ st
  s2 : ∃ (p : Nat) (r : Int), H st = some (.lst [.ref sc, .int (p : Int), .int r])
theorem Strm.some {sc st : Addr} {ns : List Int} {H : Hp} (S : Strm sc st ns H) : H st ≠ none := by
  obtain ⟨p, r, h⟩ := S.s2
  rw [h]
  exact fun z => nomatch z
theorem Strm.fresh {sc st : Addr} {ns : List Int} {H : Hp} (S : Strm sc st ns H) {p : Addr} (h : H p = none) : p ≠ st ∧ p ≠ sc := by
  refine ⟨fun z => ?_, fun z => ?_⟩
  · rw [z] at h
    exact S.some h
  · rw [z, S.s1] at h
    cases h
theorem Strm.same {sc st : Addr} {ns : List Int} {H H' : Hp} (S : Strm sc st ns H) (e : Same H H') : Strm sc st ns H' := by
  obtain ⟨p, r, h⟩ := S.s2
  exact ⟨e _ _ S.s1, S.ne, p, r, e _ _ h⟩
theorem Strm.xt {sc st : Addr} {ns : List Int} {H H' : Hp} (S : Strm sc st ns H) (e : Xt H H') : Strm sc st ns H' := by
  obtain ⟨p, r, h⟩ := S.s2
  exact ⟨e.lst S.s1, S.ne, p, r, e.lst h⟩
theorem Strm.upd {sc st p : Addr} {ns : List Int} {H : Hp} {o : HO} (S : Strm sc st ns H) (h1 : p ≠ st) (h2 : p ≠ sc) : Strm sc st ns (L2.upd H p o) := by
  obtain ⟨q, r, h⟩ := S.s2
  exact ⟨by rw [upd_ne h2.symm]; exact S.s1, S.ne, q, r, by rw [upd_ne h1.symm]; exact h⟩
/-- lc_rel where the turns draw -/
theorem lc_relS {J : It} {n : Nat} {G : Hp → Prop} {Y : Nat → Hp → V → Hp → Prop} (w : Walk J n G Y) {g : TG} {te : TE} {vs : List Nat} {σ : L2.St} {H1 : Hp} {D : Addr} {Qd : Hp → Prop} (hD : H1 D = none) {sc st : Addr} {ns : List Int} (hst : Strm sc st ns H1) (R : Nat → V → Hp → Prop)
    (hR : ∀ i y H H', Same (hide st (hide D H)) (hide st (hide D H')) → R i y H → R i y H') (hG : ∀ H', SameBut st H1 H' → G H') (hn : n ≤ 90000)
    (turn : ∀ i x H H', i < n → SameBut st H1 H → Strm sc st ns H → (∃ ys, H D = some (.lst ys)) → Y i H x H' → ∀ Q : VK, (∀ y H4, SameBut st H H4 → Strm sc st ns H4 → R i y H4 → Q y H4) → g x (wipe σ vs) H' fun σ2 H2 => wipe σ2 vs = wipe σ vs ∧ te σ2 H2 Q)
    (hd : ∀ H' ys, SameBut st H1 H' → Strm sc st ns H' → H' D = some (.lst ys) → ys.length = n → (∀ i y, ys[i]? = some y → R i y H') → Qd H') :
    ∃ W : Nat → Nat → Hp → Prop, (∃ m, W 0 m (upd H1 D (.lst []))) ∧ ∀ i m H, W i m H →
      (J.stop i H ∧ Qd H) ∨ (J.go i H ∧ ∃ Nx : Hp → Prop, (∀ H', Nx H' → ∃ m', m' < m ∧ W (i + 1) m' H') ∧ ∀ x H', J.yld i H x H' → g x (wipe σ vs) H' fun σ2 H2 => wipe σ2 vs = wipe σ vs ∧ tYes σ2 H2 fun b H3 =>
        if b = true then te σ2 H3 fun y H4 => ∃ acc, H4 D = some (.lst acc) ∧ acc.length < sizeLine ∧ Nx (upd H4 D (.lst (acc ++ [y]))) else Nx H3) := by
  obtain ⟨nDst, nDsc⟩ := hst.fresh hD
  refine lc_it w (fun i H => SameBut st H1 H ∧ Strm sc st ns H ∧ ∃ ys, H D = some (.lst ys) ∧ ys.length = i ∧ ∀ j y, ys[j]? = some y → R j y H) ⟨SameBut.of (same_upd hD), hst.upd nDst nDsc, [], upd_same, rfl, fun j y h => nomatch h⟩ (fun i H _ h => hG H h.1)
    (fun i x H H' hi h y => ?_) fun H ⟨h1, hs, ys, h2, h3, h4⟩ => hd H ys h1 hs h2 h3 h4
  obtain ⟨h1, hs, ys, h2, h3, h4⟩ := h
  refine turn i x H H' hi h1 hs ⟨ys, h2⟩ y _ fun z H4 e hs4 r => ?_
  have nb : Same (hide st (hide D H)) (hide st (hide D (upd H4 D (.lst (ys ++ [z]))))) := by
    rw [hide_upd]
    refine SameBut.hide (D := st) fun b u n hb => ?_
    by_cases eb : b = D
    · subst eb
      have hb : (if b = b then none else H b) = some u := hb
      rw [if_pos rfl] at hb
      cases hb
    · rw [hide_ne eb] at hb ⊢
      exact e b u n hb
  refine ⟨ys, e D _ nDst h2, szl (by omega), (h1.trans e).mut hD, hs4.upd nDst nDsc, ys ++ [z], upd_same, by rw [List.length_append, h3]; rfl, fun j u hu => ?_⟩
  by_cases hj : j < ys.length
  · rw [List.getElem?_append_left hj] at hu
    exact hR j u H _ nb (h4 j u hu)
  · have ej : j = ys.length := by
      have := (List.getElem?_eq_some_iff.mp hu).1
      rw [List.length_append] at this
      have : j < ys.length + 1 := this
      omega
    subst ej
    rw [List.getElem?_append_right (Nat.le_refl _), Nat.sub_self] at hu
    have hu : z = u := Option.some.inj hu
    subst hu
    rw [h3]
    refine hR i z H4 _ ?_ r
    rw [hide_upd]
    exact Same.refl _
section
variable {P : Program} {w : World} {K : PySem.W.Frag} {mg : Str → Option Value} {base : Heap} {k : Nat}
/-! ### _law_draw -/
def rIntL : List V → Hp → VK → Prop := fun xs H Q => (∃ i, xs = [.int i] ∧ Q (.int i) H) ∨ ∃ k, xs = [.bl k] ∧ Q (.int (if k then 1 else 0)) H
def tMod : R2 := rI (fun _ j => 0 < j) fun i j => .int (i % j)
def tMul : R2 := rI CMul fun i j => .int (i * j)
def tAdd : R2 := rI0 fun i j => .int (i + j)
def drEnd (K : PySem.W.Frag) : TS := tSeq (tAsg (tOp tMod (tCB rIntL (tCons (tOp (rIxL K) (tVar 0) (tC (.int 2))) tNil)) (tVar 1)) (gName 5))
  (tSeq (tAsg (tOp (rI CDiv fun i j => .int (i / j)) (tCB rIntL (tCons (tOp (rIxL K) (tVar 0) (tC (.int 2))) tNil)) (tVar 1)) (gSub (tVar 0) (tC (.int 2)) rSetL)) (tRet (tVar 5)))
def drMix2 (K : PySem.W.Frag) : TS := tIfS (tTest (tOp (rI0 fun i j => .bl (decide (i < j))) (tVar 2) (tOp (rI CPow fun i j => .int (i ^ j.toNat)) (tC (.int 10)) (tC (.int 18)))))
    (tSeq (tAsg (tOp tMod (tCB rIntL (tCons (tOp tAdd (tOp tMul (tVar 2) (tC (.int 48271))) (tOp tMul (tOp (rIxL K) (tVar 0) (tC (.int 1))) (tC (.int 69621)))) tNil)) (tC (.int 2147483647))) (gName 3))
    (tSeq (tAsg (tOp tMod (tCB rIntL (tCons (tOp tAdd (tOp tAdd (tOp tMul (tVar 3) (tC (.int 40692))) (tOp tMul (tVar 2) (tC (.int 7)))) (tC (.int 5))) tNil)) (tC (.int 2147483399))) (gName 4))
      (tAsg (tOp tAdd (tOp tAdd (tOp tMul (tVar 4) (tC (.int 2147483563))) (tVar 3)) (tOp (rI CPow fun i j => .int (i ^ j.toNat)) (tC (.int 10)) (tC (.int 18)))) (gSub (tVar 0) (tC (.int 2)) rSetL))))
    tNext
def drMix (K : PySem.W.Frag) : TS := tSeq (tAsg (tOp tAdd (tOp (rIxL K) (tVar 0) (tC (.int 1))) (tC (.int 1))) (gSub (tVar 0) (tC (.int 1)) rSetL))
  (tSeq (tAsg (tVar 2) (gSub (tVar 0) (tC (.int 2)) rSetL))
  (drMix2 K))
abbrev sDraw : Stmt := topS 45
abbrev nmDraw : List Str := ["_law_stream", "_law_many", "_law_cell", "_law_mixed", "_law_other", "_law_value_here"]
theorem scDraw : FnScope nmDraw ["_law_stream", "_law_many"] (defScope sDraw) := ⟨rfl, rfl, rfl, by decide +kernel, rfl, by decide +kernel, by decide +kernel⟩
def spDraw : Sp := fun vs H Q _ => ∃ (sc st : Addr) (ns : List Int) (n : Nat), vs = [.ref st, .int (n : Int)] ∧ Strm sc st ns H ∧ 0 < n ∧ n ≤ 1000 ∧ ∀ H' (d : Nat), SameBut st H H' → Strm sc st ns H' → d < n → Q (.int (d : Int)) H'
theorem kn_draw (D : Stands K mg "_law_draw" sDraw) (ml : mg "len" = none) (mi : mg "int" = none) : Kn P w K mg base (k + 1) "_law_draw" ["_law_stream", "_law_many"] spDraw := by
  refine kn_of D scDraw (fun _ _ _ _ _ _ us hl => match us, hl with | [_, _], _ => rfl) (fun vs H Q E h => ?_) (fun f cdv A outer s H vs Q E hr h => ?_)
  · obtain ⟨sc, st, ns, n, rfl, _⟩ := h
    rfl
  · obtain ⟨sc, st, ns, n, rfl, hS, hn, hn2, q⟩ := h
    refine ⟨_, pss_cons (ps_if (pt_cmpR op_lt (pe_ix ix_list (pv 0) pe_int (fun _ _ => rfl)) (pv 1) (nomark _))
        (pss_cons (ps_set (i := 2) scDraw.nd rfl (.inl rfl) pe_int)
        (pss_cons (ps_if (pt_cmpR op_lt (pe_ix ix_list (pv 0) pe_int (fun _ _ => rfl)) (pe_callB call_len_seq (by rfl) ml PySem.boot_len (pa_cons (pe_ix ix_list (pv 0) pe_int (fun _ _ => rfl)) pa_nil)) (nomark _))
          (pss_one (ps_set (i := 2) scDraw.nd rfl (.inl rfl) (pe_ix ix_list (pe_ix ix_list (pv 0) pe_int (fun _ _ => rfl)) (pe_ix ix_list (pv 0) pe_int (fun _ _ => rfl)) (fun _ _ => rfl)))) pss_nil)
        (pss_cons (ps_asg (pe_op op_add (pe_ix ix_list (pv 0) pe_int (fun _ _ => rfl)) pe_int) (pg_sub (pv 0) pe_int set_list))
        (pss_cons (ps_asg (pv 2) (pg_sub (pv 0) pe_int set_list))
        (pss_one (ps_if (pt_cmpR op_lt (pv 2) (pe_op op_pow pe_int pe_int) (nomark _))
          (pss_cons (ps_set (i := 3) scDraw.nd rfl (.inl rfl) (pe_op op_mod (pe_callTy call_int1 (by rfl) mi (by decide +kernel) (pa_cons (pe_op op_add (pe_op op_mul (pv 2) pe_int) (pe_op op_mul (pe_ix ix_list (pv 0) pe_int (fun _ _ => rfl)) pe_int)) pa_nil)) pe_int))
          (pss_cons (ps_set (i := 4) scDraw.nd rfl (.inl rfl) (pe_op op_mod (pe_callTy call_int1 (by rfl) mi (by decide +kernel) (pa_cons (pe_op op_add (pe_op op_add (pe_op op_mul (pv 3) pe_int) (pe_op op_mul (pv 2) pe_int)) pe_int) pa_nil)) pe_int))
          (pss_one (ps_asg (pe_op op_add (pe_op op_add (pe_op op_mul (pv 4) pe_int) (pv 3)) (pe_op op_pow pe_int pe_int)) (pg_sub (pv 0) pe_int set_list))))) pss_nil)))))) pss_nil)
      (pss_cons (ps_set (i := 5) scDraw.nd rfl (.inl rfl) (pe_op op_mod (pe_callTy call_int1 (by rfl) mi (by decide +kernel) (pa_cons (pe_ix ix_list (pv 0) pe_int (fun _ _ => rfl)) pa_nil)) (pv 1)))
      (pss_cons (ps_asg (pe_op op_fdiv (pe_callTy call_int1 (by rfl) mi (by decide +kernel) (pa_cons (pe_ix ix_list (pv 0) pe_int (fun _ _ => rfl)) pa_nil)) (pv 1)) (pg_sub (pv 0) pe_int set_list))
      (pss_one (ps_ret (pv 5))))), ?_⟩
    have hsc := hS.s1
    have ne := hS.ne
    obtain ⟨p, r, hst⟩ := hS.s2
    have hn0 : (0 : Int) < (n : Int) := by omega
    -- the end
    have fin : ∀ (y2 y3 y4 : Option V) (H' : Hp) (p' : Nat) (r' : Int), SameBut st H H' → H' st = some (.lst [.ref sc, .int (p' : Int), .int r']) →
        drEnd K { nx := fun _ H' => Q .non H', rt := Q } [some (.ref st), some (.int (n : Int)), y2, y3, y4, none] H' := by
      intro y2 y3 y4 H' p' r' e1 h'
      refine ⟨_, rfl, st, _, 2, _, rfl, rfl, SqL.of h', atI_nat (j := 2) rfl, .inl ⟨r', rfl, _, rfl, _, _, rfl, rfl, hn0, ?_⟩⟩
      refine ⟨_, rfl, st, _, 2, _, rfl, rfl, SqL.of h', atI_nat (j := 2) rfl, .inl ⟨r', rfl, _, rfl, _, _, rfl, rfl, ⟨hn0, by omega⟩, ?_⟩⟩
      refine ⟨_, rfl, st, _, 2, 2, rfl, rfl, h', rfl, ?_⟩
      obtain ⟨d, hd⟩ : ∃ d : Nat, r' % (n : Int) = (d : Int) := ⟨(r' % (n : Int)).toNat, (Int.toNat_of_nonneg (Int.emod_nonneg _ (by omega))).symm⟩
      have hlt : d < n := by
        have := Int.emod_lt_of_pos r' hn0
        omega
      refine ⟨.int (d : Int), congrArg (fun z => some (some (V.int z))) hd, q _ d (fun b o nb h => by rw [upd_ne nb]; exact e1 b o nb h) ⟨?_, ne, p', r' / (n : Int), upd_same⟩ hlt⟩
      rw [upd_ne ne]
      exact e1 _ _ ne hsc
    refine ⟨_, rfl, st, _, 2, _, rfl, rfl, SqL.of hst, atI_nat (j := 2) rfl, _, rfl, _, _, rfl, rfl, _, rfl, ite2 (fun _ => ?_) fun _ => fin _ _ _ H p r (SameBut.refl _ _) hst⟩
    have body : ∀ (c : Int), drMix K { nx := drEnd K { nx := fun _ H' => Q .non H', rt := Q }, rt := Q } [some (.ref st), some (.int (n : Int)), some (.int c), none, none, none] H := by
      intro c
      have mulR : ∀ {i j : Int}, -(2 ^ 64) < j → j < 2 ^ 64 → CMul i j := fun h1 h2 => .inr ⟨h1, h2⟩
      have cont : ∀ H2, SameBut st H H2 → H2 st = some (.lst [.ref sc, .int ((p : Int) + 1), .int c]) → drMix2 K { nx := drEnd K { nx := fun _ H' => Q .non H', rt := Q }, rt := Q } [some (.ref st), some (.int (n : Int)), some (.int c), none, none, none] H2 := by
        intro H2 e2 g2
        refine ⟨_, rfl, 10, 18, rfl, rfl, ⟨by decide, by decide, by decide⟩, _, _, rfl, rfl, _, rfl, ite2 (fun _ => ?_) fun _ => fin _ _ _ H2 (p + 1) c e2 g2⟩
        refine ⟨_, rfl, _, _, rfl, rfl, mulR (by decide) (by decide), _, rfl, st, _, 1, _, rfl, rfl, SqL.of g2, atI_nat (j := 1) rfl, _, _, rfl, rfl, mulR (by decide) (by decide), _, _, rfl, rfl, .inl ⟨_, rfl, _, _, rfl, rfl, show (0 : Int) < 2147483647 by decide, ?_⟩⟩
        refine ⟨_, rfl, _, _, rfl, rfl, mulR (by decide) (by decide), _, rfl, _, _, rfl, rfl, mulR (by decide) (by decide), _, _, rfl, rfl, _, _, rfl, rfl, .inl ⟨_, rfl, _, _, rfl, rfl, show (0 : Int) < 2147483399 by decide, ?_⟩⟩
        refine ⟨_, rfl, _, _, rfl, rfl, mulR (by decide) (by decide), _, rfl, _, _, rfl, rfl, 10, 18, rfl, rfl, ⟨by decide, by decide, by decide⟩, _, _, rfl, rfl, ?_⟩
        refine ⟨_, rfl, st, _, 2, 2, rfl, rfl, g2, rfl, ?_⟩
        exact fin _ _ _ _ (p + 1) _ (fun b o nb h => by rw [upd_ne nb]; exact e2 b o nb h) upd_same
      refine ⟨_, rfl, st, _, 1, _, rfl, rfl, SqL.of hst, atI_nat (j := 1) rfl, _, 1, rfl, rfl, ?_⟩
      refine ⟨_, rfl, st, _, 1, 1, rfl, rfl, hst, rfl, ?_⟩
      have e1 : SameBut st H (upd H st (.lst [.ref sc, .int ((p : Int) + 1), .int r])) := fun b o nb h => by rw [upd_ne nb]; exact h
      have g1 : (upd H st (.lst [.ref sc, .int ((p : Int) + 1), .int r])) st = some (.lst [.ref sc, .int ((p : Int) + 1), .int r]) := upd_same
      refine ⟨_, rfl, _, rfl, st, _, 2, 2, rfl, rfl, g1, rfl, ?_⟩
      have e2 : SameBut st H (upd (upd H st (.lst [.ref sc, .int ((p : Int) + 1), .int r])) st (.lst [.ref sc, .int ((p : Int) + 1), .int c])) := fun b o nb h => by rw [upd_ne nb]; exact e1 b o nb h
      have g2 : (upd (upd H st (.lst [.ref sc, .int ((p : Int) + 1), .int r])) st (.lst [.ref sc, .int ((p : Int) + 1), .int c])) st = some (.lst [.ref sc, .int ((p : Int) + 1), .int c]) := upd_same
      exact cont _ e2 g2
    refine ⟨_, rfl, st, _, 1, _, rfl, rfl, SqL.of hst, atI_nat (j := 1) rfl, _, rfl, st, _, 0, _, rfl, rfl, SqL.of hst, atI_nat (j := 0) rfl, sc, _, rfl, .inl (SqL.of hsc), _, _, rfl, rfl, _, rfl, ite2 (fun cc => ?_) fun _ => body 0⟩
    have cc : (p : Int) < ((ns.map V.int).length : Int) := of_decide_eq_true cc
    have cl : p < ns.length := by
      rw [List.length_map] at cc
      omega
    refine ⟨_, rfl, st, _, 0, _, rfl, rfl, SqL.of hst, atI_nat (j := 0) rfl, _, rfl, st, _, 1, _, rfl, rfl, SqL.of hst, atI_nat (j := 1) rfl, sc, _, (p : Int), .int ns[p], rfl, rfl, SqL.of hsc, at_nat (by rw [List.getElem?_map, List.getElem?_eq_getElem cl]; rfl), ?_⟩
    exact body ns[p]
end
end CW
namespace CW
open PySem PySem.Spec PyProof.Rows L2 CS
theorem hide_get2 {st o b : Addr} {H : Hp} {u : HO} (h : H b = some u) (n1 : b ≠ st) (n2 : b ≠ o) : hide st (hide o H) b = some u := hide_get (hide_get h n2) n1
theorem sb2 {st o : Addr} {H H' : Hp} (e : SameBut st H H') : Same (hide st (hide o H)) (hide st (hide o H')) := SameBut.hide (D := st) fun b u n hb => by
  by_cases eb : b = o
  · subst eb
    have hb : (if b = b then none else H b) = some u := hb
    rw [if_pos rfl] at hb
    cases hb
  · rw [hide_ne eb] at hb ⊢
    exact e b u n hb
/-- what is kept of a list that is being made holds once it is made -/
theorem sb_out {st o : Addr} {H : Hp} : Same (hide st (hide o H)) (hide st H) := hide_mono hide_same
/-- into the hidden heap: all objects of the first heap are there -/
theorem sb_in {st o : Addr} {H H' : Hp} (e : SameBut st H H') (h : H o = none) : Same (hide st H) (hide st (hide o H')) := SameBut.hide (D := st) fun b u n hb => by
  rw [hide_ne (ne_of_none hb h)]
  exact e b u n hb
theorem paired_ex {α β : Type} {R : α → β → Prop} {G : β → Prop} : ∀ {ys : List α}, (∀ (i : Nat) (y : α), ys[i]? = some y → ∃ F, R y F ∧ G F) → ∃ S, Paired R ys S ∧ ∀ F ∈ S, G F
  | [], _ => ⟨[], .nil, fun F h => (List.not_mem_nil h).elim⟩
  | y :: ys, h => by
    obtain ⟨F, h1, h2⟩ := h 0 y rfl
    obtain ⟨S, h3, h4⟩ := paired_ex (ys := ys) (R := R) (G := G) fun i y hy => h (i + 1) y hy
    refine ⟨F :: S, .cons h1 h3, fun G' hG => ?_⟩
    rcases List.mem_cons.mp hG with e | e
    · rw [e]
      exact h2
    · exact h4 G' e
theorem hide_tup {st D t : Addr} {H : Hp} {xs ys : List V} (h : (hide st H) t = some (.tup xs)) (hD : H D = some (.lst ys)) : (hide st (hide D H)) t = some (.tup xs) := by
  have n1 : t ≠ st := fun z => by
    have h2 : (if t = st then none else H t) = some (HO.tup xs) := h
    rw [if_pos z] at h2
    cases h2
  rw [hide_ne n1] at h ⊢
  have n2 : t ≠ D := fun z => by
    rw [z, hD] at h
    cases h
  rw [hide_ne n2]
  exact h
theorem hide_arcs {st D l : Addr} {H : Hp} {as : List Arc} {ys : List V} (h : ArcsAt (hide st H) l as) (hD : H D = some (.lst ys)) (n : l ≠ D) : ArcsAt (hide st (hide D H)) l as := by
  obtain ⟨vs, h1, h2⟩ := h
  have n1 : l ≠ st := fun z => by
    have h3 : (if l = st then none else H l) = some (HO.lst vs) := h1
    rw [if_pos z] at h3
    cases h3
  refine ⟨vs, ?_, Paired.mapP h2 fun _ _ ⟨t, e1, e2⟩ => ⟨t, e1, hide_tup e2 hD⟩⟩
  rw [hide_ne n1] at h1 ⊢
  rw [hide_ne n]
  exact h1
/-- a formula as the law draws it -/
structure GoodF (n : Nat) (F : Fm) : Prop where
  wf : WFm n F
  bd : FmBd 12 5 F
  dn : FmDn 50 5 F
  sz : FmSz F
def GoodA (n : Nat) (p : Arc) : Prop := p.1 < n ∧ -4 ≤ p.2 ∧ p.2 ≤ 5
theorem turns_at (d : Nat) (h : d < 6) : ∃ m : Nat, ([.int 1, .int 2, .int 2, .int 3, .int 2, .int 6] : List V)[d]? = some (.int (m : Int)) ∧ 1 ≤ m ∧ m ≤ 6 :=
  match d, h with
  | 0, _ => ⟨1, rfl, by omega, by omega⟩
  | 1, _ => ⟨2, rfl, by omega, by omega⟩
  | 2, _ => ⟨2, rfl, by omega, by omega⟩
  | 3, _ => ⟨3, rfl, by omega, by omega⟩
  | 4, _ => ⟨2, rfl, by omega, by omega⟩
  | 5, _ => ⟨6, rfl, by omega, by omega⟩
  | d + 6, h => absurd h (by omega)
theorem shifts_at (d : Nat) (h : d < 9) : ∃ m : Int, ([.int 0, .int 1, .int (-1), .int 2, .int 0, .int (-2), .int 5, .int (-4), .int 3] : List V)[d]? = some (.int m) ∧ -4 ≤ m ∧ m ≤ 5 :=
  match d, h with
  | 0, _ => ⟨0, rfl, by omega, by omega⟩
  | 1, _ => ⟨1, rfl, by omega, by omega⟩
  | 2, _ => ⟨-1, rfl, by omega, by omega⟩
  | 3, _ => ⟨2, rfl, by omega, by omega⟩
  | 4, _ => ⟨0, rfl, by omega, by omega⟩
  | 5, _ => ⟨-2, rfl, by omega, by omega⟩
  | 6, _ => ⟨5, rfl, by omega, by omega⟩
  | 7, _ => ⟨-4, rfl, by omega, by omega⟩
  | 8, _ => ⟨3, rfl, by omega, by omega⟩
  | d + 9, h => absurd h (by omega)
theorem kinds_at (d : Nat) (h : d < 9) : ∃ s : Str, ([.str "amount", .str "amount", .str "least", .str "least", .str "least", .str "greatest", .str "greatest", .str "greatest", .str "when"] : List V)[d]? = some (.str s) ∧ (s = "amount" ∨ s = "least" ∨ s = "greatest" ∨ s = "when") :=
  match d, h with
  | 0, _ => ⟨_, rfl, .inl rfl⟩
  | 1, _ => ⟨_, rfl, .inl rfl⟩
  | 2, _ => ⟨_, rfl, .inr (.inl rfl)⟩
  | 3, _ => ⟨_, rfl, .inr (.inl rfl)⟩
  | 4, _ => ⟨_, rfl, .inr (.inl rfl)⟩
  | 5, _ => ⟨_, rfl, .inr (.inr (.inl rfl))⟩
  | 6, _ => ⟨_, rfl, .inr (.inr (.inl rfl))⟩
  | 7, _ => ⟨_, rfl, .inr (.inr (.inl rfl))⟩
  | 8, _ => ⟨_, rfl, .inr (.inr (.inr rfl))⟩
  | d + 9, h => absurd h (by omega)
section
variable {P : Program} {w : World} {K : PySem.W.Frag} {mg : Str → Option Value} {base : Heap} {k : Nat}
/-! ### _law_amount -/
abbrev sLAmount : Stmt := topS 46
theorem scLAmount : FnScope ["_law_stream", "_law_most_here"] ["_law_stream", "_law_most_here"] (defScope sLAmount) := ⟨rfl, rfl, rfl, by decide +kernel, rfl, by decide +kernel, by decide +kernel⟩
def spLAmount : Sp := fun vs H Q _ => ∃ (sc st : Addr) (ns : List Int) (n : Nat), vs = [.ref st, .int (n : Int)] ∧ Strm sc st ns H ∧ 0 < n ∧ n ≤ 1000 ∧ ∀ H' (a : Am), SameBut st H H' → Strm sc st ns H' → (∀ v, a = some v → v < n) → Q (amV a) H'
theorem kn_lamount (D : Stands K mg "_law_amount" sLAmount) (GD : Kn P w K mg base k "_law_draw" ["_law_stream", "_law_many"] spDraw) : Kn P w K mg base (k + 1) "_law_amount" ["_law_stream", "_law_most_here"] spLAmount := by
  refine kn_of D scLAmount (fun _ _ _ _ _ _ us hl => match us, hl with | [_, _], _ => rfl) (fun vs H Q E h => ?_) (fun f cdv A outer s H vs Q E hr h => ?_)
  · obtain ⟨sc, st, ns, n, rfl, _⟩ := h
    rfl
  · obtain ⟨sc, st, ns, n, rfl, hS, hn, hn2, q⟩ := h
    refine ⟨_, pss_cons (ps_if (pt_cmpR op_eq (pe_kn GD hr (by rfl) (pa_cons (pv 0) (pa_cons pe_int pa_nil))) pe_int (nomark _)) (pss_one (ps_ret pe_non)) pss_nil)
      (pss_one (ps_ret (pe_kn GD hr (by rfl) (pa_cons (pv 0) (pa_cons (pv 1) pa_nil))))), ?_⟩
    refine ⟨_, rfl, sc, st, ns, 12, rfl, hS, by omega, by omega, fun H1 d1 e1 S1 _ => ?_⟩
    refine ⟨rfl, _, rfl, ite2 (fun _ => ?_) fun _ => ?_⟩
    · exact q H1 none e1 S1 (fun v z => nomatch z)
    · refine ⟨_, rfl, _, rfl, sc, st, ns, n, rfl, S1, hn, hn2, fun H2 d2 e2 S2 h2 => q H2 (some d2) (e1.trans e2) S2 fun v z => ?_⟩
      cases z
      exact h2
/-! ### _law_arcs -/
abbrev sLArcs : Stmt := topS 47
theorem scLArcs : FnScope ["_law_stream", "_law_many", "_law_found", "_law_turn"] ["_law_stream", "_law_many"] (defScope sLArcs) := ⟨rfl, rfl, rfl, by decide +kernel, rfl, by decide +kernel, by decide +kernel⟩
def spLArcs : Sp := fun vs H Q _ => ∃ (sc st : Addr) (ns : List Int) (n : Nat), vs = [.ref st, .int (n : Int)] ∧ Strm sc st ns H ∧ 0 < n ∧ n ≤ 1000 ∧
  ∀ H' o (as : List Arc), SameBut st H H' → Strm sc st ns H' → H o = none → ArcsAt (hide st H') o as → as ≠ [] → as.length ≤ 6 → (∀ p ∈ as, GoodA n p) → Q (.ref o) H'
theorem kn_larcs (D : Stands K mg "_law_arcs" sLArcs) (GD : Kn P w K mg base k "_law_draw" ["_law_stream", "_law_many"] spDraw) (mr : mg "range" = none) : Kn P w K mg base (k + 1) "_law_arcs" ["_law_stream", "_law_many"] spLArcs := by
  refine kn_of D scLArcs (fun _ _ _ _ _ _ us hl => match us, hl with | [_, _], _ => rfl) (fun vs H Q E h => ?_) (fun f cdv A outer s H vs Q E hr h => ?_)
  · obtain ⟨sc, st, ns, n, rfl, _⟩ := h
    rfl
  · obtain ⟨sc, st, ns, n, rfl, hS, hn, hn2, q⟩ := h
    refine ⟨_, pss_cons (ps_set (i := 2) scLArcs.nd rfl (.inl rfl) (pe_lst pa_nil))
      (pss_cons (ps_for PassesOwn.never rfl (pi_range1 (by rfl) mr (pa_cons (pe_ix ix_list (pe_lst (pa_cons pe_int (pa_cons pe_int (pa_cons pe_int (pa_cons pe_int (pa_cons pe_int (pa_cons pe_int pa_nil))))))) (pe_kn GD hr (by rfl) (pa_cons (pv 0) (pa_cons pe_int pa_nil))) (fun _ _ => rfl)) pa_nil)) (pg_name (i := 3) scLArcs.nd rfl (.inl rfl))
        (pss_one (ps_expr (pe_bm PySem.F.plainAttrs_list PySem.F.slot_list_append PySem.F.type_list_append mt_append (pv 2) (pa_cons (pe_tup (pa_cons (pe_kn GD hr (by rfl) (pa_cons (pv 0) (pa_cons (pv 1) pa_nil)))
          (pa_cons (pe_ix ix_list (pe_lst (pa_cons pe_int (pa_cons pe_int (pa_cons (pe_un un_neg pe_int) (pa_cons pe_int (pa_cons pe_int (pa_cons (pe_un un_neg pe_int) (pa_cons pe_int (pa_cons (pe_un un_neg pe_int) (pa_cons pe_int pa_nil)))))))))) (pe_kn GD hr (by rfl) (pa_cons (pv 0) (pa_cons pe_int pa_nil))) (fun _ _ => rfl)) pa_nil))) pa_nil)))))
      (pss_one (ps_ret (pv 2)))), ?_⟩
    refine ⟨Nat.zero_le _, fun o no => ?_⟩
    obtain ⟨nost, nosc⟩ := hS.fresh no
    have s0 : Same H (upd H o (.lst [])) := same_upd no
    refine ⟨by show 6 ≤ sizeLine; decide, fun p np => ?_⟩
    have s1 := same_upd (o := .lst [.int 1, .int 2, .int 2, .int 3, .int 2, .int 6]) np
    have S1 := (hS.same s0).same s1
    obtain ⟨npst, _⟩ := (hS.same s0).fresh np
    refine ⟨_, rfl, sc, st, ns, 6, rfl, S1, by omega, by omega, fun H1 d e1 S1 hd => ?_⟩
    obtain ⟨m, hm, hm1, hm2⟩ := turns_at d hd
    refine ⟨p, _, (d : Int), _, rfl, rfl, SqL.of (e1 _ _ npst upd_same), at_nat hm, (m : Int), rfl, by omega, by omega, ?_⟩
    rw [Int.toNat_natCast]
    have e01 : SameBut st H H1 := ((SameBut.of s0).trans (SameBut.of s1)).trans e1
    have ho1 : H1 o = some (.lst []) := e1 _ _ nost (s1 _ _ upd_same)
    refine for_it walk_range0 (fun i σ H' => ∃ (ys : List V) (as : List Arc) (y3 : Option V), σ = [some (.ref st), some (.int (n : Int)), some (.ref o), y3] ∧ SameBut st H H' ∧ Strm sc st ns H' ∧ H' o = some (.lst ys) ∧ Paired (ArcAt (hide st (hide o H'))) ys as ∧ as.length = i ∧ ∀ p ∈ as, GoodA n p)
      ⟨[], [], none, rfl, e01, S1, ho1, .nil, rfl, fun p hp => (List.not_mem_nil hp).elim⟩ (fun i σ H' _ _ => trivial) (fun i v σ H2 H3 hi hW hY => ?_) (fun σ H' hW => ?_)
    · obtain ⟨ys, as, y3, rfl, e2, S2, ho2, hys, hal, hg⟩ := hW
      obtain ⟨rfl, rfl⟩ := hY
      refine ⟨_, rfl, .inl ⟨rfl, _, SqL.of ho2⟩, _, rfl, _, rfl, sc, st, ns, n, rfl, S2, hn, hn2, fun H4 d1 e4 S4 hd1 => ?_⟩
      refine ⟨1, rfl, 2, rfl, 4, rfl, by show 9 ≤ sizeLine; decide, fun p2 np2 => ?_⟩
      obtain ⟨np2st, _⟩ := S4.fresh np2
      have s5 := same_upd (o := .lst [.int 0, .int 1, .int (-1), .int 2, .int 0, .int (-2), .int 5, .int (-4), .int 3]) np2
      refine ⟨_, rfl, sc, st, ns, 9, rfl, S4.same s5, by omega, by omega, fun H6 d2 e6 S6 hd2 => ?_⟩
      obtain ⟨sh, hsh, hs1, hs2⟩ := shifts_at d2 hd2
      refine ⟨p2, _, (d2 : Int), _, rfl, rfl, SqL.of (e6 _ _ np2st upd_same), at_nat hsh, by show 2 ≤ sizeLine; decide, fun t nt => ?_⟩
      have e7 : SameBut st H3 (upd H6 t (.tup [.int (d1 : Int), .int sh])) := ((e4.trans (SameBut.of s5)).trans e6).trans (SameBut.of (same_upd nt))
      have S7 := S6.same (same_upd (o := .tup [.int (d1 : Int), .int sh]) nt)
      have ho7 := e7 _ _ nost ho2
      obtain ⟨ntst, _⟩ := S6.fresh nt
      have nto : t ≠ o := fun z => by
        rw [z] at nt
        rw [((e4.trans (SameBut.of s5)).trans e6) _ _ nost ho2] at nt
        cases nt
      have ht7 : (upd H6 t (.tup [.int (d1 : Int), .int sh])) t = some (.tup [.int (d1 : Int), .int sh]) := upd_same
      generalize upd H6 t (.tup [.int (d1 : Int), .int sh]) = H7 at e7 S7 ho7 ht7 ⊢
      have hyl : ys.length = as.length := Paired.length hys
      refine ⟨o, ys, .ref t, rfl, rfl, ho7, szl (by omega), ys ++ [.ref t], as ++ [(d1, sh)], _, rfl, (e2.trans e7).mut no, S7.upd nost nosc, upd_same, ?_, by rw [List.length_append, hal]; rfl, fun p hp => ?_⟩
      · rw [hide_upd]
        exact paired_app (Paired.mapP hys fun _ _ z => z.xt (Xt.of_same (sb2 e7))) ⟨t, rfl, hide_get2 ht7 ntst nto⟩
      · rcases List.mem_append.mp hp with h | h
        · exact hg p h
        · rw [List.mem_singleton.mp h]
          exact ⟨hd1, hs1, hs2⟩
    · obtain ⟨ys, as, y3, rfl, e2, S2, ho2, hys, hal, hg⟩ := hW
      refine ⟨_, rfl, q H' o as e2 S2 no ⟨ys, hide_get ho2 nost, Paired.mapP hys fun _ _ z => z.xt (Xt.of_same sb_out)⟩ (fun z => ?_) (by omega) hg⟩
      rw [z] at hal
      have : 0 = m := hal
      omega
/-! ### _law_formula -/
abbrev sLFormula : Stmt := topS 48
theorem scLFormula : FnScope ["_law_stream", "_law_many", "_law_kind"] ["_law_stream", "_law_many"] (defScope sLFormula) := ⟨rfl, rfl, rfl, by decide +kernel, rfl, by decide +kernel, by decide +kernel⟩
def spLFormula : Sp := fun vs H Q _ => ∃ (sc st : Addr) (ns : List Int) (n : Nat), vs = [.ref st, .int (n : Int)] ∧ Strm sc st ns H ∧ 0 < n ∧ n ≤ 1000 ∧
  ∀ H' t F, SameBut st H H' → Strm sc st ns H' → (∀ D ys, H D ≠ none → H' D = some (.lst ys) → FmAt (hide st (hide D H')) (.ref t) F) → GoodF n F → Q (.ref t) H'
theorem kn_lformula (D : Stands K mg "_law_formula" sLFormula) (GD : Kn P w K mg base k "_law_draw" ["_law_stream", "_law_many"] spDraw) (GM : Kn P w K mg base k "_law_amount" ["_law_stream", "_law_most_here"] spLAmount) (GR : Kn P w K mg base k "_law_arcs" ["_law_stream", "_law_many"] spLArcs) :
    Kn P w K mg base (k + 1) "_law_formula" ["_law_stream", "_law_many"] spLFormula := by
  refine kn_of D scLFormula (fun _ _ _ _ _ _ us hl => match us, hl with | [_, _], _ => rfl) (fun vs H Q E h => ?_) (fun f cdv A outer s H vs Q E hr h => ?_)
  · obtain ⟨sc, st, ns, n, rfl, _⟩ := h
    rfl
  · obtain ⟨sc, st, ns, n, rfl, hS, hn, hn2, q⟩ := h
    refine ⟨_, pss_cons (ps_set (i := 2) scLFormula.nd rfl (.inl rfl) (pe_ix ix_list (pe_lst (pa_cons pe_str (pa_cons pe_str (pa_cons pe_str (pa_cons pe_str (pa_cons pe_str (pa_cons pe_str (pa_cons pe_str (pa_cons pe_str (pa_cons pe_str pa_nil)))))))))) (pe_kn GD hr (by rfl) (pa_cons (pv 0) (pa_cons pe_int pa_nil))) (fun _ _ => rfl)))
      (pss_cons (ps_if (pt_cmpR op_eq (pv 2) pe_str (nomark _)) (pss_one (ps_ret (pe_tup (pa_cons pe_str (pa_cons (pe_kn GM hr (by rfl) (pa_cons (pv 0) (pa_cons pe_int pa_nil))) pa_nil))))) pss_nil)
      (pss_cons (ps_if (pt_cmpR op_eq (pv 2) pe_str (nomark _)) (pss_one (ps_ret (pe_tup (pa_cons pe_str (pa_cons (pe_kn GD hr (by rfl) (pa_cons (pv 0) (pa_cons (pv 1) pa_nil)))
        (pa_cons (pe_op op_add pe_int (pe_kn GD hr (by rfl) (pa_cons (pv 0) (pa_cons pe_int pa_nil)))) (pa_cons (pe_kn GD hr (by rfl) (pa_cons (pv 0) (pa_cons (pv 1) pa_nil))) pa_nil))))))) pss_nil)
      (pss_one (ps_ret (pe_tup (pa_cons (pv 2) (pa_cons (pe_kn GR hr (by rfl) (pa_cons (pv 0) (pa_cons (pv 1) pa_nil))) pa_nil))))))), ?_⟩
    refine ⟨by show 9 ≤ sizeLine; decide, fun p np => ?_⟩
    have s1 := same_upd (o := .lst [.str "amount", .str "amount", .str "least", .str "least", .str "least", .str "greatest", .str "greatest", .str "greatest", .str "when"]) np
    obtain ⟨npst, _⟩ := hS.fresh np
    refine ⟨_, rfl, sc, st, ns, 9, rfl, hS.same s1, by omega, by omega, fun H1 d e1 S1 hd => ?_⟩
    obtain ⟨kd, hkd, hk⟩ := kinds_at d hd
    refine ⟨p, _, (d : Int), _, rfl, rfl, SqL.of (e1 _ _ npst upd_same), at_nat hkd, ?_⟩
    have e01 : SameBut st H H1 := (SameBut.of s1).trans e1
    -- the arcs' way
    have way : ∀ (wd : Str), (∀ H' t l as, SameBut st H H' → Strm sc st ns H' → H l = none → (hide st H') t = some (.tup [.str wd, .ref l]) → ArcsAt (hide st H') l as → as ≠ [] → as.length ≤ 6 → (∀ p ∈ as, GoodA n p) → Q (.ref t) H') →
        tRet (tTup (tCons (tVar 2) (tCons (tCall spLArcs [] E0 (tCons (tVar 0) (tCons (tVar 1) tNil))) tNil))) { nx := fun _ H' => Q .non H', rt := Q } [some (.ref st), some (.int (n : Int)), some (.str wd)] H1 := fun wd fin => by
      refine ⟨_, rfl, _, rfl, _, rfl, sc, st, ns, n, rfl, S1, hn, hn2, fun H2 l as e2 S2 nl hA h1 h2 h3 => ⟨by show 2 ≤ sizeLine; decide, fun t nt => ?_⟩⟩
      have s3 := same_upd (o := .tup [.str wd, .ref l]) nt
      have nlst : l ≠ st := (S1.fresh nl).1
      exact fin _ t l as ((e01.trans e2).trans (SameBut.of s3)) (S2.same s3) (e01.none nlst nl) (hide_get upd_same (S2.fresh nt).1) (hA.xt (Xt.of_same (SameBut.of s3).hide)) h1 h2 h3
    rcases hk with rfl | rfl | rfl | rfl
    · refine ⟨_, rfl, rfl, _, rfl, iteTd kAA ?_⟩
      refine ⟨_, rfl, sc, st, ns, 12, rfl, S1, by omega, by omega, fun H2 a e2 S2 ha => ⟨by show 2 ≤ sizeLine; decide, fun t nt => ?_⟩⟩
      have s3 := same_upd (o := .tup [.str "amount", amV a]) nt
      refine q _ t (.amt a) ((e01.trans e2).trans (SameBut.of s3)) (S2.same s3) (fun D ys _ hD => ⟨t, rfl, hide_tup (hide_get upd_same (S2.fresh nt).1) hD⟩) ⟨trivial, ?_, trivial, trivial⟩
      cases a with
      | none => trivial
      | some v => exact Nat.le_of_lt (ha v rfl)
    · refine ⟨_, rfl, rfl, _, rfl, iteFd kLA ?_⟩
      refine ⟨_, rfl, rfl, _, rfl, iteFd kLW ?_⟩
      refine way _ fun H' t l as e2 S2 nl ht hA h1 h2 h3 => q H' t (.lst as) e2 S2 (fun D ys nD hD => ⟨t, l, rfl, hide_tup ht hD, hide_arcs hA hD fun z => nD (z ▸ nl)⟩) ⟨⟨h1, fun p hp => (h3 p hp).1⟩, fun p hp => (h3 p hp).2.2, fun p hp => ?_, Nat.le_trans h2 (by decide)⟩
      have := (h3 p hp).2.1
      show -((5 : Nat) : Int) ≤ p.2
      omega
    · refine ⟨_, rfl, rfl, _, rfl, iteFd kGA ?_⟩
      refine ⟨_, rfl, rfl, _, rfl, iteFd kGW ?_⟩
      refine way _ fun H' t l as e2 S2 nl ht hA h1 h2 h3 => q H' t (.gst as) e2 S2 (fun D ys nD hD => ⟨t, l, rfl, hide_tup ht hD, hide_arcs hA hD fun z => nD (z ▸ nl)⟩) ⟨⟨h1, fun p hp => (h3 p hp).1⟩, fun p hp => (h3 p hp).2.2, fun p hp => ?_, Nat.le_trans h2 (by decide)⟩
      have := (h3 p hp).2.1
      show -((5 : Nat) : Int) ≤ p.2
      omega
    · refine ⟨_, rfl, rfl, _, rfl, iteFd kWA ?_⟩
      refine ⟨_, rfl, rfl, _, rfl, iteTd kWW ?_⟩
      refine ⟨_, rfl, _, rfl, sc, st, ns, n, rfl, S1, hn, hn2, fun H2 j e2 S2 hj => ?_⟩
      refine ⟨_, rfl, sc, st, ns, 8, rfl, S2, by omega, by omega, fun H3 a e3 S3 ha => ?_⟩
      refine ⟨1, (a : Int), rfl, rfl, _, rfl, _, rfl, sc, st, ns, n, rfl, S3, hn, hn2, fun H4 c e4 S4 hc => ?_⟩
      refine ⟨by show 4 ≤ sizeLine; decide, fun t nt => ?_⟩
      have ea : (1 : Int) + (a : Int) = ((1 + a : Nat) : Int) := by omega
      have s5 := same_upd (o := .tup [.str "when", .int (j : Int), .int ((1 : Int) + (a : Int)), .int (c : Int)]) nt
      refine q _ t (.whn j (1 + a) c) ((((e01.trans e2).trans e3).trans e4).trans (SameBut.of s5)) (S4.same s5) (fun D ys _ hD => ⟨t, rfl, hide_tup ?_ hD⟩) ⟨⟨hj, hc⟩, trivial, by show 1 + a ≤ 50; omega, trivial⟩
      rw [← ea]
      exact hide_get upd_same (S4.fresh nt).1
/-! ### _law_flat, _law_goal_sheet, _law_set -/
abbrev sLFlat : Stmt := topS 49
theorem scLFlat : FnScope ["_law_stream", "_law_most_here", "_law_many", "_law_cell"] ["_law_stream", "_law_most_here"] (defScope sLFlat) := ⟨rfl, rfl, rfl, by decide +kernel, rfl, by decide +kernel, by decide +kernel⟩
/-- all formulas of the sheet are good -/
structure GoodS (S : List Fm) : Prop where
  pos : 0 < S.length
  most : S.length ≤ 10
  all : ∀ F ∈ S, GoodF S.length F
def spLFlat : Sp := fun vs H Q _ => ∃ (sc st : Addr) (ns : List Int), vs = [.ref st, .int 4] ∧ Strm sc st ns H ∧
  ∀ H' o vs S, SameBut st H H' → Strm sc st ns H' → H o = none → H' o = some (.lst vs) → Paired (FmAt (hide st (hide o H'))) vs S → GoodS S → Q (.ref o) H'
theorem kn_lflat (D : Stands K mg "_law_flat" sLFlat) (GD : Kn P w K mg base k "_law_draw" ["_law_stream", "_law_many"] spDraw) (GF : Kn P w K mg base k "_law_formula" ["_law_stream", "_law_many"] spLFormula) (mr : mg "range" = none) :
    Kn P w K mg base (k + 1) "_law_flat" ["_law_stream", "_law_most_here"] spLFlat := by
  refine kn_of D scLFlat (fun _ _ _ _ _ _ us hl => match us, hl with | [_, _], _ => rfl) (fun vs H Q E h => ?_) (fun f cdv A outer s H vs Q E hr h => ?_)
  · obtain ⟨sc, st, ns, rfl, _⟩ := h
    rfl
  · obtain ⟨sc, st, ns, rfl, hS, q⟩ := h
    refine ⟨_, pss_cons (ps_set (i := 2) scLFlat.nd rfl (.inr rfl) (pe_op op_add pe_int (pe_kn GD hr (by rfl) (pa_cons (pv 0) (pa_cons (pv 1) pa_nil)))))
      (pss_cons (ps_if (pt_cmpR op_eq (pe_kn GD hr (by rfl) (pa_cons (pv 0) (pa_cons pe_int pa_nil))) pe_int (nomark _)) (pss_one (ps_set (i := 2) scLFlat.nd rfl (.inr rfl) (pe_op op_add (pv 1) pe_int))) pss_nil)
      (pss_one (ps_ret (pe_lc (own := [("_law_cell", 3)]) (g := gName 3) (te := tCall spLFormula [] E0 (tCons (tVar 0) (tCons (tVar 2) tNil))) (by rfl) scLFlat.nd (pi_range1 (by rfl) mr (pa_cons (pv 2) pa_nil))
        (blkOk_by (own := [("_law_cell", 3)]) (N := ["_law_stream", "_law_most_here", "_law_many", "_law_cell"]) (sc := defScope sLFlat) (by decide +kernel))
        (fun _ _ _ _ _ => pg_name (i := 3) scLFlat.nd rfl (.inl rfl)) (fun _ _ _ _ _ => pts_nil) (fun _ _ _ _ _ => pe_kn GF hr (by rfl) (pa_cons (pv 0) (pa_cons (pv 2) pa_nil))))))), ?_⟩
    refine ⟨_, rfl, _, rfl, sc, st, ns, 4, rfl, hS, by omega, by omega, fun H1 d e1 S1 hd => ?_⟩
    refine ⟨1, (d : Int), rfl, rfl, _, rfl, sc, st, ns, 16, rfl, S1, by omega, by omega, fun H2 d2 e2 S2 _ => ?_⟩
    have e02 := e1.trans e2
    have go : ∀ (m : Nat), 1 ≤ m → m ≤ 10 → tRet (tLc (iRng1 (tCons (tVar 2) tNil)) (gName 3) tYes (tCall spLFormula [] E0 (tCons (tVar 0) (tCons (tVar 2) tNil))) [3])
        { nx := fun _ H' => Q .non H', rt := Q } [some (.ref st), some (.int 4), some (.int (m : Int)), none] H2 := fun m hm1 hm2 => by
      refine ⟨_, rfl, (m : Int), rfl, by omega, by omega, fun Dl hD => ?_⟩
      rw [Int.toNat_natCast]
      have nDst := (S2.fresh hD).1
      refine lc_relS walk_range0 hD S2 (fun i y H => ∃ F, FmAt (hide st (hide Dl H)) y F ∧ GoodF m F) (fun i y H1 H2 e h => ?_) (fun _ _ => trivial) (by omega) (fun i y H3 H4 hi e3 S3 hDl hY Q' q' => ?_) fun H3 ys e3 S3 hDl hyl hys => ?_
      · obtain ⟨F, h1, h2⟩ := h
        exact ⟨F, h1.xt (Xt.of_same e), h2⟩
      · obtain ⟨rfl, rfl⟩ := hY
        refine ⟨rfl, _, rfl, _, rfl, sc, st, ns, m, rfl, S3, by omega, by omega, fun H5 t F e5 S5 hF gF => ?_⟩
        obtain ⟨ys, hys⟩ := hDl
        exact q' _ H5 e5 S5 ⟨F, hF Dl ys (by rw [hys]; exact fun z => nomatch z) (e5 _ _ nDst hys), gF⟩
      · obtain ⟨S, hS1, hS2⟩ := paired_ex hys
        have hl : ys.length = S.length := Paired.length hS1
        refine q H3 Dl ys S (e02.trans e3) S3 (e02.none nDst hD) hDl hS1 ⟨by omega, by omega, fun F hF => ?_⟩
        rw [← hl, hyl]
        exact hS2 F hF
    refine ⟨rfl, _, rfl, ite2 (fun _ => ?_) fun _ => ?_⟩
    · exact ⟨_, rfl, 4, 6, rfl, rfl, go 10 (by omega) (by omega)⟩
    · have ed : (1 : Int) + (d : Int) = ((1 + d : Nat) : Int) := by omega
      have g := go (1 + d) (by omega) (by omega)
      rw [← ed] at g
      exact g
def spGoalSheet : Sp := fun vs H Q _ => ∃ (sc st : Addr) (ns : List Int), vs = [.ref st, .int 4] ∧ Strm sc st ns H ∧
  ∀ H' t o (S : List Fm) (i : Nat) (y : Am), SameBut st H H' → Strm sc st ns H' → H' t = some (.tup [.ref o, .int (i : Int)]) → t ≠ st → ShAt (hide st H') o S → GoodS S → S[i]? = some (.amt y) → Q (.ref t) H'
abbrev sGoalSheet : Stmt := topS 59
theorem scGoalSheet : FnScope ["_law_stream", "_law_most_here", "_law_flat_here", "_law_at"] ["_law_stream", "_law_most_here"] (defScope sGoalSheet) := ⟨rfl, rfl, rfl, by decide +kernel, rfl, by decide +kernel, by decide +kernel⟩
theorem goodF_amt {n : Nat} {a : Am} (h : ∀ v, a = some v → v < 12) : GoodF n (.amt a) := ⟨trivial, by
  cases a with
  | none => trivial
  | some v => exact Nat.le_of_lt (h v rfl), trivial, trivial⟩
theorem kn_goal_sheet (D : Stands K mg "_law_goal_sheet" sGoalSheet) (GD : Kn P w K mg base k "_law_draw" ["_law_stream", "_law_many"] spDraw) (GF : Kn P w K mg base k "_law_flat" ["_law_stream", "_law_most_here"] spLFlat) (GM : Kn P w K mg base k "_law_amount" ["_law_stream", "_law_most_here"] spLAmount) (ml : mg "len" = none) :
    Kn P w K mg base (k + 1) "_law_goal_sheet" ["_law_stream", "_law_most_here"] spGoalSheet := by
  refine kn_of D scGoalSheet (fun _ _ _ _ _ _ us hl => match us, hl with | [_, _], _ => rfl) (fun vs H Q E h => ?_) (fun f cdv A outer s H vs Q E hr h => ?_)
  · obtain ⟨sc, st, ns, rfl, _⟩ := h
    rfl
  · obtain ⟨sc, st, ns, rfl, hS, q⟩ := h
    refine ⟨_, pss_cons (ps_set (i := 2) scGoalSheet.nd rfl (.inl rfl) (pe_kn GF hr (by rfl) (pa_cons (pv 0) (pa_cons (pv 1) pa_nil))))
      (pss_cons (ps_set (i := 3) scGoalSheet.nd rfl (.inl rfl) (pe_kn GD hr (by rfl) (pa_cons (pv 0) (pa_cons (pe_callB call_len_seq (by rfl) ml PySem.boot_len (pa_cons (pv 2) pa_nil)) pa_nil))))
      (pss_cons (ps_asg (pe_tup (pa_cons pe_str (pa_cons (pe_kn GM hr (by rfl) (pa_cons (pv 0) (pa_cons pe_int pa_nil))) pa_nil))) (pg_sub (pv 2) (pv 3) set_list))
      (pss_one (ps_ret (pe_tup (pa_cons (pv 2) (pa_cons (pv 3) pa_nil))))))), ?_⟩
    refine ⟨_, rfl, _, rfl, sc, st, ns, rfl, hS, fun H1 o vs S e1 S1 no ho hvs gS => ?_⟩
    obtain ⟨nost, nosc⟩ := hS.fresh no
    have hvl : vs.length = S.length := Paired.length hvs
    refine ⟨_, rfl, _, rfl, o, _, rfl, .inl (SqL.of ho), sc, st, ns, vs.length, rfl, S1, by have := gS.pos; omega, by have := gS.most; omega, fun H2 i e2 S2 hi => ?_⟩
    refine ⟨_, rfl, sc, st, ns, 12, rfl, S2, by omega, by omega, fun H3 a e3 S3 ha => ⟨by show 2 ≤ sizeLine; decide, fun t nt => ?_⟩⟩
    have s4 := same_upd (o := .tup [.str "amount", amV a]) nt
    have e14 : SameBut st H1 (upd H3 t (.tup [.str "amount", amV a])) := (e2.trans e3).trans (SameBut.of s4)
    have S4 := S3.same s4
    have ho4 := e14 _ _ nost ho
    have ht4 : (upd H3 t (.tup [.str "amount", amV a])) t = some (.tup [.str "amount", amV a]) := upd_same
    obtain ⟨ntst, _⟩ := S3.fresh nt
    have nto : t ≠ o := fun z => by
      rw [z] at nt
      rw [(e2.trans e3) _ _ nost ho] at nt
      cases nt
    generalize upd H3 t (.tup [.str "amount", amV a]) = H4 at e14 S4 ho4 ht4 ⊢
    refine ⟨_, rfl, _, rfl, o, vs, (i : Int), i, rfl, rfl, ho4, ixN_at hi, ?_⟩
    refine ⟨_, rfl, _, rfl, by show 2 ≤ sizeLine; decide, fun t2 nt2 => ?_⟩
    have e5 : SameBut st H (upd H4 o (.lst (vs.set i (.ref t)))) := (e1.trans e14).mut no
    have S5 : Strm sc st ns (upd H4 o (.lst (vs.set i (.ref t)))) := S4.upd nost nosc
    have hh : hide st (hide o (upd H4 o (.lst (vs.set i (.ref t))))) = hide st (hide o H4) := by rw [hide_upd]
    have ho5 : (upd H4 o (.lst (vs.set i (.ref t)))) o = some (.lst (vs.set i (.ref t))) := upd_same
    generalize upd H4 o (.lst (vs.set i (.ref t))) = H5 at e5 S5 hh ho5 nt2 ⊢
    have s6 := same_upd (o := .tup [.ref o, .int (i : Int)]) nt2
    obtain ⟨nt2st, _⟩ := S5.fresh nt2
    refine q _ t2 o (S.set i (.amt a)) i a (e5.trans (SameBut.of s6)) (S5.same s6) upd_same nt2st ?_ ⟨by rw [List.length_set]; exact gS.pos, by rw [List.length_set]; exact gS.most, fun F hF => ?_⟩ ?_
    · refine ⟨vs.set i (.ref t), hide_get (s6 _ _ ho5) nost, ?_⟩
      have hp : Paired (FmAt (hide st (hide o H4))) (vs.set i (.ref t)) (S.set i (.amt a)) := paired_set (Paired.mapP hvs fun _ _ z => z.xt (Xt.of_same (sb2 e14))) i ⟨t, rfl, hide_get2 ht4 ntst nto⟩
      rw [← hh] at hp
      exact Paired.mapP hp fun _ _ z => z.xt (Xt.of_same (sb_out.trans (SameBut.of s6).hide))
    · rw [List.length_set]
      rcases List.mem_or_eq_of_mem_set hF with h | h
      · exact gS.all F h
      · rw [h]
        exact goodF_amt ha
    · rw [List.getElem?_set_self (by omega)]
abbrev sLSet : Stmt := topS 60
theorem scLSet : FnScope ["_law_flat_here", "_law_at", "_law_amount_here", "_law_found"] ["_law_flat_here", "_law_at", "_law_amount_here"] (defScope sLSet) := ⟨rfl, rfl, rfl, by decide +kernel, rfl, by decide +kernel, by decide +kernel⟩
def spLSet : Sp := fun vs H Q _ => ∃ (a : Addr) (S : List Fm) (i : Nat) (am : Am), vs = [.ref a, .int (i : Int), amV am] ∧ ShAt H a S ∧ i < S.length ∧ ∀ H' o, Same H H' → H o = none → ShAt H' o (setIn S i am) → Q (.ref o) H'
theorem kn_lset (D : Stands K mg "_law_set" sLSet) (ml : mg "list" = none) : Kn P w K mg base (k + 1) "_law_set" ["_law_flat_here", "_law_at", "_law_amount_here"] spLSet := by
  refine kn_of D scLSet (fun _ _ _ _ _ _ us hl => match us, hl with | [_, _, _], _ => rfl) (fun vs H Q E h => ?_) (fun f cdv A outer s H vs Q E hr h => ?_)
  · obtain ⟨a, S, i, am, rfl, _⟩ := h
    rfl
  · obtain ⟨a, S, i, am, rfl, hS, hi, q⟩ := h
    refine ⟨_, pss_cons (ps_set (i := 3) scLSet.nd rfl (.inl rfl) (pe_callTy call_list_of (by rfl) ml (by decide +kernel) (pa_cons (pv 0) pa_nil)))
      (pss_cons (ps_asg (pe_tup (pa_cons pe_str (pa_cons (pv 2) pa_nil))) (pg_sub (pv 3) (pv 1) set_list))
      (pss_one (ps_ret (pv 3)))), ?_⟩
    obtain ⟨vs, hv, hp⟩ := hS
    have hvl : vs.length = S.length := Paired.length hp
    refine ⟨_, rfl, a, vs, rfl, .inl (SqL.of hv), fun o no => ?_⟩
    have s1 := same_upd (o := .lst vs) no
    refine ⟨_, rfl, by show 2 ≤ sizeLine; decide, fun t nt => ?_⟩
    obtain ⟨nto, nt0⟩ := upd_none_of nt
    have s2 := same_upd (o := .tup [.str "amount", amV am]) nt
    refine ⟨_, rfl, _, rfl, o, vs, (i : Int), i, rfl, rfl, s2 _ _ upd_same, ixN_at (by omega), _, rfl, ?_⟩
    have s12 := s1.trans s2
    refine q _ o (same_mut s12 no) no ⟨_, upd_same, ?_⟩
    have hp2 : Paired (FmAt (hide o (upd (upd H o (.lst vs)) t (.tup [.str "amount", amV am])))) (vs.set i (.ref t)) (S.set i (.amt am)) := paired_set (Paired.mapP hp fun _ _ z => z.xt (Xt.of_same (to_hide s12 no))) i ⟨t, rfl, hide_get upd_same nto⟩
    rw [← hide_upd (x := .lst (vs.set i (.ref t)))] at hp2
    exact Paired.mapP hp2 fun _ _ z => z.xt (Xt.of_same hide_same)
end
end CW
namespace CW
open PySem PySem.Spec PyProof.Rows L2 CS
section
variable {P : Program} {w : World} {K : PySem.W.Frag} {mg : Str → Option Value} {base : Heap} {k : Nat}
/-! ### _law_most, _law_shift -/
abbrev sLMost : Stmt := topS 50
theorem scLMost : FnScope ["_law_a", "_law_b"] ["_law_a", "_law_b"] (defScope sLMost) := ⟨rfl, rfl, rfl, by decide +kernel, rfl, by decide +kernel, by decide +kernel⟩
theorem kn_lmost (D : Stands K mg "_law_most" sLMost) : Kn P w K mg base (k + 1) "_law_most" ["_law_a", "_law_b"] spAtMost := by
  refine kn_of D scLMost (fun _ _ _ _ _ _ us hl => match us, hl with | [_, _], _ => rfl) (fun vs H Q E h => ?_) (fun f cdv A outer s H vs Q E hr h => ?_)
  · obtain ⟨a, b, rfl, _⟩ := h
    rfl
  · obtain ⟨a, b, rfl, q⟩ := h
    refine ⟨_, pss_one (ps_ret (pe_or (pe_cmpR op_isN (pv 1) pe_non (nomark _)) (pe_one (pe_and (pe_cmpR op_notN (pv 0) pe_non (nomark _)) (pe_one (pe_cmpR op_le (pv 0) (pv 1) (nomark _))))))), ?_⟩
    cases b with
    | none =>
      refine ⟨.non, rfl, rfl, true, rfl, iteT ?_⟩
      rw [show decide (leA a none) = true from decide_eq_true (leA_none a)] at q
      exact q
    | some b =>
      refine ⟨.int b, rfl, rfl, false, rfl, iteF ?_⟩
      cases a with
      | none => exact ⟨.non, rfl, rfl, false, rfl, iteF q⟩
      | some a =>
        refine ⟨.int a, rfl, rfl, true, rfl, iteT ⟨.int a, rfl, .int b, rfl, a, b, rfl, rfl, ?_⟩⟩
        have e : decide ((a : Int) ≤ (b : Int)) = decide (leA (some a) (some b)) := decide_eq_decide.mpr ⟨fun h => Int.ofNat_le.mp h, fun h => Int.ofNat_le.mpr h⟩
        show Q (.bl (decide ((a : Int) ≤ (b : Int)))) H
        rw [e]
        exact q
abbrev sLShift : Stmt := topS 51
theorem scLShift : FnScope ["_law_a", "_law_c"] ["_law_a", "_law_c"] (defScope sLShift) := ⟨rfl, rfl, rfl, by decide +kernel, rfl, by decide +kernel, by decide +kernel⟩
def spLShift : Sp := fun vs H Q _ => ∃ (a : Am) (c : Int), vs = [amV a, .int c] ∧ ∀ H', Same H H' → Q (amV (shA a c)) H'
theorem kn_lshift (D : Stands K mg "_law_shift" sLShift) (mm : mg "max" = none) : Kn P w K mg base (k + 1) "_law_shift" ["_law_a", "_law_c"] spLShift := by
  refine kn_of D scLShift (fun _ _ _ _ _ _ us hl => match us, hl with | [_, _], _ => rfl) (fun vs H Q E h => ?_) (fun f cdv A outer s H vs Q E hr h => ?_)
  · obtain ⟨a, b, rfl, _⟩ := h
    rfl
  · obtain ⟨a, c, rfl, q⟩ := h
    refine ⟨_, pss_cons (ps_if (pt_cmpR op_isN (pv 0) pe_non (nomark _)) (pss_one (ps_ret pe_non)) pss_nil)
      (pss_one (ps_ret (pe_callB (cr_max rfl) (by rfl) mm (by decide +kernel) (pa_cons (pe_lst (pa_cons pe_int (pa_cons (pe_op op_add (pv 0) (pv 1)) pa_nil))) pa_nil)))), ?_⟩
    cases a with
    | none => exact ⟨.non, rfl, rfl, true, rfl, iteT (q H (Same.refl H))⟩
    | some a =>
      refine ⟨.int a, rfl, rfl, false, rfl, iteF ?_⟩
      refine ⟨.int a, rfl, .int c, rfl, a, c, rfl, rfl, by show 2 ≤ sizeLine; decide, fun p np => ?_⟩
      refine ⟨p, [0, (a : Int) + c], rfl, SqL.of upd_same, by show 0 < 2; omega, fun m hm hmax => ?_⟩
      have h0 := hmax 0 List.mem_cons_self
      have h1 := hmax ((a : Int) + c) (List.mem_cons_of_mem _ List.mem_cons_self)
      have e : m = ((((a : Int) + c).toNat : Nat) : Int) := by
        rcases List.mem_cons.mp hm with z | z
        · omega
        · have z := List.mem_singleton.mp z
          omega
      rw [e]
      exact q _ (same_upd np)
/-! ### _law_value, _law_round -/
abbrev sLValue : Stmt := topS 52
abbrev nmLV : List Str := ["_law_formula_here", "_law_x", "_law_found", "_law_best", "_law_one", "_law_cell", "_law_shift_here"]
theorem scLValue : FnScope nmLV ["_law_formula_here", "_law_x"] (defScope sLValue) := ⟨rfl, rfl, rfl, by decide +kernel, rfl, by decide +kernel, by decide +kernel⟩
theorem kn_lvalue (D : Stands K mg "_law_value" sLValue) (GA : Kn P w K mg base k "_law_most" ["_law_a", "_law_b"] spAtMost) (GS : Kn P w K mg base k "_law_shift" ["_law_a", "_law_c"] spLShift) :
    Kn P w K mg base (k + 1) "_law_value" ["_law_formula_here", "_law_x"] spFlatValue := by
  refine kn_of D scLValue (fun _ _ _ _ _ _ us hl => match us, hl with | [_, _], _ => rfl) (fun vs H Q E h => ?_) (fun f cdv A outer s H vs Q E hr h => ?_)
  · obtain ⟨v, F, l, x, rfl, _⟩ := h
    rfl
  · obtain ⟨v, F, l, x, rfl, hF, wF, hsz, hx, q⟩ := h
    refine ⟨_, pss_cons (ps_if (pt_cmpR op_eq (pe_ix ix_tup (pv 0) pe_int (fun _ _ => rfl)) pe_str (nomark _)) (pss_one (ps_ret (pe_ix ix_tup (pv 0) pe_int (fun _ _ => rfl)))) pss_nil)
      (pss_cons (ps_if (pt_cmpR op_eq (pe_ix ix_tup (pv 0) pe_int (fun _ _ => rfl)) pe_str (nomark _))
        (pss_cons (ps_if (pt_val (pe_kn GA hr (by rfl) (pa_cons (pe_ix ix_tup (pv 0) pe_int (fun _ _ => rfl)) (pa_cons (pe_ix ix_list (pv 1) (pe_ix ix_tup (pv 0) pe_int (fun _ _ => rfl)) (fun _ _ => rfl)) pa_nil))))
          (pss_one (ps_ret (pe_ix ix_list (pv 1) (pe_ix ix_tup (pv 0) pe_int (fun _ _ => rfl)) (fun _ _ => rfl)))) pss_nil) (pss_one (ps_ret pe_int))) pss_nil)
      (pss_cons (ps_setLc (i := 2) (own := [("_law_cell", 5), ("_law_shift_here", 6)]) (g := gTup K 2 (gCons (gName 5) (gCons (gName 6) gNil))) (te := tCall spLShift [] E0 (tCons (tOp (rIxL K) (tVar 1) (tVar 5)) (tCons (tVar 6) tNil))) (by rfl) scLValue.nd rfl rfl (sw_true rfl rfl rfl (by decide +kernel)) (pi_list (pe_ix ix_tup (pv 0) pe_int (fun _ _ => rfl)))
        (blkOk_by (own := [("_law_cell", 5), ("_law_shift_here", 6)]) (N := nmLV) (sc := defScope sLValue) (by decide +kernel))
        (fun _ _ _ _ _ => pg_tup rfl (pgs_cons (pg_name (i := 5) scLValue.nd rfl (.inl rfl)) (pgs_cons (pg_name (i := 6) scLValue.nd rfl (.inl rfl)) pgs_nil))) (fun _ _ _ _ _ => pts_nil)
        (fun _ _ _ _ _ => pe_kn GS hr (by rfl) (pa_cons (pe_ix ix_list (pv 1) (pv 5) (fun _ _ => rfl)) (pa_cons (pv 6) pa_nil))))
      (pss_cons (ps_set (i := 3) scLValue.nd rfl (.inl rfl) (pe_ix ix_list (pv 2) pe_int (fun _ _ => rfl)))
      (pss_cons (ps_for PassesOwn.never rfl (pi_list (pv 2)) (pg_name (i := 4) scLValue.nd rfl (.inl rfl))
        (pss_one (ps_if (PW.pt (pw_or (PW.pt (pw_and (pt_cmpR op_eq (pe_ix ix_tup (pv 0) pe_int (fun _ _ => rfl)) pe_str (nomark _)) (pw_and1 (pt_val (pe_kn GA hr (by rfl) (pa_cons (pv 4) (pa_cons (pv 3) pa_nil)))))))
            (pw_or1 (PW.pt (pw_and (pt_cmpR op_eq (pe_ix ix_tup (pv 0) pe_int (fun _ _ => rfl)) pe_str (nomark _)) (pw_and1 (pt_val (pe_kn GA hr (by rfl) (pa_cons (pv 3) (pa_cons (pv 4) pa_nil))))))))))
          (pss_one (ps_set (i := 3) scLValue.nd rfl (.inl rfl) (pv 4))) pss_nil)))
      (pss_one (ps_ret (pv 3))))))), ?_⟩
    have hS : SqL K H l (x.map amV) := SqL.of hx
    have xat : ∀ j : Nat, j < x.length → atI (x.map amV) (j : Int) = some (amV (at_ x j)) := fun j hj => at_nat (by rw [List.getElem?_map, get_at hj]; rfl)
    cases F with
    | amt a =>
      obtain ⟨t, rfl, ht⟩ := hF
      refine ⟨.ref t, rfl, t, _, 0, _, rfl, rfl, SqT.of ht, atI_nat (j := 0) rfl, rfl, _, rfl, iteTd kAA ?_⟩
      exact ⟨.ref t, rfl, t, _, 1, _, rfl, rfl, SqT.of ht, atI_nat (j := 1) rfl, q H (Same.refl H)⟩
    | whn j a c =>
      obtain ⟨t, rfl, ht⟩ := hF
      refine ⟨.ref t, rfl, t, _, 0, _, rfl, rfl, SqT.of ht, atI_nat (j := 0) rfl, rfl, _, rfl, iteFd kWA ?_⟩
      refine ⟨.ref t, rfl, t, _, 0, _, rfl, rfl, SqT.of ht, atI_nat (j := 0) rfl, rfl, _, rfl, iteTd kWW ?_⟩
      have q := q H (Same.refl H)
      refine ⟨.ref t, rfl, t, _, 2, _, rfl, rfl, SqT.of ht, atI_nat (j := 2) rfl, .ref l, rfl, .ref t, rfl, t, _, 1, _, rfl, rfl, SqT.of ht, atI_nat (j := 1) rfl,
        l, _, (j : Int), _, rfl, rfl, hS, xat j wF.1, some a, at_ x j, rfl, _, rfl, ite2 (fun h => ?_) fun h => ?_⟩
      · refine ⟨.ref l, rfl, .ref t, rfl, t, _, 3, _, rfl, rfl, SqT.of ht, atI_nat (j := 3) rfl, l, _, (c : Int), _, rfl, rfl, hS, xat c wF.2, ?_⟩
        have e : val (.whn j a c) (at_ x) = at_ x c := if_pos (of_decide_eq_true h)
        rw [e] at q
        exact q
      · have e : val (.whn j a c) (at_ x) = some 0 := if_neg fun z => h (decide_eq_true z)
        rw [e] at q
        exact q
    | lst as =>
      obtain ⟨t, a, rfl, ht, vs, hv, hp⟩ := hF
      have hvl : vs.length = as.length := Paired.length hp
      have hle := hsz as (.inl rfl)
      refine ⟨.ref t, rfl, t, _, 0, _, rfl, rfl, SqT.of ht, atI_nat (j := 0) rfl, rfl, _, rfl, iteFd kLA ?_⟩
      refine ⟨.ref t, rfl, t, _, 0, _, rfl, rfl, SqT.of ht, atI_nat (j := 0) rfl, rfl, _, rfl, iteFd kLW ?_⟩
      refine ⟨.ref t, rfl, t, _, 1, .ref a, rfl, rfl, SqT.of ht, atI_nat (j := 1) rfl, a, rfl, ⟨vs, SqL.of hv⟩, fun Dl hD => ?_⟩
      refine lc_vals walk_list hD (fun i => amV (arcV (at_ x) (as.getD i (0, 0)))) (fun H' e => e.seq (SqL.of hv)) (by omega) (fun i y H1 H2 hi e1 hDl hY Q' q' => ?_) fun H' e1 e2 => ?_
      · obtain ⟨rfl, hy⟩ := hY
        obtain ⟨p, hp1, tt, rfl, htt⟩ := paired_get hp hy
        have hpa := getD_of (d := ((0, 0) : Arc)) hp1
        refine ⟨tt, _, rfl, SqT.of (e1 _ _ htt), rfl, _, _, rfl, _, _, rfl, rfl, rfl, ?_⟩
        refine ⟨.ref l, rfl, .int (p.1 : Int), rfl, l, _, (p.1 : Int), _, rfl, rfl, e1.seq hS, xat p.1 (wF.2 p (List.mem_of_getElem? hp1)), .int p.2, rfl, at_ x p.1, p.2, rfl, fun H3 e3 => ?_⟩
        have q2 := q' H3 e3
        rw [hpa] at q2
        exact q2
      · have e3 : H' Dl = some (.lst ((as.map (arcV (at_ x))).map amV)) := by
          rw [e2, hvl, List.map_map, ← map_range_get (d := ((0, 0) : Arc)) as]
          rfl
        have hne := wF.1
        obtain ⟨p0, ps, rfl⟩ : ∃ p0 ps, as = p0 :: ps := by
          cases as with
          | nil => exact absurd rfl hne
          | cons p ps => exact ⟨p, ps, rfl⟩
        refine ⟨_, rfl, Dl, _, 0, amV (arcV (at_ x) p0), rfl, rfl, SqL.of e3, atI_nat (j := 0) rfl, ?_⟩
        refine ⟨_, rfl, Dl, rfl, ⟨_, SqL.of e3⟩, ?_⟩
        have q := q H' e1
        have eV : val (.lst (p0 :: ps)) (at_ x) = minOf ((p0 :: ps).map (arcV (at_ x))) := rfl
        rw [eV] at q
        generalize hL : (p0 :: ps).map (arcV (at_ x)) = L at e3 q
        have hL0 : L = arcV (at_ x) p0 :: ps.map (arcV (at_ x)) := hL.symm
        refine for_it walk_list (fun i σ H2 => ∃ y4, σ = [some (.ref t), some (.ref l), some (.ref Dl), some (amV (runTo loStep (arcV (at_ x) p0) L i)), y4, none, none] ∧ H2 = H')
          ⟨none, rfl, rfl⟩ (fun i σ H2 _ ⟨_, _, e⟩ => by rw [e]; exact SqL.of e3) (fun i v σ H2 H3 hi hW hY => ?_) (fun σ H2 hW => ?_)
        · obtain ⟨y4, rfl, rfl⟩ := hW
          obtain ⟨rfl, hy⟩ := hY
          obtain ⟨one, ho, rfl⟩ := map_some hy
          rw [runTo_succ ho]
          refine ⟨.ref t, rfl, t, _, 0, _, rfl, rfl, SqT.of (e1 _ _ ht), atI_nat (j := 0) rfl, rfl, _, rfl, iteTd kLL ?_⟩
          refine ⟨_, rfl, _, rfl, one, _, rfl, _, rfl, ?_⟩
          by_cases c : leA one (runTo loStep (arcV (at_ x) p0) L i)
          · rw [decide_eq_true c, loStep_pos c]
            exact iteT (iteT ⟨_, rfl, _, rfl, rfl⟩)
          · rw [decide_eq_false c, loStep_neg c]
            refine iteF ⟨.ref t, rfl, t, _, 0, _, rfl, rfl, SqT.of (e1 _ _ ht), atI_nat (j := 0) rfl, rfl, _, rfl, iteFd kLG (iteF ⟨_, rfl, rfl⟩)⟩
        · obtain ⟨y4, rfl, rfl⟩ := hW
          refine ⟨_, rfl, ?_⟩
          rw [List.length_map, runTo_all, hL0, lo_all, ← hL0]
          exact q
    | gst as =>
      obtain ⟨t, a, rfl, ht, vs, hv, hp⟩ := hF
      have hvl : vs.length = as.length := Paired.length hp
      have hle := hsz as (.inr rfl)
      refine ⟨.ref t, rfl, t, _, 0, _, rfl, rfl, SqT.of ht, atI_nat (j := 0) rfl, rfl, _, rfl, iteFd kGA ?_⟩
      refine ⟨.ref t, rfl, t, _, 0, _, rfl, rfl, SqT.of ht, atI_nat (j := 0) rfl, rfl, _, rfl, iteFd kGW ?_⟩
      refine ⟨.ref t, rfl, t, _, 1, .ref a, rfl, rfl, SqT.of ht, atI_nat (j := 1) rfl, a, rfl, ⟨vs, SqL.of hv⟩, fun Dl hD => ?_⟩
      refine lc_vals walk_list hD (fun i => amV (arcV (at_ x) (as.getD i (0, 0)))) (fun H' e => e.seq (SqL.of hv)) (by omega) (fun i y H1 H2 hi e1 hDl hY Q' q' => ?_) fun H' e1 e2 => ?_
      · obtain ⟨rfl, hy⟩ := hY
        obtain ⟨p, hp1, tt, rfl, htt⟩ := paired_get hp hy
        have hpa := getD_of (d := ((0, 0) : Arc)) hp1
        refine ⟨tt, _, rfl, SqT.of (e1 _ _ htt), rfl, _, _, rfl, _, _, rfl, rfl, rfl, ?_⟩
        refine ⟨.ref l, rfl, .int (p.1 : Int), rfl, l, _, (p.1 : Int), _, rfl, rfl, e1.seq hS, xat p.1 (wF.2 p (List.mem_of_getElem? hp1)), .int p.2, rfl, at_ x p.1, p.2, rfl, fun H3 e3 => ?_⟩
        have q2 := q' H3 e3
        rw [hpa] at q2
        exact q2
      · have e3 : H' Dl = some (.lst ((as.map (arcV (at_ x))).map amV)) := by
          rw [e2, hvl, List.map_map, ← map_range_get (d := ((0, 0) : Arc)) as]
          rfl
        have hne := wF.1
        obtain ⟨p0, ps, rfl⟩ : ∃ p0 ps, as = p0 :: ps := by
          cases as with
          | nil => exact absurd rfl hne
          | cons p ps => exact ⟨p, ps, rfl⟩
        refine ⟨_, rfl, Dl, _, 0, amV (arcV (at_ x) p0), rfl, rfl, SqL.of e3, atI_nat (j := 0) rfl, ?_⟩
        refine ⟨_, rfl, Dl, rfl, ⟨_, SqL.of e3⟩, ?_⟩
        have q := q H' e1
        have eV : val (.gst (p0 :: ps)) (at_ x) = maxOf ((p0 :: ps).map (arcV (at_ x))) := rfl
        rw [eV] at q
        generalize hL : (p0 :: ps).map (arcV (at_ x)) = L at e3 q
        have hL0 : L = arcV (at_ x) p0 :: ps.map (arcV (at_ x)) := hL.symm
        refine for_it walk_list (fun i σ H2 => ∃ y4, σ = [some (.ref t), some (.ref l), some (.ref Dl), some (amV (runTo hiStep (arcV (at_ x) p0) L i)), y4, none, none] ∧ H2 = H')
          ⟨none, rfl, rfl⟩ (fun i σ H2 _ ⟨_, _, e⟩ => by rw [e]; exact SqL.of e3) (fun i v σ H2 H3 hi hW hY => ?_) (fun σ H2 hW => ?_)
        · obtain ⟨y4, rfl, rfl⟩ := hW
          obtain ⟨rfl, hy⟩ := hY
          obtain ⟨one, ho, rfl⟩ := map_some hy
          rw [runTo_succ ho]
          refine ⟨.ref t, rfl, t, _, 0, _, rfl, rfl, SqT.of (e1 _ _ ht), atI_nat (j := 0) rfl, rfl, _, rfl, iteFd kGL (iteF ?_)⟩
          refine ⟨.ref t, rfl, t, _, 0, _, rfl, rfl, SqT.of (e1 _ _ ht), atI_nat (j := 0) rfl, rfl, _, rfl, iteTd kGG ?_⟩
          refine ⟨_, rfl, _, rfl, _, one, rfl, _, rfl, ?_⟩
          by_cases c : leA (runTo hiStep (arcV (at_ x) p0) L i) one
          · rw [decide_eq_true c, hiStep_pos c]
            exact iteT ⟨_, rfl, _, rfl, rfl⟩
          · rw [decide_eq_false c, hiStep_neg c]
            exact iteF ⟨_, rfl, rfl⟩
        · obtain ⟨y4, rfl, rfl⟩ := hW
          refine ⟨_, rfl, ?_⟩
          rw [List.length_map, runTo_all, hL0, hi_all, ← hL0]
          exact q
abbrev sLRound : Stmt := topS 53
abbrev nmLR : List Str := ["_law_flat_here", "_law_x", "_law_formula_here"]
theorem scLRound : FnScope nmLR ["_law_flat_here", "_law_x"] (defScope sLRound) := ⟨rfl, rfl, rfl, by decide +kernel, rfl, by decide +kernel, by decide +kernel⟩
theorem kn_lround (D : Stands K mg "_law_round" sLRound) (GV : Kn P w K mg base k "_law_value" ["_law_formula_here", "_law_x"] spFlatValue) : Kn P w K mg base (k + 1) "_law_round" ["_law_flat_here", "_law_x"] spFlatValues := by
  refine kn_of D scLRound (fun _ _ _ _ _ _ us hl => match us, hl with | [_, _], _ => rfl) (fun vs H Q E h => ?_) (fun f cdv A outer s H vs Q E hr h => ?_)
  · obtain ⟨a, l, S, x, rfl, _⟩ := h
    rfl
  · obtain ⟨a, l, S, x, rfl, hS, oS, hx, hl, q⟩ := h
    refine ⟨_, pss_one (ps_ret (pe_lc (own := [("_law_formula_here", 2)]) (g := gName 2) (te := tCall spFlatValue [] E0 (tCons (tVar 2) (tCons (tVar 1) tNil))) (by rfl) scLRound.nd (pi_list (pv 0))
      (blkOk_by (own := [("_law_formula_here", 2)]) (N := nmLR) (sc := defScope sLRound) (by decide +kernel))
      (fun _ _ _ _ _ => pg_name (i := 2) scLRound.nd rfl (.inl rfl)) (fun _ _ _ _ _ => pts_nil) (fun _ _ _ _ _ => pe_kn GV hr (by rfl) (pa_cons (pv 2) (pa_cons (pv 1) pa_nil))))), ?_⟩
    obtain ⟨vs, hv, hp⟩ := id hS
    have hvl : vs.length = S.length := Paired.length hp
    refine ⟨.ref a, rfl, a, rfl, ⟨vs, SqL.of hv⟩, fun Dl hD => ?_⟩
    refine lc_vals walk_list hD (fun i => amV (at_ (lift1 S x) i)) (fun H' e => e.seq (SqL.of hv)) (by rw [hvl]; exact Nat.le_trans oS.len (by decide)) (fun i y H1 H2 hi e1 hDl hY Q' q' => ?_) fun H' e1 e2 => ?_
    · obtain ⟨rfl, hy⟩ := hY
      obtain ⟨F, hF1, hF2⟩ := paired_get hp hy
      refine ⟨rfl, y, rfl, .ref l, rfl, y, F, l, x, rfl, hF2.xt (Xt.of_same e1), by rw [hl]; exact oS.wf i F hF1, (oS.sz i F hF1).arcs, hx.xt (Xt.of_same e1), fun H3 e3 => ?_⟩
      have q2 := q' H3 e3
      have e : at_ (lift1 S x) i = val F (at_ x) := at_get (by unfold lift1; rw [List.getElem?_map, hF1]; rfl)
      rw [e] at q2
      exact q2
    · refine q H' Dl e1 hD ?_
      show H' Dl = some (.lst ((lift1 S x).map amV))
      rw [e2, hvl]
      congr 2
      have hlen : (lift1 S x).length = S.length := List.length_map ..
      rw [← hlen]
      exact range_map_eq fun i b hb => by rw [at_get hb]
end
end CW
namespace CW
open PySem PySem.Spec PyProof.Rows L2 CS
theorem allB_lfp {S : List Fm} (W : WFs S) : allB (lift1 S (lfpL S)) (lfpL S) = true := by
  unfold allB
  rw [List.all_eq_true]
  intro b hb
  obtain ⟨i, hi, rfl⟩ := List.mem_map.mp hb
  have hi : i < S.length := by
    have := List.mem_range.mp hi
    unfold lift1 at this
    rw [List.length_map] at this
    exact this
  have hF := List.getElem?_eq_getElem hi
  have e : at_ (lift1 S (lfpL S)) i = val S[i] (at_ (lfpL S)) := at_get (by unfold lift1; rw [List.getElem?_map, hF]; rfl)
  have e2 : val S[i] (at_ (lfpL S)) = val S[i] (lfp S) := val_congr (fun j hj => lfpL_at hj) (W i _ hF)
  refine decide_eq_true ?_
  rw [e, e2, lfpL_at hi]
  exact lfp_high S i _ hF
theorem nats_ints (l : List Nat) : l.map nat2V = (l.map (fun n : Nat => (n : Int))).map V.int := by
  rw [List.map_map]
  rfl
section
variable {P : Program} {w : World} {K : PySem.W.Frag} {mg : Str → Option Value} {base : Heap} {k : Nat}
/-! ### _law_bound -/
abbrev sLBound : Stmt := topS 56
abbrev nmLB : List Str := ["_law_flat_here", "_law_numbers", "_law_shifts", "_law_formula_here", "_law_arc"]
theorem scLBound : FnScope nmLB ["_law_flat_here"] (defScope sLBound) := ⟨rfl, rfl, rfl, by decide +kernel, rfl, by decide +kernel, by decide +kernel⟩
def spLBound : Sp := fun vs H Q _ => ∃ (a : Addr) (S : List Fm) (A0 C0 : Nat), vs = [.ref a] ∧ ShAt H a S ∧ OkS S ∧ ShBd A0 C0 S ∧
  ∀ H' A C, Same H H' → ShBd A C S → A ≤ A0 → C ≤ C0 → Q (.int ((A + S.length * C : Nat) : Int)) H'
theorem kn_lbound (D : Stands K mg "_law_bound" sLBound) (mm : mg "max" = none) (ml : mg "len" = none) : Kn P w K mg base (k + 1) "_law_bound" ["_law_flat_here"] spLBound := by
  refine kn_of D scLBound (fun _ _ _ _ _ _ us hl => match us, hl with | [_], _ => rfl) (fun vs H Q E h => ?_) (fun f cdv A outer s H vs Q E hr h => ?_)
  · obtain ⟨a, S, A0, C0, rfl, _⟩ := h
    rfl
  · obtain ⟨a, S, A0, C0, rfl, hS, oS, hB, q⟩ := h
    refine ⟨_, pss_cons (ps_par (i := 1) (j := 2) rfl scLBound.nd rfl rfl (by decide) rfl rfl (pa_cons (pe_lst (pa_cons pe_int pa_nil)) (pa_cons (pe_lst (pa_cons pe_int pa_nil)) pa_nil)) rfl)
      (pss_cons (ps_for PassesOwn.never rfl (pi_list (pv 0)) (pg_name (i := 3) scLBound.nd rfl (.inl rfl))
        (pss_cons (ps_if (PW.pt (pw_and (pt_cmpR op_eq (pe_ix ix_tup (pv 3) pe_int (fun _ _ => rfl)) pe_str (nomark _)) (pw_and1 (pt_cmpR op_notN (pe_ix ix_tup (pv 3) pe_int (fun _ _ => rfl)) pe_non (nomark _)))))
          (pss_one (ps_expr (pe_bm PySem.F.plainAttrs_list PySem.F.slot_list_append PySem.F.type_list_append mt_append (pv 1) (pa_cons (pe_ix ix_tup (pv 3) pe_int (fun _ _ => rfl)) pa_nil)))) pss_nil)
        (pss_one (ps_if (PW.pt (pw_or (pt_cmpR op_eq (pe_ix ix_tup (pv 3) pe_int (fun _ _ => rfl)) pe_str (nomark _)) (pw_or1 (pt_cmpR op_eq (pe_ix ix_tup (pv 3) pe_int (fun _ _ => rfl)) pe_str (nomark _)))))
          (pss_one (ps_set (i := 2) scLBound.nd rfl (.inl rfl) (pe_op op_cat (pv 2) (pe_lc (own := [("_law_arc", 4)]) (g := gName 4) (te := tOp (rIxT K) (tVar 4) (tC (.int 1))) (by rfl) scLBound.nd (pi_list (pe_ix ix_tup (pv 3) pe_int (fun _ _ => rfl)))
            (blkOk_by (own := [("_law_arc", 4)]) (N := nmLB) (sc := defScope sLBound) (by decide +kernel))
            (fun _ _ _ _ _ => pg_name (i := 4) scLBound.nd rfl (.inl rfl)) (fun _ _ _ _ _ => pts_nil) (fun _ _ _ _ _ => pe_ix ix_tup (pv 4) pe_int (fun _ _ => rfl)))))) pss_nil))))
      (pss_one (ps_ret (pe_op op_add (pe_callB (cr_max rfl) (by rfl) mm (by decide +kernel) (pa_cons (pv 1) pa_nil)) (pe_op op_mul (pe_callB call_len_seq (by rfl) ml PySem.boot_len (pa_cons (pv 0) pa_nil)) (pe_callB (cr_max rfl) (by rfl) mm (by decide +kernel) (pa_cons (pv 2) pa_nil))))))), ?_⟩
    obtain ⟨vs, hv, hp⟩ := id hS
    have hvl : vs.length = S.length := Paired.length hp
    have hlen := oS.len
    refine ⟨by show 1 ≤ sizeLine; decide, fun o1 n1 => ⟨by show 1 ≤ sizeLine; decide, fun o2 n2 => ⟨_, _, rfl, ?_⟩⟩⟩
    have s1 := same_upd (o := .lst [.int 0]) n1
    have s2 := same_upd (o := .lst [.int 0]) n2
    obtain ⟨n21, n20⟩ := upd_none_of n2
    have s12 := s1.trans s2
    refine ⟨_, rfl, a, rfl, ⟨vs, SqL.of (s12 _ _ hv)⟩, ?_⟩
    refine for_it walk_list (fun i σ H' => ∃ (o2 : Addr) (ns : List Nat) (ms : List Int) (y3 : Option V), σ = [some (.ref a), some (.ref o1), some (.ref o2), y3, none] ∧ Same H H' ∧ H' o1 = some (.lst (ns.map nat2V)) ∧ H' o2 = some (.lst (ms.map V.int)) ∧ o2 ≠ o1 ∧
        (∀ n ∈ ns, n ≤ A0) ∧ 0 ∈ ns ∧ (∀ j v, j < i → S[j]? = some (.amt (some v)) → v ∈ ns) ∧ (∀ m ∈ ms, m ≤ (C0 : Int)) ∧ 0 ∈ ms ∧ (∀ j as, j < i → S[j]? = some (.lst as) ∨ S[j]? = some (.gst as) → ∀ p ∈ as, p.2 ∈ ms) ∧ ns.length ≤ i + 1 ∧ ms.length ≤ 1 + 1000 * i)
      ⟨o2, [0], [0], none, rfl, s12, s2 _ _ upd_same, upd_same, n21, fun n hn => by rw [List.mem_singleton.mp hn]; exact Nat.zero_le _, List.mem_singleton.mpr rfl, fun j v hj => absurd hj (by omega), fun m hm => by rw [List.mem_singleton.mp hm]; exact Int.natCast_nonneg _, List.mem_singleton.mpr rfl, fun j as hj => absurd hj (by omega), Nat.le_refl _, Nat.le_refl _⟩
      (fun i σ H' _ ⟨_, _, _, _, _, e, _⟩ => e.seq (SqL.of hv)) (fun i v σ H1 H2 hi hW hY => ?_) (fun σ H' hW => ?_)
    · obtain ⟨o2, ns, ms, y3, rfl, e1, ho1, ho2, hne, b1, b2, b3, b4, b5, b6, b7, b8⟩ := hW
      obtain ⟨rfl, hy⟩ := hY
      obtain ⟨F, hF1, hF2⟩ := paired_get hp hy
      have less : ∀ {j : Nat}, j < i + 1 → j < i ∨ j = i := fun h => by omega
      cases F with
      | amt am =>
        obtain ⟨t, rfl, ht⟩ := hF2
        have ht := SqT.of (K := K) (e1 _ _ ht)
        refine ⟨.ref t, rfl, t, _, 0, _, rfl, rfl, ht, atI_nat (j := 0) rfl, rfl, _, rfl, iteTd kAA ?_⟩
        cases am with
        | none =>
          refine ⟨.ref t, rfl, t, _, 1, _, rfl, rfl, ht, atI_nat (j := 1) rfl, rfl, _, rfl, iteFd rfl ?_⟩
          refine ⟨.ref t, rfl, t, _, 0, _, rfl, rfl, ht, atI_nat (j := 0) rfl, rfl, _, rfl, iteFd kAL ?_⟩
          refine ⟨.ref t, rfl, t, _, 0, _, rfl, rfl, ht, atI_nat (j := 0) rfl, rfl, _, rfl, iteFd kAG ?_⟩
          refine ⟨o2, ns, ms, _, rfl, e1, ho1, ho2, hne, b1, b2, fun j v hj hs => ?_, b4, b5, fun j as hj hs => ?_, by omega, by omega⟩
          · rcases less hj with h | h
            · exact b3 j v h hs
            · rw [h, hF1] at hs
              cases hs
          · rcases less hj with h | h
            · exact b6 j as h hs
            · rw [h, hF1] at hs
              rcases hs with hs | hs <;> cases hs
        | some v =>
          refine ⟨.ref t, rfl, t, _, 1, _, rfl, rfl, ht, atI_nat (j := 1) rfl, rfl, _, rfl, iteTd rfl ?_⟩
          refine ⟨.ref o1, rfl, .inl ⟨rfl, _, SqL.of ho1⟩, .ref t, rfl, t, _, 1, _, rfl, rfl, ht, atI_nat (j := 1) rfl, ?_⟩
          refine ⟨o1, _, .int (v : Int), rfl, rfl, ho1, szl (by rw [List.length_map]; omega), ?_⟩
          have e2 : Same H (upd H2 o1 (.lst (ns.map nat2V ++ [.int (v : Int)]))) := same_mut e1 n1
          have ht2 : (upd H2 o1 (.lst (ns.map nat2V ++ [.int (v : Int)]))) t = some (.tup [.str "amount", .int (v : Int)]) := by
            have ht0 : H2 t = some (.tup [.str "amount", .int (v : Int)]) := by
              obtain ⟨t', et, ht'⟩ := (show FmAt H (.ref t) (.amt (some v)) from ⟨t, rfl, by assumption⟩)
              cases et
              exact e1 _ _ ht'
            rw [upd_ne (ne_of ht0 ho1 fun z => nomatch z)]
            exact ht0
          refine ⟨.ref t, rfl, t, _, 0, _, rfl, rfl, SqT.of ht2, atI_nat (j := 0) rfl, rfl, _, rfl, iteFd kAL ?_⟩
          refine ⟨.ref t, rfl, t, _, 0, _, rfl, rfl, SqT.of ht2, atI_nat (j := 0) rfl, rfl, _, rfl, iteFd kAG ?_⟩
          refine ⟨o2, ns ++ [v], ms, _, rfl, e2, by rw [List.map_append]; exact upd_same, by rw [upd_ne hne]; exact ho2, hne, fun n hn => ?_, List.mem_append_left _ b2, fun j u hj hs => ?_, b4, b5, fun j as hj hs => ?_, by rw [List.length_append]; show ns.length + 1 ≤ _; omega, by omega⟩
          · rcases List.mem_append.mp hn with h | h
            · exact b1 n h
            · rw [List.mem_singleton.mp h]
              exact hB i _ hF1
          · rcases less hj with h | h
            · exact List.mem_append_left _ (b3 j u h hs)
            · rw [h, hF1] at hs
              cases hs
              exact List.mem_append_right _ (List.mem_singleton.mpr rfl)
          · rcases less hj with h | h
            · exact b6 j as h hs
            · rw [h, hF1] at hs
              rcases hs with hs | hs <;> cases hs
      | whn j0 b d =>
        obtain ⟨t, rfl, ht⟩ := hF2
        have ht := SqT.of (K := K) (e1 _ _ ht)
        refine ⟨.ref t, rfl, t, _, 0, _, rfl, rfl, ht, atI_nat (j := 0) rfl, rfl, _, rfl, iteFd kWA (iteFd rfl ?_)⟩
        refine ⟨.ref t, rfl, t, _, 0, _, rfl, rfl, ht, atI_nat (j := 0) rfl, rfl, _, rfl, iteFd kWL ?_⟩
        refine ⟨.ref t, rfl, t, _, 0, _, rfl, rfl, ht, atI_nat (j := 0) rfl, rfl, _, rfl, iteFd kWG ?_⟩
        refine ⟨o2, ns, ms, _, rfl, e1, ho1, ho2, hne, b1, b2, fun j v hj hs => ?_, b4, b5, fun j as hj hs => ?_, by omega, by omega⟩
        · rcases less hj with h | h
          · exact b3 j v h hs
          · rw [h, hF1] at hs
            cases hs
        · rcases less hj with h | h
          · exact b6 j as h hs
          · rw [h, hF1] at hs
            rcases hs with hs | hs <;> cases hs
      | lst as0 =>
        obtain ⟨t, l, rfl, ht0, us, hu, hus⟩ := hF2
        have hul : us.length = as0.length := Paired.length hus
        have hal : as0.length ≤ 1000 := oS.sz i _ hF1
        have ht := SqT.of (K := K) (e1 _ _ ht0)
        refine ⟨.ref t, rfl, t, _, 0, _, rfl, rfl, ht, atI_nat (j := 0) rfl, rfl, _, rfl, iteFd kLA (iteFd rfl ?_)⟩
        refine ⟨.ref t, rfl, t, _, 0, _, rfl, rfl, ht, atI_nat (j := 0) rfl, rfl, _, rfl, iteTd kLL (iteTd rfl ?_)⟩
        refine ⟨_, rfl, .ref t, rfl, t, _, 1, _, rfl, rfl, ht, atI_nat (j := 1) rfl, l, rfl, ⟨us, SqL.of (e1 _ _ hu)⟩, fun Dl hD => ?_⟩
        refine lc_vals walk_list hD (fun i => .int (as0.getD i (0, 0)).2) (fun H' e => e.seq (SqL.of (e1 _ _ hu))) (by omega) (fun i2 y H3 H4 hi2 e3 hDl hY Q' q' => ?_) fun H3 e3 hDl => ?_
        · obtain ⟨rfl, hy2⟩ := hY
          obtain ⟨pr, hpr, tt, rfl, htt⟩ := paired_get hus hy2
          refine ⟨rfl, .ref tt, rfl, tt, _, 1, _, rfl, rfl, SqT.of (e3 _ _ (e1 _ _ htt)), atI_nat (j := 1) rfl, ?_⟩
          have q2 := q' H4 (Same.refl _)
          rw [show as0.getD i2 (0, 0) = pr from getD_of hpr] at q2
          exact q2
        · have hDl2 : H3 Dl = some (.lst ((as0.map (fun p => p.2)).map V.int)) := by
            rw [hDl, hul, List.map_map, ← map_range_get (d := ((0, 0) : Arc)) as0]
            rfl
          have e13 := e1.trans e3
          refine ⟨o2, Dl, _, _, rfl, rfl, e3 _ _ ho2, hDl2, ?_, fun o3 n3 => ?_⟩
          · rw [List.length_map, List.length_map, List.length_map]
            exact Nat.le_trans (show ms.length + as0.length ≤ 2000000 by omega) (by decide)
          have s4 := same_upd (o := .lst (ms.map V.int ++ (as0.map (fun p => p.2)).map V.int)) n3
          refine ⟨o3, ns, ms ++ as0.map (fun p => p.2), _, rfl, e13.trans s4, s4 _ _ (e3 _ _ ho1), by rw [List.map_append]; exact upd_same, (ne_of_none (e3 _ _ ho1) n3).symm, b1, b2, fun j v hj hs => ?_, fun m hm => ?_, List.mem_append_left _ b5, fun j as hj hs => ?_, by omega, by rw [List.length_append, List.length_map]; omega⟩
          · rcases less hj with h | h
            · exact b3 j v h hs
            · rw [h, hF1] at hs
              cases hs
          · rcases List.mem_append.mp hm with h | h
            · exact b4 m h
            · obtain ⟨pr, hpr, rfl⟩ := List.mem_map.mp h
              exact hB i _ hF1 pr hpr
          · rcases less hj with h | h
            · exact fun pr hpr => List.mem_append_left _ (b6 j as h hs pr hpr)
            · rw [h, hF1] at hs
              rcases hs with hs | hs <;> cases hs
              exact fun pr hpr => List.mem_append_right _ (List.mem_map.mpr ⟨pr, hpr, rfl⟩)
      | gst as0 =>
        obtain ⟨t, l, rfl, ht0, us, hu, hus⟩ := hF2
        have hul : us.length = as0.length := Paired.length hus
        have hal : as0.length ≤ 1000 := oS.sz i _ hF1
        have ht := SqT.of (K := K) (e1 _ _ ht0)
        refine ⟨.ref t, rfl, t, _, 0, _, rfl, rfl, ht, atI_nat (j := 0) rfl, rfl, _, rfl, iteFd kGA (iteFd rfl ?_)⟩
        refine ⟨.ref t, rfl, t, _, 0, _, rfl, rfl, ht, atI_nat (j := 0) rfl, rfl, _, rfl, iteFd kGL ?_⟩
        refine ⟨.ref t, rfl, t, _, 0, _, rfl, rfl, ht, atI_nat (j := 0) rfl, rfl, _, rfl, iteTd kGG ?_⟩
        refine ⟨_, rfl, .ref t, rfl, t, _, 1, _, rfl, rfl, ht, atI_nat (j := 1) rfl, l, rfl, ⟨us, SqL.of (e1 _ _ hu)⟩, fun Dl hD => ?_⟩
        refine lc_vals walk_list hD (fun i => .int (as0.getD i (0, 0)).2) (fun H' e => e.seq (SqL.of (e1 _ _ hu))) (by omega) (fun i2 y H3 H4 hi2 e3 hDl hY Q' q' => ?_) fun H3 e3 hDl => ?_
        · obtain ⟨rfl, hy2⟩ := hY
          obtain ⟨pr, hpr, tt, rfl, htt⟩ := paired_get hus hy2
          refine ⟨rfl, .ref tt, rfl, tt, _, 1, _, rfl, rfl, SqT.of (e3 _ _ (e1 _ _ htt)), atI_nat (j := 1) rfl, ?_⟩
          have q2 := q' H4 (Same.refl _)
          rw [show as0.getD i2 (0, 0) = pr from getD_of hpr] at q2
          exact q2
        · have hDl2 : H3 Dl = some (.lst ((as0.map (fun p => p.2)).map V.int)) := by
            rw [hDl, hul, List.map_map, ← map_range_get (d := ((0, 0) : Arc)) as0]
            rfl
          have e13 := e1.trans e3
          refine ⟨o2, Dl, _, _, rfl, rfl, e3 _ _ ho2, hDl2, ?_, fun o3 n3 => ?_⟩
          · rw [List.length_map, List.length_map, List.length_map]
            exact Nat.le_trans (show ms.length + as0.length ≤ 2000000 by omega) (by decide)
          have s4 := same_upd (o := .lst (ms.map V.int ++ (as0.map (fun p => p.2)).map V.int)) n3
          refine ⟨o3, ns, ms ++ as0.map (fun p => p.2), _, rfl, e13.trans s4, s4 _ _ (e3 _ _ ho1), by rw [List.map_append]; exact upd_same, (ne_of_none (e3 _ _ ho1) n3).symm, b1, b2, fun j v hj hs => ?_, fun m hm => ?_, List.mem_append_left _ b5, fun j as hj hs => ?_, by omega, by rw [List.length_append, List.length_map]; omega⟩
          · rcases less hj with h | h
            · exact b3 j v h hs
            · rw [h, hF1] at hs
              cases hs
          · rcases List.mem_append.mp hm with h | h
            · exact b4 m h
            · obtain ⟨pr, hpr, rfl⟩ := List.mem_map.mp h
              exact hB i _ hF1 pr hpr
          · rcases less hj with h | h
            · exact fun pr hpr => List.mem_append_left _ (b6 j as h hs pr hpr)
            · rw [h, hF1] at hs
              rcases hs with hs | hs <;> cases hs
              exact fun pr hpr => List.mem_append_right _ (List.mem_map.mpr ⟨pr, hpr, rfl⟩)
    · obtain ⟨o2, ns, ms, y3, rfl, e1, ho1, ho2, hne, b1, b2, b3, b4, b5, b6, b7, b8⟩ := hW
      rw [nats_ints] at ho1
      rw [hvl] at b3 b6
      refine ⟨_, rfl, o1, _, rfl, SqL.of ho1, ?_, fun m1 hm1 hx1 => ?_⟩
      · rw [List.length_map]
        exact List.length_pos_of_mem b2
      refine ⟨_, rfl, a, vs, rfl, .inl (e1.seq (SqL.of hv)), _, rfl, o2, ms, rfl, SqL.of ho2, List.length_pos_of_mem b5, fun m2 hm2 hx2 => ?_⟩
      rw [hvl]
      obtain ⟨A, hA, rfl⟩ := List.mem_map.mp hm1
      obtain ⟨C, rfl⟩ : ∃ C : Nat, m2 = (C : Int) := ⟨m2.toNat, (Int.toNat_of_nonneg (hx2 0 b5)).symm⟩
      refine ⟨(S.length : Int), (C : Int), rfl, rfl, .inl ⟨by omega, by omega⟩, (A : Int), (S.length : Int) * (C : Int), rfl, rfl, ?_⟩
      have q2 := q H' A C e1 (fun i F hF => ?_) (b1 A hA) (by have := b4 _ hm2; omega)
      · rw [Int.natCast_add, Int.natCast_mul] at q2
        exact q2
      · have hi := (List.getElem?_eq_some_iff.mp hF).1
        cases F with
        | amt am =>
          cases am with
          | none => trivial
          | some v =>
            have := hx1 (v : Int) (List.mem_map.mpr ⟨v, b3 i v hi hF, rfl⟩)
            show v ≤ A
            omega
        | lst as => exact fun p hp => hx2 _ (b6 i as hi (.inl hF) p hp)
        | gst as => exact fun p hp => hx2 _ (b6 i as hi (.inr hF) p hp)
        | whn _ _ _ => trivial
/-! ### _law_least -/
abbrev sLLeast : Stmt := topS 57
abbrev nmLL : List Str := ["_law_flat_here", "_law_bound_here", "_law_x", "_law_turn", "_law_later", "_law_one", "_law_cell"]
theorem scLLeast : FnScope nmLL ["_law_flat_here"] (defScope sLLeast) := ⟨rfl, rfl, rfl, by decide +kernel, rfl, by decide +kernel, by decide +kernel⟩
def spLLeast : Sp := fun vs H Q _ => ∃ (a : Addr) (S : List Fm) (A0 C0 : Nat), vs = [.ref a] ∧ ShAt H a S ∧ OkS S ∧ ShBd A0 C0 S ∧ A0 ≤ 1000 ∧ C0 ≤ 1000 ∧ ∀ H' o, Same H H' → AmsAt H' o (lfpL S) → Q (.ref o) H'
theorem trunc_some {B v : Nat} : trunc B (some v) = if B < v then none else some v := rfl
theorem kn_lleast (D : Stands K mg "_law_least" sLLeast) (GB : Kn P w K mg base k "_law_bound" ["_law_flat_here"] spLBound) (GR : Kn P w K mg base k "_law_round" ["_law_flat_here", "_law_x"] spFlatValues) (mr : mg "range" = none) (ml : mg "len" = none) :
    Kn P w K mg base (k + 1) "_law_least" ["_law_flat_here"] spLLeast := by
  refine kn_of D scLLeast (fun _ _ _ _ _ _ us hl => match us, hl with | [_], _ => rfl) (fun vs H Q E h => ?_) (fun f cdv A outer s H vs Q E hr h => ?_)
  · obtain ⟨a, S, A0, C0, rfl, _⟩ := h
    rfl
  · obtain ⟨a, S, A0, C0, rfl, hS, oS, hB, hA0, hC0, q⟩ := h
    refine ⟨_, pss_cons (ps_set (i := 1) scLLeast.nd rfl (.inl rfl) (pe_kn GB hr (by rfl) (pa_cons (pv 0) pa_nil)))
      (pss_cons (ps_setLc (i := 2) (own := [("_law_cell", 6)]) (g := gName 6) (te := tC (.int 0)) (by rfl) scLLeast.nd rfl rfl (sw_true rfl rfl rfl (by decide +kernel)) (pi_list (pv 0))
        (blkOk_by (own := [("_law_cell", 6)]) (N := nmLL) (sc := defScope sLLeast) (by decide +kernel))
        (fun _ _ _ _ _ => pg_name (i := 6) scLLeast.nd rfl (.inl rfl)) (fun _ _ _ _ _ => pts_nil) (fun _ _ _ _ _ => pe_int))
      (pss_cons (ps_for PassesOwn.never rfl (pi_range1 (by rfl) mr (pa_cons (pe_op op_add (pe_op op_mul (pe_callB call_len_seq (by rfl) ml PySem.boot_len (pa_cons (pv 0) pa_nil)) (pe_op op_add (pv 1) pe_int)) pe_int) pa_nil)) (pg_name (i := 3) scLLeast.nd rfl (.inl rfl))
        (pss_cons (ps_set (i := 4) scLLeast.nd rfl (.inl rfl) (pe_lst pa_nil))
        (pss_cons (ps_for PassesOwn.never rfl (pi_list (pe_kn GR hr (by rfl) (pa_cons (pv 0) (pa_cons (pv 2) pa_nil)))) (pg_name (i := 5) scLLeast.nd rfl (.inl rfl))
          (pss_cons (ps_if (PW.pt (pw_and (pt_cmpR op_notN (pv 5) pe_non (nomark _)) (pw_and1 (pt_cmpR op_gt (pv 5) (pv 1) (nomark _))))) (pss_one (ps_set (i := 5) scLLeast.nd rfl (.inl rfl) pe_non)) pss_nil)
          (pss_one (ps_expr (pe_bm PySem.F.plainAttrs_list PySem.F.slot_list_append PySem.F.type_list_append mt_append (pv 4) (pa_cons (pv 5) pa_nil))))))
        (pss_cons (ps_if (pt_cmpR (op_eqD hr.units) (pv 4) (pv 2) (nomark _)) (pss_one ps_break) pss_nil)
        (pss_one (ps_set (i := 2) scLLeast.nd rfl (.inl rfl) (pv 4)))))))
      (pss_one (ps_ret (pv 2))))), ?_⟩
    obtain ⟨vs, hv, hp⟩ := id hS
    have hvl : vs.length = S.length := Paired.length hp
    have hlen := oS.len
    refine ⟨_, rfl, a, S, A0, C0, rfl, hS, oS, hB, fun H1 A C e1 hB2 hA hC => ?_⟩
    refine ⟨_, rfl, a, rfl, ⟨vs, e1.seq (SqL.of hv)⟩, fun xo nx => ?_⟩
    refine lc_vals walk_list nx (fun _ => .int 0) (fun H' e => (e1.trans e).seq (SqL.of hv)) (by omega) (fun i y H2 H3 hi e2 hDl hY Q' q' => ?_) fun H2 e2 hxo => ?_
    · obtain ⟨rfl, hy⟩ := hY
      exact ⟨rfl, q' H3 (Same.refl _)⟩
    have hmul : S.length * C ≤ 1000 * 1000 := Nat.mul_le_mul hlen (by omega)
    generalize hBd : A + S.length * C = B
    have hBle : B ≤ 1001000 := by omega
    have hN : S.length * (B + 3) ≤ 1000 * 1001003 := Nat.mul_le_mul hlen (by omega)
    have e12 := e1.trans e2
    have hx0 : AmsAt H2 xo (List.replicate S.length (some 0)) := by
      show H2 xo = some (.lst ((List.replicate S.length (some 0)).map amV))
      rw [hxo, hvl, List.map_replicate]
      congr 2
      exact List.ext_getElem? fun i => by
        by_cases hi : i < S.length
        · rw [List.getElem?_map, List.getElem?_range hi, List.getElem?_replicate_of_lt hi]
          rfl
        · rw [List.getElem?_eq_none (by rw [List.length_map, List.length_range]; omega), List.getElem?_eq_none (by rw [List.length_replicate]; omega)]
    have hit : lawIter S B (S.length * (B + 3) + 3) (List.replicate S.length (some 0)) = lfpL S := by
      rw [← hBd]
      exact lawLeast_ok oS.wf hB2
    refine ⟨_, rfl, a, vs, rfl, .inl (e12.seq (SqL.of hv)), ?_⟩
    rw [hvl]
    refine ⟨_, rfl, (B : Int), 3, rfl, rfl, (S.length : Int), (B : Int) + 3, rfl, rfl, .inl ⟨by omega, by omega⟩, (S.length : Int) * ((B : Int) + 3), 3, rfl, rfl, (S.length : Int) * ((B : Int) + 3) + 3, rfl, ?_⟩
    have eN : (S.length : Int) * ((B : Int) + 3) + 3 = ((S.length * (B + 3) + 3 : Nat) : Int) := by
      rw [Int.natCast_add, Int.natCast_mul, Int.natCast_add]
      rfl
    rw [eN]
    refine ⟨by omega, by omega, ?_⟩
    rw [Int.toNat_natCast]
    generalize S.length * (B + 3) + 3 = N at hit hN
    refine for_it walk_range0 (fun r σ H' => ∃ (xo : Addr) (x : List Am) (y3 y4 y5 : Option V), σ = [some (.ref a), some (.int (B : Int)), some (.ref xo), y3, y4, y5, none] ∧ Same H H' ∧ AmsAt H' xo x ∧ x.length = S.length ∧ lawIter S B (N - r) x = lfpL S)
      ⟨xo, _, none, none, none, rfl, e12, hx0, List.length_replicate, hit⟩ (fun i σ H' _ _ => trivial) (fun r v σ H3 H4 hr1 hW hY => ?_) (fun σ H' hW => ?_)
    · obtain ⟨xo, x, y3, y4, y5, rfl, e3, hx, hxl, hit⟩ := hW
      obtain ⟨rfl, rfl⟩ := hY
      obtain ⟨k2, hk2⟩ : ∃ k2, N - r = k2 + 1 := ⟨N - r - 1, by omega⟩
      have hk3 : N - (r + 1) = k2 := by omega
      rw [hk2] at hit
      have hit : (if lawRound S B x = x then x else lawIter S B k2 (lawRound S B x)) = lfpL S := hit
      refine ⟨Nat.zero_le _, fun lo nlo => ?_⟩
      have s4 := same_upd (o := .lst []) nlo
      have e4 := e3.trans s4
      have nloH : H lo = none := e3.free nlo
      refine ⟨_, rfl, _, rfl, a, xo, S, x, rfl, hS.xt (Xt.of_same e4), oS, hx.xt (Xt.of_same s4), hxl, fun H5 lr e5 nlr hlr => ?_⟩
      have e45 := e4.trans e5
      have hlo5 : H5 lo = some (.lst []) := e5 _ _ upd_same
      have nll : lr ≠ lo := fun z => by
        rw [z, upd_same] at nlr
        cases nlr
      have hl1 : (lift1 S x).length = S.length := List.length_map ..
      have eR : lawRound S B x = (lift1 S x).map (trunc B) := by
        unfold lawRound lift1
        rw [List.map_map]
        rfl
      refine ⟨lr, rfl, ⟨_, SqL.of hlr⟩, ?_⟩
      refine for_it walk_list (fun j σ H' => ∃ (y5 : Option V), σ = [some (.ref a), some (.int (B : Int)), some (.ref xo), some (.int (r : Int)), some (.ref lo), y5, none] ∧ Same H H' ∧ AmsAt H' xo x ∧ H' lr = some (.lst ((lift1 S x).map amV)) ∧ H' lo = some (.lst ((((lift1 S x).take j).map (trunc B)).map amV)))
        ⟨y5, rfl, e45, hx.xt (Xt.of_same (s4.trans e5)), hlr, hlo5⟩ (fun i σ H' _ ⟨_, _, _, _, e, _⟩ => SqL.of e) (fun j v σ H6 H7 hj hW hY => ?_) (fun σ H' hW => ?_)
      · obtain ⟨z5, rfl, e6, hx6, hlr6, hlo6⟩ := hW
        obtain ⟨rfl, hy⟩ := hY
        obtain ⟨one, ho, rfl⟩ := map_some hy
        have hjl : j < (lift1 S x).length := (List.getElem?_eq_some_iff.mp ho).1
        have nxo : xo ≠ lo := fun z => by
          rw [z] at hx
          rw [show H4 lo = _ from hx] at nlo
          cases nlo
        have tk : ((lift1 S x).take (j + 1)).map (trunc B) = ((lift1 S x).take j).map (trunc B) ++ [trunc B one] := by
          rw [List.take_succ, ho, List.map_append]
          rfl
        have put : ∀ (u : Am), u = trunc B one → tDrop (tBM K "list" rAppend (tVar 4) (tCons (tVar 5) tNil))
            { nx := fun σ H' => ∃ (y5 : Option V), σ = [some (.ref a), some (.int (B : Int)), some (.ref xo), some (.int (r : Int)), some (.ref lo), y5, none] ∧ Same H H' ∧ AmsAt H' xo x ∧ H' lr = some (.lst ((lift1 S x).map amV)) ∧ H' lo = some (.lst ((((lift1 S x).take (j + 1)).map (trunc B)).map amV)), rt := Q }
            [some (.ref a), some (.int (B : Int)), some (.ref xo), some (.int (r : Int)), some (.ref lo), some (amV u), none] H7 := fun u hu => by
          refine ⟨.ref lo, rfl, .inl ⟨rfl, _, SqL.of hlo6⟩, _, rfl, lo, _, _, rfl, rfl, hlo6, szl (by rw [List.length_map, List.length_map, List.length_take]; omega), _, rfl, same_mut e6 nloH, ?_, by rw [upd_ne nll]; exact hlr6, ?_⟩
          · show (upd H7 lo _) xo = _
            rw [upd_ne nxo]
            exact hx6
          · rw [upd_same, tk, List.map_append, ← hu]
            rfl
        cases one with
        | none =>
          refine ⟨_, rfl, rfl, _, rfl, iteFd rfl ?_⟩
          exact put none rfl
        | some v =>
          refine ⟨_, rfl, rfl, _, rfl, iteTd rfl ?_⟩
          refine ⟨_, rfl, _, rfl, (v : Int), (B : Int), rfl, rfl, _, rfl, ite2 (fun c => ?_) fun c => ?_⟩
          · have c : (B : Int) < (v : Int) := of_decide_eq_true c
            exact put none (by rw [trunc_some, if_pos (by omega)])
          · have c : ¬ (B : Int) < (v : Int) := fun z => c (decide_eq_true z)
            exact put (some v) (by rw [trunc_some, if_neg (by omega)])
      · obtain ⟨z5, rfl, e6, hx6, hlr6, hlo6⟩ := hW
        rw [List.length_map, List.take_length, ← eR] at hlo6
        refine ⟨_, rfl, _, rfl, eq_ams hlo6 hx6 ⟨_, rfl, ite2 (fun c => ?_) fun c => ?_⟩⟩
        · rw [if_pos (of_decide_eq_true c)] at hit
          refine ⟨_, rfl, q H' xo e6 ?_⟩
          rw [← hit]
          exact hx6
        · rw [if_neg fun z => c (decide_eq_true z)] at hit
          refine ⟨_, rfl, lo, lawRound S B x, _, _, _, rfl, e6, hlo6, lawRound_len, ?_⟩
          rw [hk3]
          exact hit
    · obtain ⟨xo, x, y3, y4, y5, rfl, e3, hx, hxl, hit⟩ := hW
      rw [Nat.sub_self] at hit
      have hit : x = lfpL S := hit
      refine ⟨_, rfl, q H' xo e3 ?_⟩
      rw [← hit]
      exact hx
/-! ### _law_is_checked -/
abbrev sChecked : Stmt := topS 62
abbrev nmCk : List Str := ["_law_flat_here", "_law_at", "_law_cell", "_law_goal", "_law_amount_here", "_law_x"]
theorem scChecked : FnScope nmCk ["_law_flat_here", "_law_at", "_law_cell", "_law_goal", "_law_amount_here"] (defScope sChecked) := ⟨rfl, rfl, rfl, by decide +kernel, rfl, by decide +kernel, by decide +kernel⟩
def spChecked (Pt : Addr) : Sp := fun vs H Q _ => ∃ (a : Addr) (S : List Fm) (ic c g b : Nat), vs = [.ref a, .int (ic : Int), .int (c : Int), .int (g : Int), .int (b : Int)] ∧ Asked Pt H a S ic c ∧ ¬ leA (some g) (ans S ic c b) ∧
  ∀ H', Xt H H' → LamX.Tabs [(Pt, qLam)] H' → Q (.bl true) H'
theorem kn_checked {Pt : Addr} (D : Stands K mg "_law_is_checked" sChecked) (GM : KnK P w K mg base k "miss_of" ["flat", "input_cell", "cell", "goal", "amount"] 2 ["cell", "goal", "amount"] (spMissOf Pt)) (GI : KnK P w K mg base k "is_missed" ["flat", "input_cell", "cell", "goal", "amount", "x"] 2 ["cell", "goal", "amount", "x"] (spIsMissed Pt)) :
    Kn P w K mg base (k + 1) "_law_is_checked" ["_law_flat_here", "_law_at", "_law_cell", "_law_goal", "_law_amount_here"] (spChecked Pt) := by
  refine kn_of D scChecked (fun _ _ _ _ _ _ us hl => match us, hl with | [_, _, _, _, _], _ => rfl) (fun vs H Q E h => ?_) (fun f cdv A outer s H vs Q E hr h => ?_)
  · obtain ⟨a, S, ic, c, g, b, rfl, _⟩ := h
    rfl
  · obtain ⟨a, S, ic, c, g, b, rfl, hA, hno, q⟩ := h
    refine ⟨_, pss_cons (ps_set (i := 5) scChecked.nd rfl (.inl rfl) (pe_knK GM hr (by rfl) (pa_cons (pv 0) (pa_cons (pv 1) pa_nil)) (pk_cons (pv 2) (pk_cons (pv 3) (pk_cons (pv 4) pk_nil)))))
      (pss_one (ps_ret (pe_and (pe_cmpR op_notN (pv 5) pe_non (nomark _)) (pe_one (pe_cmpR op_isBl (pe_knK GI hr (by rfl) (pa_cons (pv 0) (pa_cons (pv 1) pa_nil)) (pk_cons (pv 2) (pk_cons (pv 3) (pk_cons (pv 4) (pk_cons (pv 5) pk_nil))))) pe_bl (nomark _)))))), ?_⟩
    refine ⟨_, rfl, _, rfl, _, rfl, _, rfl, _, rfl, rfl, rfl, a, S, ic, c, g, b, rfl, hA, fun H1 fx e1 t1 hf => ?_⟩
    rw [if_neg hno]
    refine ⟨_, rfl, rfl, true, rfl, iteT ?_⟩
    refine ⟨_, rfl, _, rfl, _, rfl, _, rfl, _, rfl, _, rfl, rfl, rfl, a, fx, S, ic, c, g, b, _, rfl, hA.xt e1 t1, hf, by rw [lfpL_len, setIn_len], fun H2 s2 => ?_⟩
    have ev : (allB (lift1 (setIn S ic (some b)) (lfpL (setIn S ic (some b)))) (lfpL (setIn S ic (some b))) && !decide (leA (some g) (at_ (lfpL (setIn S ic (some b))) c))) = true := by
      rw [allB_lfp (hA.ok.setIn ic _).wf, ans_eq hA.cl, Bool.true_and, decide_eq_false hno]
      rfl
    rw [ev]
    exact ⟨true, true, rfl, rfl, q H2 (e1.trans (Xt.of_same s2)) (t1.ext s2)⟩
end
end CW
namespace CW
open PySem PySem.Spec PyProof.Rows L2 CS
/-- a comprehension whose turns may grow the tables -/
theorem lc_valsX {T : List (Addr × Str)} {J : It} {n : Nat} {G : Hp → Prop} {Y : Nat → Hp → V → Hp → Prop} (w : Walk J n G Y) {g : TG} {te : TE} {vs : List Nat} {σ : L2.St} {H1 : Hp} {D : Addr} {Qd : Hp → Prop} (hD : H1 D = none) (hT : LamX.Tabs T H1) (f : Nat → V)
    (hG : ∀ H', Xt H1 H' → G H') (hn : n ≤ 90000)
    (turn : ∀ i x H H', i < n → Xt H1 H → LamX.Tabs T H → Y i H x H' → ∀ Q : VK, (∀ H4, Xt H H4 → LamX.Tabs T H4 → Q (f i) H4) → g x (wipe σ vs) H' fun σ2 H2 => wipe σ2 vs = wipe σ vs ∧ te σ2 H2 Q)
    (hd : ∀ H', Xt H1 H' → LamX.Tabs T H' → H' D = some (.lst ((List.range n).map f)) → Qd H') :
    ∃ W : Nat → Nat → Hp → Prop, (∃ m, W 0 m (upd H1 D (.lst []))) ∧ ∀ i m H, W i m H →
      (J.stop i H ∧ Qd H) ∨ (J.go i H ∧ ∃ Nx : Hp → Prop, (∀ H', Nx H' → ∃ m', m' < m ∧ W (i + 1) m' H') ∧ ∀ x H', J.yld i H x H' → g x (wipe σ vs) H' fun σ2 H2 => wipe σ2 vs = wipe σ vs ∧ tYes σ2 H2 fun b H3 =>
        if b = true then te σ2 H3 fun y H4 => ∃ acc, H4 D = some (.lst acc) ∧ acc.length < sizeLine ∧ Nx (upd H4 D (.lst (acc ++ [y]))) else Nx H3) := by
  refine lc_it w (fun i H => Xt H1 H ∧ LamX.Tabs T H ∧ H D = some (.lst ((List.range i).map f))) ⟨Xt.of_same (same_upd hD), hT.ext (same_upd hD), upd_same⟩ (fun i H _ h => hG H h.1)
    (fun i x H H' hi h y => ?_) fun H ⟨h1, h2, h3⟩ => hd H h1 h2 h3
  obtain ⟨h1, h2, h3⟩ := h
  refine turn i x H H' hi h1 h2 y _ fun H4 e t4 => ?_
  have h4 := e.lst h3
  refine ⟨_, h4, szl (by rw [List.length_map, List.length_range]; omega), xt_mut (h1.trans e) hD, tabs_upd t4 h4, ?_⟩
  rw [List.range_succ, List.map_append]
  exact upd_same
theorem filt_range {α β : Type} {p : α → Bool} {h : α → β} {d : α} (L : List α) : ((List.range L.length).filter (fun i => p (L.getD i d))).map (fun i => h (L.getD i d)) = (L.filter p).map h := by
  have e : (List.range L.length).map (fun i => L.getD i d) = L := by
    have := map_range_get (f := fun a : α => a) (d := d) L
    rw [List.map_id'] at this
    exact this
  have e2 : L.filter p = ((List.range L.length).filter (fun i => p (L.getD i d))).map (fun i => L.getD i d) := by
    have q := congrArg (List.filter p) e
    rw [List.filter_map] at q
    exact q.symm
  rw [e2, List.map_map]
  rfl
theorem GoodS.okS {S : List Fm} (g : GoodS S) : OkS S := ⟨fun i F h => (g.all F (List.mem_of_getElem? h)).wf, g.pos, Nat.le_trans g.most (by decide), fun i F h => (g.all F (List.mem_of_getElem? h)).sz⟩
theorem GoodS.law {S : List Fm} (g : GoodS S) : LawSheet S := ⟨fun i F h => (g.all F (List.mem_of_getElem? h)).wf, g.pos, g.most, fun i F h => (g.all F (List.mem_of_getElem? h)).bd, fun i F h => (g.all F (List.mem_of_getElem? h)).dn⟩
theorem GoodS.set_bd {S : List Fm} (g : GoodS S) {i b : Nat} (hb : b ≤ 105) : ShBd 105 5 (setIn S i (some b)) := fun j F h => by
  by_cases e : j = i
  · subst e
    by_cases c : j < S.length
    · rw [setIn_same c] at h
      cases h
      exact hb
    · rw [List.getElem?_eq_none (by rw [setIn_len]; omega)] at h
      cases h
  · rw [setIn_ne e] at h
    have z := g.law.bd j F h
    cases F with
    | amt a =>
      cases a with
      | none => trivial
      | some v =>
        have z : v ≤ 12 := z
        show v ≤ 105
        omega
    | lst as => exact z
    | gst as => exact z
    | whn _ _ _ => trivial
/-- draws leave the tables -/
theorem tabs_sb {T : List (Addr × Str)} {sc st : Addr} {ns : List Int} {H H' : Hp} (t : LamX.Tabs T H) (S : Strm sc st ns H) (e : SameBut st H H') : LamX.Tabs T H' := fun p hp => by
  obtain ⟨ps, h1, h2, h3⟩ := t p hp
  obtain ⟨q, r, hs⟩ := S.s2
  refine ⟨ps, e _ _ (ne_of h1 hs fun z => nomatch z) h1, h2, fun pos cv hc => ?_⟩
  obtain ⟨c, e1, e2⟩ := h3 pos cv hc
  exact ⟨c, e1, e _ _ (ne_of e2 hs fun z => by unfold LamX.CodeO at z; cases z) e2⟩
def tNN (i : Nat) : TT := tTest (tOp (fun x y H Q => y = .non ∧ Q (.bl (!decide (x = .non))) H) (tVar i) (tC .non))
theorem told_small {r : Option Nat} {i : Nat} {σ : L2.St} {H : Hp} {Kq : Bool → Hp → Prop} (hσ : σ[i]? = some (some (opV r))) (hb : ∀ b, r = some b → b ≤ 1000) (q : Kq false H) :
    tAnd (tNN i) (tTest (tOp (rI0 fun i j => .bl (decide (j < i))) (tVar i) (tC (.int 1000)))) σ H Kq := by
  cases r with
  | none => exact ⟨.non, hσ, rfl, false, rfl, iteF q⟩
  | some b =>
    refine ⟨.int (b : Int), hσ, rfl, true, rfl, iteT ⟨.int (b : Int), hσ, (b : Int), 1000, rfl, rfl, false, ?_, q⟩⟩
    have := hb b rfl
    exact congrArg V.bl (decide_eq_false (by omega))
theorem later_no {r : Option Nat} {b i j : Nat} {σ : L2.St} {H : Hp} {Kq : Bool → Hp → Prop} (hσ : σ[i]? = some (some (opV r))) (hσ2 : σ[j]? = some (some (.int (b : Int)))) (hb : ∀ c, r = some c → b ≤ c) (q : Kq false H) :
    tAnd (tNN i) (tTest (tOp (rI0 fun i j => .bl (decide (i < j))) (tVar i) (tVar j))) σ H Kq := by
  cases r with
  | none => exact ⟨.non, hσ, rfl, false, rfl, iteF q⟩
  | some c =>
    refine ⟨.int (c : Int), hσ, rfl, true, rfl, iteT ⟨.int (c : Int), hσ, .int (b : Int), hσ2, (c : Int), (b : Int), rfl, rfl, false, ?_, q⟩⟩
    have := hb c rfl
    exact congrArg V.bl (decide_eq_false (by omega))
theorem cut_one {x : V} {xs : List V} : cutV (x :: xs) none (some 1) = [x] := by
  unfold cutV
  simp [HT.sIx]
theorem three_at {i : Nat} {y : V} (h : ([.int 0, .int 100, .int 999] : List V)[i]? = some y) : ∃ b : Nat, y = .int (b : Int) :=
  match i, h with
  | 0, h => ⟨0, (Option.some.inj h).symm⟩
  | 1, h => ⟨100, (Option.some.inj h).symm⟩
  | 2, h => ⟨999, (Option.some.inj h).symm⟩
  | i + 3, h => by simp at h
/-- all that the law calls -/
structure LawKit (P : Program) (w : World) (K : PySem.W.Frag) (mg : Str → Option Value) (base : Heap) (k : Nat) (Pt : Addr) : Prop where
  sheet : Kn P w K mg base k "_law_goal_sheet" ["_law_stream", "_law_most_here"] spGoalSheet
  draw : Kn P w K mg base k "_law_draw" ["_law_stream", "_law_many"] spDraw
  need : KnK P w K mg base k "need" ["flat", "input_cell", "cell", "goal"] 2 ["cell", "goal"] (spNeed Pt)
  ans : KnK P w K mg base k "answers" ["flat", "input_cell", "cell", "most"] 2 ["cell", "most"] (spAnswers Pt)
  most : Kn P w K mg base k "_law_most" ["_law_a", "_law_b"] spAtMost
  chk : Kn P w K mg base k "_law_is_checked" ["_law_flat_here", "_law_at", "_law_cell", "_law_goal", "_law_amount_here"] (spChecked Pt)
  flat : Kn P w K mg base k "flat_least" ["flat"] (spFlatLeast Pt)
  setI : Kn P w K mg base k "set_input" ["flat", "cell", "amount"] spSetInput
  setL : Kn P w K mg base k "_law_set" ["_law_flat_here", "_law_at", "_law_amount_here"] spLSet
  least : Kn P w K mg base k "_law_least" ["_law_flat_here"] spLLeast
  miss : KnK P w K mg base k "miss_of" ["flat", "input_cell", "cell", "goal", "amount"] 2 ["cell", "goal", "amount"] (spMissOf Pt)
  ml : mg "list" = none
  mn : mg "len" = none
  ma : mg "all" = none
/-- the law's last lines -/
def lawTail (K : PySem.W.Frag) (Pt : Addr) : TS := tSeq (tAsg (tCall (spFlatLeast Pt) [] E0 (tCons (tCall spSetInput [] E0 (tCons (tVar 2) (tCons (tVar 3) (tCons (tVar 6) tNil)))) tNil)) (gName 9))
  (tSeq (tIfS (tOr (tTest (tOp (rNeD K) (tVar 9) (tCall spLLeast [] E0 (tCons (tCall spLSet [] E0 (tCons (tVar 2) (tCons (tVar 3) (tCons (tVar 6) tNil)))) tNil))))
      (tNot (tB (tCall spAtMost [] E0 (tCons (tVar 5) (tCons (tOp (rIxL K) (tVar 9) (tVar 4)) tNil)))))) (tRet (tC (.bl false))) tNext)
  (tSeq (tIfS (tTest (tOp (fun x y H Q => y = V.non ∧ Q (.bl (!decide (x = V.non))) H) (tCallN 2 3 (spMissOf Pt) (fun vs zs => vs ++ zs) E0 (tCons (tVar 2) (tCons (tVar 3) tNil)) (tCons (tVar 4) (tCons (tVar 5) (tCons (tVar 6) tNil)))) (tC .non))) (tRet (tC (.bl false))) tNext)
    (tRet (tOrV (tOp rEq (tVar 6) (tC (.int 0))) (tCall (spChecked Pt) [] E0 (tCons (tVar 2) (tCons (tVar 3) (tCons (tVar 4) (tCons (tVar 5) (tCons (tOp (rI0 fun i j => .int (i - j)) (tVar 6) (tC (.int 1))) tNil))))))))))
abbrev sLaw : Stmt := topS 63
abbrev nmLaw : List Str := ["_law_script", "_law_stream", "_law_flat_here", "_law_at", "_law_cell", "_law_goal", "_law_told", "_law_later", "_law_reached", "_law_x", "_law_pair", "_law_amount_here"]
theorem scLaw : FnScope nmLaw ["_law_script"] (defScope sLaw) := ⟨rfl, rfl, rfl, by decide +kernel, rfl, by decide +kernel, by decide +kernel⟩
def spLaw (K : PySem.W.Frag) (Pt : Addr) : Sp := fun vs H Q _ => ∃ (a : Addr) (ns : List Int), vs = [.ref a] ∧ SqL K H a (ns.map V.int) ∧ H Pt = some (.tbl #[]) ∧ ∀ H', Q (.bl true) H'
section
variable {P : Program} {w : World} {K : PySem.W.Frag} {mg : Str → Option Value} {base : Heap} {k : Nat}
theorem law_body {Pt : Addr} (G : LawKit P w K mg base k Pt) {f : Addr} {cdv : Value} {A : Around} {outer : List Env} {s : Shared} {H : Hp} {vs : List V} {Q : VK} {E : XK} (hr : Room k (A.deeper (envOfC "law" (defScope sLaw) s.heap.objs.size f cdv))) (h : spLaw K Pt vs H Q E) :
    ∃ t, PSs (cxOf CX0 P w K mg base nmLaw "law" (defScope sLaw) f cdv A outer s H E).nox (defBody sLaw) t ∧ t { nx := fun _ H' => Q .non H', rt := Q } (start nmLaw vs) H := by
  obtain ⟨a, ns, rfl, hS, hPt, q⟩ := h
  refine ⟨_, (pss_cons (ps_set (i := 1) scLaw.nd rfl (.inl rfl) (pe_lst (pa_cons (pe_callTy call_list_of (by rfl) G.ml (by decide +kernel) (pa_cons (pv 0) pa_nil)) (pa_cons pe_int (pa_cons pe_int pa_nil)))))
      (pss_cons (ps_asg (pe_kn G.sheet hr (by rfl) (pa_cons (pv 1) (pa_cons pe_int pa_nil))) (pg_tup rfl (pgs_cons (pg_name (i := 2) scLaw.nd rfl (.inr rfl)) (pgs_cons (pg_name (i := 3) scLaw.nd rfl (.inr rfl)) pgs_nil))))
      (pss_cons (ps_set (i := 4) scLaw.nd rfl (.inr rfl) (pe_kn G.draw hr (by rfl) (pa_cons (pv 1) (pa_cons (pe_callB call_len_seq (by rfl) G.mn PySem.boot_len (pa_cons (pv 2) pa_nil)) pa_nil))))
      (pss_cons (ps_set (i := 5) scLaw.nd rfl (.inr rfl) (pe_op op_add pe_int (pe_kn G.draw hr (by rfl) (pa_cons (pv 1) (pa_cons pe_int pa_nil)))))
      (pss_cons (ps_set (i := 6) scLaw.nd rfl (.inl rfl) (pe_knK G.need hr (by rfl) (pa_cons (pv 2) (pa_cons (pv 3) pa_nil)) (pk_cons (pv 4) (pk_cons (pv 5) pk_nil))))
      (pss_cons (ps_if (PW.pt (pw_and (pt_cmpR op_notN (pv 6) pe_non (nomark _)) (pw_and1 (pt_cmpR op_gt (pv 6) pe_int (nomark _))))) (pss_one (ps_ret pe_bl)) pss_nil)
      (pss_cons (ps_set (i := 7) scLaw.nd rfl (.inl rfl) (pe_knK G.need hr (by rfl) (pa_cons (pv 2) (pa_cons (pv 3) pa_nil)) (pk_cons (pv 4) (pk_cons (pe_op op_add (pe_op op_add (pv 5) pe_int) (pe_kn G.draw hr (by rfl) (pa_cons (pv 1) (pa_cons pe_int pa_nil)))) pk_nil))))
      (pss_cons (ps_setLc (i := 8) (own := [("_law_pair", 10)]) (g := gName 10) (tt := tB (tCall spAtMost [] E0 (tCons (tVar 5) (tCons (tOp (rIxT K) (tVar 10) (tC (.int 1))) tNil)))) (te := tOp (rIxT K) (tVar 10) (tC (.int 0))) (by rfl) scLaw.nd rfl rfl (sw_true rfl rfl rfl (by decide +kernel)) (pi_list (pe_knK G.ans hr (by rfl) (pa_cons (pv 2) (pa_cons (pv 3) pa_nil)) (pk_cons (pv 4) (pk_cons pe_int pk_nil)))) (blkOk_by (own := [("_law_pair", 10)]) (N := nmLaw) (sc := defScope sLaw) (by decide +kernel)) (fun _ _ _ _ _ => pg_name (i := 10) scLaw.nd rfl (.inl rfl)) (fun _ _ _ _ _ => pts_one (pt_val (pe_kn G.most hr (by rfl) (pa_cons (pv 5) (pa_cons (pe_ix ix_tup (pv 10) pe_int (fun _ _ => rfl)) pa_nil))))) (fun _ _ _ _ _ => (pe_ix ix_tup (pv 10) pe_int (fun _ _ => rfl))))
      (pss_cons (ps_if (pt_cmpR op_isN (pv 6) pe_non (nomark _)) (pss_cons (ps_if (PW.pt (pw_or (pt_cmpR op_notN (pv 7) pe_non (nomark _)) (pw_or1 (pt_cmpR op_gt (pe_callB call_len_seq (by rfl) G.mn PySem.boot_len (pa_cons (pv 8) pa_nil)) pe_int (nomark _))))) (pss_one (ps_ret pe_bl)) pss_nil)
      (pss_one (ps_ret (pe_callB (cr_all rfl) (by rfl) G.ma (by decide +kernel) (pa_cons (pe_lc (own := [("_law_amount_here", 11)]) (g := gName 11) (te := tCall (spChecked Pt) [] E0 (tCons (tVar 2) (tCons (tVar 3) (tCons (tVar 4) (tCons (tVar 5) (tCons (tVar 11) tNil)))))) (by rfl) scLaw.nd (pi_list (pe_lst (pa_cons pe_int (pa_cons pe_int (pa_cons pe_int pa_nil))))) (blkOk_by (own := [("_law_amount_here", 11)]) (N := nmLaw) (sc := defScope sLaw) (by decide +kernel)) (fun _ _ _ _ _ => pg_name (i := 11) scLaw.nd rfl (.inl rfl)) (fun _ _ _ _ _ => pts_nil) (fun _ _ _ _ _ => (pe_kn G.chk hr (by rfl) (pa_cons (pv 2) (pa_cons (pv 3) (pa_cons (pv 4) (pa_cons (pv 5) (pa_cons (pv 11) pa_nil)))))))) pa_nil))))) pss_nil)
      (pss_cons (ps_if (PW.pt (pw_and (pt_cmpR op_notN (pv 7) pe_non (nomark _)) (pw_and1 (pt_cmpR op_lt (pv 7) (pv 6) (nomark _))))) (pss_one (ps_ret pe_bl)) pss_nil)
      (pss_cons (ps_if (PW.pt (pw_or (PW.pt (pw_and (pt_cmpR op_le (pv 6) pe_int (nomark _)) (pw_and1 (pt_cmpR (op_neD hr.units) (pe_slice sl_list (pv 8) po_none (po_some pe_int)) (pe_lst (pa_cons (pv 6) pa_nil)) (nomark _))))) (pw_or1 (PW.pt (pw_and (pt_cmpR op_gt (pv 6) pe_int (nomark _)) (pw_and1 (pt_cmpR op_gt (pe_callB call_len_seq (by rfl) G.mn PySem.boot_len (pa_cons (pv 8) pa_nil)) pe_int (nomark _)))))))) (pss_one (ps_ret pe_bl)) pss_nil)
      (pss_cons (ps_set (i := 9) scLaw.nd rfl (.inl rfl) (pe_kn G.flat hr (by rfl) (pa_cons (pe_kn G.setI hr (by rfl) (pa_cons (pv 2) (pa_cons (pv 3) (pa_cons (pv 6) pa_nil)))) pa_nil)))
      (pss_cons (ps_if (PW.pt (pw_or (pt_cmpR (op_neD hr.units) (pv 9) (pe_kn G.least hr (by rfl) (pa_cons (pe_kn G.setL hr (by rfl) (pa_cons (pv 2) (pa_cons (pv 3) (pa_cons (pv 6) pa_nil)))) pa_nil)) (nomark _)) (pw_or1 (pt_not (pt_val (pe_kn G.most hr (by rfl) (pa_cons (pv 5) (pa_cons (pe_ix ix_list (pv 9) (pv 4) (fun _ _ => rfl)) pa_nil)))))))) (pss_one (ps_ret pe_bl)) pss_nil)
      (pss_cons (ps_if (pt_cmpR op_notN (pe_knK G.miss hr (by rfl) (pa_cons (pv 2) (pa_cons (pv 3) pa_nil)) (pk_cons (pv 4) (pk_cons (pv 5) (pk_cons (pv 6) pk_nil)))) pe_non (nomark _)) (pss_one (ps_ret pe_bl)) pss_nil)
      (pss_one (ps_ret (pe_or (pe_cmpR op_eq (pv 6) pe_int (nomark _)) (pe_one (pe_kn G.chk hr (by rfl) (pa_cons (pv 2) (pa_cons (pv 3) (pa_cons (pv 4) (pa_cons (pv 5) (pa_cons (pe_op op_sub (pv 6) pe_int) pa_nil)))))))))))))))))))))))), ?_⟩
  -- the stream
  refine ⟨_, rfl, a, _, rfl, .inl hS, fun sc nsc => ⟨by show 3 ≤ sizeLine; decide, fun st nst => ?_⟩⟩
  obtain ⟨nstsc, nst0⟩ := upd_none_of nst
  have s1 := same_upd (o := .lst (ns.map V.int)) nsc
  have s2 := same_upd (o := .lst [.ref sc, .int 0, .int 0]) nst
  have S1 : Strm sc st ns (upd (upd H sc (.lst (ns.map V.int))) st (.lst [.ref sc, .int 0, .int 0])) := ⟨s2 _ _ upd_same, nstsc.symm, 0, 0, upd_same⟩
  have T1 : LamX.Tabs [(Pt, qLam)] (upd (upd H sc (.lst (ns.map V.int))) st (.lst [.ref sc, .int 0, .int 0])) := by
    refine LamX.Tabs.ext (LamX.Tabs.ext (H := H) (fun p hp => ?_) s1) s2
    rw [List.mem_singleton.mp hp]
    exact LamX.TabS.nil hPt
  -- the sheet, the cell, the goal
  refine ⟨_, rfl, sc, st, ns, rfl, S1, fun H2 t fl S ic y e2 S2 ht _ hSh gS hy => ?_⟩
  have T2 := tabs_sb T1 S1 e2
  have hic : ic < S.length := (List.getElem?_eq_some_iff.mp hy).1
  refine ⟨t, _, rfl, SqT.of ht, rfl, _, _, rfl, _, _, rfl, rfl, ?_⟩
  obtain ⟨vs, hv, hvs⟩ := id hSh
  have hvl : vs.length = S.length := Paired.length hvs
  refine ⟨_, rfl, _, rfl, fl, _, rfl, .inl (SqL.of (hide_same _ _ hv)), sc, st, ns, vs.length, rfl, S2, by have := gS.pos; omega, by have := gS.most; omega, fun H3 c e3 S3 hc => ?_⟩
  rw [hvl] at hc
  have T3 := tabs_sb T2 S2 e3
  refine ⟨_, rfl, sc, st, ns, 40, rfl, S3, by omega, by omega, fun H4 d e4 S4 hd => ⟨1, (d : Int), rfl, rfl, ?_⟩⟩
  have T4 := tabs_sb T3 S3 e4
  have h4 : ShAt (hide st H4) fl S := (hSh.xt (Xt.of_same e3.hide)).xt (Xt.of_same e4.hide)
  obtain ⟨g, hg⟩ : ∃ g : Nat, g = 1 + d := ⟨_, rfl⟩
  have g5 : some (some (V.int (1 + (d : Int)))) = some (some (V.int (g : Int))) := congrArg (fun z => some (some (V.int z))) (by omega)
  have okS := gS.okS
  have asked : ∀ {H' : Hp}, ShAt (hide st H') fl S → LamX.Tabs [(Pt, qLam)] H' → Asked Pt H' fl S ic c := fun h t => ⟨h.xt (Xt.of_same hide_same), okS, ⟨y, hy⟩, hc, t⟩
  -- the needs
  refine ⟨_, rfl, _, rfl, _, rfl, .int (g : Int), g5, rfl, rfl, fl, S, ic, c, g, rfl, asked h4 T4, fun H5 r e5 T5 hr1 => ?_⟩
  have h5 := h4.xt (hide_xt e5)
  have S5 := S4.xt e5
  refine told_small (i := 6) (r := r) rfl (fun b hb => ?_) (iteF ?_)
  · rw [hb] at hr1
    have := need_small gS.law (by omega) hr1
    omega
  refine ⟨_, rfl, _, rfl, _, rfl, .int (g : Int), g5, (g : Int), 1, rfl, rfl, _, rfl, sc, st, ns, 5, rfl, S5, by omega, by omega, fun H6 d2 e6 S6 hd2 => ?_⟩
  have T6 := tabs_sb T5 S5 e6
  have h6 := h5.xt (Xt.of_same e6.hide)
  have hg2 : (g : Int) + 1 + (d2 : Int) = ((g + 1 + d2 : Nat) : Int) := by omega
  refine ⟨(g : Int) + 1, (d2 : Int), rfl, rfl, rfl, rfl, fl, S, ic, c, g + 1 + d2, congrArg (fun z => [V.ref fl, .int (ic : Int), .int (c : Int), .int z]) hg2, asked h6 T6, fun H7 r2 e7 T7 hr2 => ?_⟩
  have h7 := h6.xt (hide_xt e7)
  -- the answers that reach the goal
  refine ⟨_, rfl, _, rfl, _, rfl, rfl, rfl, fl, S, ic, c, 40, rfl, asked h7 T7, by omega, fun H8 o ys e8 T8 ho hys => ?_⟩
  have h8 := h7.xt (hide_xt e8)
  refine ⟨o, rfl, ⟨ys, SqL.of ho⟩, fun Dl hD => ?_⟩
  have hyl := Paired.length hys
  have hll : (answersTo (ans S ic c) (40 + 1)).length ≤ 41 := answersTo_len (ans S ic c) 41
  refine lc_filt walk_list hD (fun i => decide (leA (some g) ((answersTo (ans S ic c) 41).getD i (0, none)).2)) (fun i => .int ((answersTo (ans S ic c) 41).getD i (0, none)).1) (fun H' e => e.seq (SqL.of ho)) (by omega) (fun i y H9 H10 hi e9 hDl hY Q' Q0 q1 q0 => ?_) fun H9 e9 hR => ?_
  · obtain ⟨rfl, hy9⟩ := hY
    obtain ⟨p, hp, t9, rfl, ht9⟩ := paired_get hys hy9
    have ep : (answersTo (ans S ic c) 41).getD i (0, none) = p := getD_of hp
    refine ⟨rfl, .int (g : Int), g5, .ref t9, rfl, t9, _, 1, _, rfl, rfl, SqT.of (e9 _ _ ht9), atI_nat (j := 1) rfl, some g, p.2, rfl, _, rfl, ite2 (fun cc => ?_) fun cc => ?_⟩
    · refine ⟨.ref t9, rfl, t9, _, 0, _, rfl, rfl, SqT.of (e9 _ _ ht9), atI_nat (j := 0) rfl, ?_⟩
      have z := q1 H10 (Same.refl _) (by rw [ep]; exact cc)
      rw [ep] at z
      exact z
    · exact q0 H10 (Same.refl _) (by rw [ep]; simpa using cc)
  rw [hyl, filt_range (p := fun p => decide (leA (some g) p.2)) (h := fun p => V.int (p.1 : Int)) (d := ((0, none) : Nat × Am))] at hR
  have h9 := h8.xt (Xt.of_same (hide_mono e9))
  have T9 := T8.ext e9
  cases r with
  | none =>
    have hno := need_none gS.law (by omega) hr1
    have hr2 : r2 = none := need_later_none gS.law (by omega) (by omega) hr1 hr2
    subst hr2
    rw [reached_none (fun b _ => hno b)] at hR
    refine ⟨.non, rfl, rfl, true, rfl, iteT ?_⟩
    refine ⟨.non, rfl, rfl, false, rfl, iteF ?_⟩
    refine ⟨.ref Dl, rfl, Dl, _, rfl, .inl (SqL.of hR), 0, 0, rfl, rfl, false, rfl, iteF ?_⟩
    refine ⟨by show 3 ≤ sizeLine; decide, fun p np => ⟨p, rfl, ⟨_, SqL.of upd_same⟩, fun D2 hD2 => ?_⟩⟩
    have s10 := same_upd (o := .lst [.int 0, .int 100, .int 999]) np
    have h10 := h9.xt (Xt.of_same (hide_mono s10))
    have hp10 : (upd H9 p (.lst [.int 0, .int 100, .int 999])) p = some (.lst [.int 0, .int 100, .int 999]) := upd_same
    refine lc_valsX walk_list hD2 (T9.ext s10) (fun _ => .bl true) (fun H' e => SqL.of (Xt.lst e hp10)) (by show 3 ≤ 90000; omega) (fun i y H11 H12 hi e11 T11 hY Q' q' => ?_) fun H11 e11 T11 hR2 => ?_
    · obtain ⟨rfl, hy11⟩ := hY
      obtain ⟨b, rfl⟩ := three_at hy11
      exact ⟨rfl, _, rfl, _, rfl, _, rfl, .int (g : Int), g5, _, rfl, fl, S, ic, c, g, b, rfl, asked (h10.xt (hide_xt e11)) T11, hno b, fun H' e t => q' H' e t⟩
    · exact ⟨D2, [true, true, true], rfl, SqL.of hR2, q _⟩
  | some b =>
    have hb105 := need_small gS.law (by omega) hr1
    refine ⟨.int (b : Int), rfl, rfl, false, rfl, iteF ?_⟩
    refine later_no (r := r2) (b := b) rfl rfl (fun c2 hc2 => ?_) (iteF ?_)
    · rw [hc2] at hr2
      exact need_later (by omega) hr1 hr2
    -- the rest
    have rest : ∀ {H' : Hp}, ShAt (hide st H') fl S → LamX.Tabs [(Pt, qLam)] H' → lawTail K Pt { nx := fun _ H' => Q .non H', rt := Q } [some (.ref a), some (.ref st), some (.ref fl), some (.int (ic : Int)), some (.int (c : Int)), some (.int (1 + (d : Int))), some (.int (b : Int)), some (opV r2), some (.ref Dl), none, none, none] H' := by
      intro H10 h10 T10
      have hreach : leA (some g) (ans S ic c b) := hr1.1
      have hcl : c < (lfpL (setIn S ic (some b))).length := by rw [lfpL_len, setIn_len]; exact hc
      refine ⟨_, rfl, _, rfl, _, rfl, fl, S, ic, y, some b, rfl, h10.xt (Xt.of_same hide_same), okS.len, hy, fun H11 o1 s11 no1 ho1 => ?_⟩
      refine ⟨o1, _, rfl, ho1, okS.setIn ic _, T10.ext s11, fun H12 fx e12 T12 hfx => ?_⟩
      have h12 := (h10.xt (Xt.of_same (hide_mono s11))).xt (hide_xt e12)
      refine ⟨_, rfl, _, rfl, _, rfl, _, rfl, fl, S, ic, some b, rfl, h12.xt (Xt.of_same hide_same), hic, fun H13 o2 s13 no2 ho2 => ?_⟩
      refine ⟨o2, _, 105, 5, rfl, ho2, okS.setIn ic _, gS.set_bd hb105, by omega, by omega, fun H14 o3 s14 ho3 => ?_⟩
      have s24 := s13.trans s14
      have hf14 := hfx.xt (Xt.of_same s24)
      refine ne_ams hf14 ho3 ⟨_, rfl, iteFd (by simp) ?_⟩
      refine ⟨.int (g : Int), g5, _, rfl, _, rfl, ams_at hf14 hcl ?_⟩
      rw [ans_eq hc]
      refine ⟨some g, _, rfl, _, rfl, iteFd (by rw [decide_eq_true hreach]; rfl) ?_⟩
      have h14 := h12.xt (Xt.of_same (hide_mono s24))
      have T14 := T12.ext s24
      refine ⟨_, rfl, _, rfl, _, rfl, .int (g : Int), g5, _, rfl, rfl, rfl, fl, S, ic, c, g, b, rfl, asked h14 T14, fun H15 f15 e15 T15 _ => ?_⟩
      rw [if_pos hreach]
      refine ⟨rfl, false, rfl, iteF ?_⟩
      refine ⟨.int (b : Int), rfl, rfl, _, rfl, ?_⟩
      by_cases b0 : b = 0
      · exact iteTd (decide_eq_true (by rw [b0]; rfl)) (q _)
      · refine iteFd (decide_eq_false fun z => b0 (by have := V.int.inj z; omega)) ?_
        have h15 := h14.xt (hide_xt e15)
        have eb : (b : Int) - 1 = ((b - 1 : Nat) : Int) := by omega
        refine ⟨_, rfl, _, rfl, _, rfl, .int (g : Int), g5, .int (b : Int), rfl, (b : Int), 1, rfl, rfl, fl, S, ic, c, g, b - 1, congrArg (fun z => [V.ref fl, .int (ic : Int), .int (c : Int), .int (g : Int), .int z]) eb, asked h15 T15, hr1.2 (b - 1) (by omega), fun H' _ _ => q H'⟩
    by_cases hb40 : b ≤ 40
    · obtain ⟨l, hl⟩ := reached_some hr1.1 hr1.2 41 (by omega)
      rw [hl] at hR
      refine ⟨.int (b : Int), rfl, (b : Int), 40, rfl, rfl, _, rfl, iteTd (decide_eq_true (by omega)) ?_⟩
      have hR : H9 Dl = some (.lst (.int (b : Int) :: l.map fun p => V.int (p.1 : Int))) := hR
      refine ⟨.ref Dl, rfl, 1, rfl, Dl, _, rfl, SqL.of hR, fun p np => ⟨.int (b : Int), rfl, by show 1 ≤ sizeLine; decide, fun p2 np2 => ?_⟩⟩
      have sA := same_upd (o := .lst (cutV (.int (b : Int) :: l.map fun p => V.int (p.1 : Int)) none (some 1))) np
      have sB := same_upd (o := .lst [.int (b : Int)]) np2
      have hpp : (upd (upd H9 p (.lst (cutV (.int (b : Int) :: l.map fun p => V.int (p.1 : Int)) none (some 1)))) p2 (.lst [.int (b : Int)])) p = some (.lst (([some b] : List Am).map amV)) := by
        rw [sB _ _ upd_same, cut_one]
        rfl
      refine ne_ams (l := [some b]) (m := [some b]) hpp upd_same ⟨_, rfl, iteFd (by simp) ?_⟩
      refine ⟨.int (b : Int), rfl, (b : Int), 40, rfl, rfl, _, rfl, iteFd (decide_eq_false (by omega)) (iteF ?_)⟩
      exact rest (h9.xt (Xt.of_same (hide_mono (sA.trans sB)))) (T9.ext (sA.trans sB))
    · have hRn : (answersTo (ans S ic c) 41).filter (fun p => decide (leA (some g) p.2)) = [] := reached_none fun b2 hb2 => hr1.2 b2 (by omega)
      rw [hRn] at hR
      refine ⟨.int (b : Int), rfl, (b : Int), 40, rfl, rfl, _, rfl, iteFd (decide_eq_false (by omega)) (iteF ?_)⟩
      refine ⟨.int (b : Int), rfl, (b : Int), 40, rfl, rfl, _, rfl, iteTd (decide_eq_true (by omega)) ?_⟩
      refine ⟨.ref Dl, rfl, Dl, _, rfl, .inl (SqL.of hR), 0, 0, rfl, rfl, false, rfl, iteF ?_⟩
      exact rest h9 T9
end
end CW
namespace CW
open PySem PySem.Spec PyProof.Rows L2 CS
/-! ### all together -/
structure AllS (K : PySem.W.Frag) (mg : Str → Option Value) (c0 : Addr) : Prop where
  d00 : Stands K mg "at_most" sAtMost
  d01 : Stands K mg "least_of" sLeastOf
  d02 : Stands K mg "greatest_of" sGreatestOf
  d03 : Stands K mg "shifted" sShifted
  d04 : Stands K mg "all_at_most" sAllAtMost
  d05 : Stands K mg "flat_value" sFlatValue
  d06 : Stands K mg "flat_values" sFlatValues
  d07 : Stands K mg "arcs_of" sArcsOf
  d08 : Stands K mg "conditions_of" sConditionsOf
  d09 : Stands K mg "opened" sOpened
  d10 : Stands K mg "told_arcs" sToldArcs
  d11 : Stands K mg "circle_below" sCircleBelow
  d12 : Stands K mg "nought_cell" sNoughtCell
  d13 : Stands K mg "rounds_down" sRoundsDown
  d14 : Stands K mg "settled_least" sSettled
  d15 : Stands K mg "fulfilled" sFulfilled
  d16 : Stands K mg "stages_from_below" sStages
  d17 : Stands K mg "flat_least" sFlatLeast
  d18 : Stands K mg "is_high" sIsHigh
  d19 : Stands K mg "set_input" sSetInput
  d20 : Stands K mg "is_reached" sIsReached
  d21 : Stands K mg "sought" sSought
  d22 : Stands K mg "need" sNeed
  d23 : Stands K mg "answers" sAnswers
  d24 : Stands K mg "is_missed" sIsMissed
  d25 : Stands K mg "miss_of" sMissOf
  d26 : Stands K mg "_law_draw" sDraw
  d27 : Stands K mg "_law_amount" sLAmount
  d28 : Stands K mg "_law_arcs" sLArcs
  d29 : Stands K mg "_law_formula" sLFormula
  d30 : Stands K mg "_law_flat" sLFlat
  d31 : Stands K mg "_law_most" sLMost
  d32 : Stands K mg "_law_shift" sLShift
  d33 : Stands K mg "_law_value" sLValue
  d34 : Stands K mg "_law_round" sLRound
  d35 : Stands K mg "_law_bound" sLBound
  d36 : Stands K mg "_law_least" sLLeast
  d37 : Stands K mg "_law_goal_sheet" sGoalSheet
  d38 : Stands K mg "_law_set" sLSet
  d39 : Stands K mg "_law_is_checked" sChecked
  d40 : Stands K mg "law" sLaw
  lw : StandsC K mg "least_with" sLeastWith c0
  g_range : mg "range" = none
  g_len : mg "len" = none
  g_enumerate : mg "enumerate" = none
  g_zip : mg "zip" = none
  g_max : mg "max" = none
  g_list : mg "list" = none
  g_all : mg "all" = none
  g_int : mg "int" = none
section
variable {P : Program} {w : World} {K : PySem.W.Frag} {mg : Str → Option Value} {base : Heap}
theorem law_kit {c0 Pt : Addr} (D : AllS K mg c0) (TB : LamX.TabB base mg c0 Pt) : LawKit P w K mg base 9 Pt := by
  have AM := kn_at_most (P := P) (w := w) (base := base) (k := 0) D.d00
  have SH := kn_shifted (P := P) (w := w) (base := base) (k := 0) D.d03 D.g_max
  have LO := kn_least_of (P := P) (w := w) (base := base) (k := 1) D.d01 (AM.mono (by decide : 1 ≤ 1))
  have GO := kn_greatest_of (P := P) (w := w) (base := base) (k := 1) D.d02 (AM.mono (by decide : 1 ≤ 1))
  have FV := kn_flat_value (P := P) (w := w) (base := base) (k := 2) D.d05 (AM.mono (by decide : 1 ≤ 2)) (SH.mono (by decide : 1 ≤ 2)) (LO.mono (by decide : 2 ≤ 2)) (GO.mono (by decide : 2 ≤ 2))
  have FVS := kn_flat_values (P := P) (w := w) (base := base) (k := 3) D.d06 (FV.mono (by decide : 3 ≤ 3))
  have AA := kn_all_at_most (P := P) (w := w) (base := base) (k := 1) D.d04 (AM.mono (by decide : 1 ≤ 1)) D.g_all D.g_zip
  have IH := kn_is_high (P := P) (w := w) (base := base) (k := 4) D.d18 (FVS.mono (by decide : 4 ≤ 4)) (AA.mono (by decide : 2 ≤ 4))
  have AO := kn_arcs_of (P := P) (w := w) (base := base) (k := 0) D.d07 D.g_list
  have CO := kn_conditions_of (P := P) (w := w) (base := base) (k := 0) D.d08 D.g_range D.g_len
  have OP := kn_opened (P := P) (w := w) (base := base) (k := 0) D.d09 D.g_enumerate D.g_list
  have TA := kn_told_arcs (P := P) (w := w) (base := base) (k := 1) D.d10 (AO.mono (by decide : 1 ≤ 1)) D.g_range D.g_len
  have NC := kn_nought_cell (P := P) (w := w) (base := base) (k := 0) D.d12 D.g_enumerate D.g_len
  have RD := kn_rounds_down (P := P) (w := w) (base := base) (k := 1) D.d13 (AM.mono (by decide : 1 ≤ 1)) (SH.mono (by decide : 1 ≤ 1)) D.g_range D.g_len D.g_enumerate
  have LW := kn_least_with (P := P) (w := w) (base := base) (k := 0) D.lw TB D.d11 (TA.mono (by decide)) (NC.mono (by decide)) (RD.mono (by decide)) D.g_range D.g_len
  have SE := kn_settled (P := P) (w := w) (base := base) (k := 3) D.d14 (LW.mono (by decide : 3 ≤ 3)) (AM.mono (by decide : 1 ≤ 3)) (SH.mono (by decide : 1 ≤ 3)) (FV.mono (by decide : 3 ≤ 3)) D.g_enumerate D.g_list
  have FU := kn_fulfilled (P := P) (w := w) (base := base) (k := 1) D.d15 (CO.mono (by decide : 1 ≤ 1)) (AM.mono (by decide : 1 ≤ 1))
  have ST := kn_stages (P := P) (w := w) (base := base) (k := 4) D.d16 (SE.mono (by decide : 4 ≤ 4)) (OP.mono (by decide : 1 ≤ 4)) (FU.mono (by decide : 2 ≤ 4))
  have FL := kn_flat_least (P := P) (w := w) (base := base) (k := 5) D.d17 (ST.mono (by decide : 5 ≤ 5))
  have SI := kn_set_input (P := P) (w := w) (base := base) (k := 0) D.d19 D.g_enumerate D.g_list
  have IR := kn_is_reached (P := P) (w := w) (base := base) (k := 6) D.d20 (SI.mono (by decide : 1 ≤ 6)) (FL.mono (by decide : 6 ≤ 6)) (AM.mono (by decide : 1 ≤ 6))
  have SO := kn_sought (P := P) (w := w) (base := base) (k := 7) D.d21 (IR.mono (by decide : 7 ≤ 7)) D.g_len
  have NE := kn_need (P := P) (w := w) (base := base) (k := 8) D.d22 (SO.mono (by decide : 8 ≤ 8))
  have AN := kn_answers (P := P) (w := w) (base := base) (k := 6) D.d23 (SI.mono (by decide : 1 ≤ 6)) (FL.mono (by decide : 6 ≤ 6)) D.g_range
  have IM := kn_is_missed (Pt := Pt) (P := P) (w := w) (base := base) (k := 5) D.d24 (SI.mono (by decide : 1 ≤ 5)) (IH.mono (by decide : 5 ≤ 5)) (AM.mono (by decide : 1 ≤ 5))
  have MO := kn_miss_of (P := P) (w := w) (base := base) (k := 6) D.d25 (SI.mono (by decide : 1 ≤ 6)) (FL.mono (by decide : 6 ≤ 6)) (AM.mono (by decide : 1 ≤ 6))
  have DR := kn_draw (P := P) (w := w) (base := base) (k := 0) D.d26 D.g_len D.g_int
  have LA := kn_lamount (P := P) (w := w) (base := base) (k := 1) D.d27 (DR.mono (by decide : 1 ≤ 1))
  have LR := kn_larcs (P := P) (w := w) (base := base) (k := 1) D.d28 (DR.mono (by decide : 1 ≤ 1)) D.g_range
  have LF := kn_lformula (P := P) (w := w) (base := base) (k := 2) D.d29 (DR.mono (by decide : 1 ≤ 2)) (LA.mono (by decide : 2 ≤ 2)) (LR.mono (by decide : 2 ≤ 2))
  have LFL := kn_lflat (P := P) (w := w) (base := base) (k := 3) D.d30 (DR.mono (by decide : 1 ≤ 3)) (LF.mono (by decide : 3 ≤ 3)) D.g_range
  have GS := kn_goal_sheet (P := P) (w := w) (base := base) (k := 4) D.d37 (DR.mono (by decide : 1 ≤ 4)) (LFL.mono (by decide : 4 ≤ 4)) (LA.mono (by decide : 2 ≤ 4)) D.g_len
  have LS := kn_lset (P := P) (w := w) (base := base) (k := 0) D.d38 D.g_list
  have LM := kn_lmost (P := P) (w := w) (base := base) (k := 0) D.d31
  have LSH := kn_lshift (P := P) (w := w) (base := base) (k := 0) D.d32 D.g_max
  have LV := kn_lvalue (P := P) (w := w) (base := base) (k := 1) D.d33 (LM.mono (by decide : 1 ≤ 1)) (LSH.mono (by decide : 1 ≤ 1))
  have LRD := kn_lround (P := P) (w := w) (base := base) (k := 2) D.d34 (LV.mono (by decide : 2 ≤ 2))
  have LB := kn_lbound (P := P) (w := w) (base := base) (k := 0) D.d35 D.g_max D.g_len
  have LL := kn_lleast (P := P) (w := w) (base := base) (k := 3) D.d36 (LB.mono (by decide : 1 ≤ 3)) (LRD.mono (by decide : 3 ≤ 3)) D.g_range D.g_len
  have CK := kn_checked (P := P) (w := w) (base := base) (k := 7) D.d39 (MO.mono (by decide : 7 ≤ 7)) (IM.mono (by decide : 6 ≤ 7))
  exact ⟨GS.mono (by decide), DR.mono (by decide), NE.mono (by decide), AN.mono (by decide), LM.mono (by decide), CK.mono (by decide), FL.mono (by decide), SI.mono (by decide), LS.mono (by decide), LL.mono (by decide), MO.mono (by decide), D.g_list, D.g_len, D.g_all⟩
theorem law_at {l : PySem.W.OpenLaw} {c0 Pt fa : Addr} {h : Heap} (D : AllS K mg c0) (hfa : mg "law" = some (.ref fa)) (hT : h.get? Pt = some { cls := .none, data := .fields #[] }) (hN : K.lookup Pt = none) (hC : PySem.W.CodeHd h c0 Pt) :
    LamX.LawAtS l w K CX0 10 63 "_law_script" mg fa h := by
  obtain ⟨f, fd, hm, F⟩ := D.d40.ex
  have e := hfa.symm.trans hm
  cases e
  refine ⟨fd, [(c0, Pt)], spLaw K Pt, fun p hp => ?_, fun p hp => ?_, fun p hp => ?_, ?_, fun H a ns _ _ hH hS => ⟨a, ns, rfl, hS, hH _ (List.mem_singleton.mpr rfl), fun _ => rfl⟩, fun base _ _ hB => ?_⟩
  · rw [List.mem_singleton.mp hp]
    exact hT
  · rw [List.mem_singleton.mp hp]
    exact hN
  · rw [List.mem_singleton.mp hp]
    exact hC
  · obtain ⟨oc, od, kV, doc, pm, an, cdv, ct, osl, rfl, _, _⟩ := F.ex
    exact fun s u => .of_eq rfl
  · refine F.ok scLaw (fun vs H Q E h => ?_) fun cdv A outer s H vs Q E hr h => law_body (law_kit D (hB _ (List.mem_singleton.mpr rfl))) hr h
    obtain ⟨a, ns, rfl, _⟩ := h
    rfl
end
/-- a def's facts as the head tells them -/
theorem st_mk {K : PySem.W.Frag} {h : Heap} {mg : Str → Option Value} {x : Str} {st : Stmt} {f : Addr} {oc kV dc pm cd ct : Value} {od an : Option Addr} {sl : Array (Option Value)} (X : K.In h) (G : h.Ns mainGlobals mg)
    (a : PySem.W.nsIn K mainGlobals x = some (some (.ref f))) (l : K.lookup f = some ⟨oc, od, .func (PySem.W.fnOf x x (defArgs st) (defBody st) (defScope st) .none kV dc pm an cd ct), sl⟩) (c : PySem.W.codeIn K cd x = true) (k : PySem.W.keepIn K (.ref f) = true) : Stands K mg x st :=
  ⟨f, _, PySem.W.mg_of X G a, fun_mk l c k⟩
theorem stC_mk {K : PySem.W.Frag} {h : Heap} {mg : Str → Option Value} {x : Str} {st : Stmt} {f c0 : Addr} {oc kV dc pm ct : Value} {od an : Option Addr} {sl : Array (Option Value)} (X : K.In h) (G : h.Ns mainGlobals mg)
    (a : PySem.W.nsIn K mainGlobals x = some (some (.ref f))) (l : K.lookup f = some ⟨oc, od, .func (PySem.W.fnOf x x (defArgs st) (defBody st) (defScope st) .none kV dc pm an (.ref c0) ct), sl⟩) (c : PySem.W.codeIn K (.ref c0) x = true) (k : PySem.W.keepIn K (.ref f) = true) : StandsC K mg x st c0 :=
  ⟨f, oc, od, kV, dc, pm, an, ct, sl, PySem.W.mg_of X G a, l, c, k⟩
end CW
open PySem PySem.W PyProof.Rows
set_option maxRecDepth 100000 in
set_option maxHeartbeats 0 in
theorem PySem.Challenge.cw_circlesettle_k75_whole_needs_and_answers_holds : PySem.Challenge.rw_circlesettle_k75_whole_needs_and_answers.Holds := by
  w_on; o_law; k_head; (case hw => w_witness2)
  k_fill
  refine LamX.walk_ofTs (l := PySem.Challenge.rw_circlesettle_k75_whole_needs_and_answers) (n := 63) (k := 10) (x := "_law_script") (CX := fun _ => L2.CX0) rfl (by decide) rfl ⟨rfl, by decide, by decide⟩ (fun w h Y => PySem.W.km_in_of Y) ?F (fun _ _ _ _ _ h => h)
  case F =>
    intro w mg fa h Y KX G hmg
    have hT := PySem.W.km_tabs_of Y 136 (List.mem_singleton.mpr rfl)
    refine' CW.law_at (Pt := 136) ⟨CW.st_mk KX G ?a0 ?l0 ?c0 ?k0, CW.st_mk KX G ?a1 ?l1 ?c1 ?k1, CW.st_mk KX G ?a2 ?l2 ?c2 ?k2, CW.st_mk KX G ?a3 ?l3 ?c3 ?k3, CW.st_mk KX G ?a4 ?l4 ?c4 ?k4, CW.st_mk KX G ?a5 ?l5 ?c5 ?k5, CW.st_mk KX G ?a6 ?l6 ?c6 ?k6, CW.st_mk KX G ?a7 ?l7 ?c7 ?k7, CW.st_mk KX G ?a8 ?l8 ?c8 ?k8, CW.st_mk KX G ?a9 ?l9 ?c9 ?k9, CW.st_mk KX G ?a10 ?l10 ?c10 ?k10, CW.st_mk KX G ?a11 ?l11 ?c11 ?k11, CW.st_mk KX G ?a12 ?l12 ?c12 ?k12, CW.st_mk KX G ?a13 ?l13 ?c13 ?k13, CW.st_mk KX G ?a14 ?l14 ?c14 ?k14, CW.st_mk KX G ?a15 ?l15 ?c15 ?k15, CW.st_mk KX G ?a16 ?l16 ?c16 ?k16, CW.st_mk KX G ?a17 ?l17 ?c17 ?k17, CW.st_mk KX G ?a18 ?l18 ?c18 ?k18, CW.st_mk KX G ?a19 ?l19 ?c19 ?k19, CW.st_mk KX G ?a20 ?l20 ?c20 ?k20, CW.st_mk KX G ?a21 ?l21 ?c21 ?k21, CW.st_mk KX G ?a22 ?l22 ?c22 ?k22, CW.st_mk KX G ?a23 ?l23 ?c23 ?k23, CW.st_mk KX G ?a24 ?l24 ?c24 ?k24, CW.st_mk KX G ?a25 ?l25 ?c25 ?k25, CW.st_mk KX G ?a26 ?l26 ?c26 ?k26, CW.st_mk KX G ?a27 ?l27 ?c27 ?k27, CW.st_mk KX G ?a28 ?l28 ?c28 ?k28, CW.st_mk KX G ?a29 ?l29 ?c29 ?k29, CW.st_mk KX G ?a30 ?l30 ?c30 ?k30, CW.st_mk KX G ?a31 ?l31 ?c31 ?k31, CW.st_mk KX G ?a32 ?l32 ?c32 ?k32, CW.st_mk KX G ?a33 ?l33 ?c33 ?k33, CW.st_mk KX G ?a34 ?l34 ?c34 ?k34, CW.st_mk KX G ?a35 ?l35 ?c35 ?k35, CW.st_mk KX G ?a36 ?l36 ?c36 ?k36, CW.st_mk KX G ?a37 ?l37 ?c37 ?k37, CW.st_mk KX G ?a38 ?l38 ?c38 ?k38, CW.st_mk KX G ?a39 ?l39 ?c39 ?k39, CW.st_mk KX G ?a40 ?l40 ?c40 ?k40, CW.stC_mk KX G ?aw ?lw ?cw ?kw, PySem.W.mg_none_of KX G ?z_range, PySem.W.mg_none_of KX G ?z_len, PySem.W.mg_none_of KX G ?z_enumerate, PySem.W.mg_none_of KX G ?z_zip, PySem.W.mg_none_of KX G ?z_max, PySem.W.mg_none_of KX G ?z_list, PySem.W.mg_none_of KX G ?z_all, PySem.W.mg_none_of KX G ?z_int⟩ hmg hT ?hN (PySem.W.codeHd_of_K KX ?hC)
    (case a0 => k_is); (case l0 => k_is); (case c0 => k_is); (case k0 => k_is)
    (case a1 => k_is); (case l1 => k_is); (case c1 => k_is); (case k1 => k_is)
    (case a2 => k_is); (case l2 => k_is); (case c2 => k_is); (case k2 => k_is)
    (case a3 => k_is); (case l3 => k_is); (case c3 => k_is); (case k3 => k_is)
    (case a4 => k_is); (case l4 => k_is); (case c4 => k_is); (case k4 => k_is)
    (case a5 => k_is); (case l5 => k_is); (case c5 => k_is); (case k5 => k_is)
    (case a6 => k_is); (case l6 => k_is); (case c6 => k_is); (case k6 => k_is)
    (case a7 => k_is); (case l7 => k_is); (case c7 => k_is); (case k7 => k_is)
    (case a8 => k_is); (case l8 => k_is); (case c8 => k_is); (case k8 => k_is)
    (case a9 => k_is); (case l9 => k_is); (case c9 => k_is); (case k9 => k_is)
    (case a10 => k_is); (case l10 => k_is); (case c10 => k_is); (case k10 => k_is)
    (case a11 => k_is); (case l11 => k_is); (case c11 => k_is); (case k11 => k_is)
    (case a12 => k_is); (case l12 => k_is); (case c12 => k_is); (case k12 => k_is)
    (case a13 => k_is); (case l13 => k_is); (case c13 => k_is); (case k13 => k_is)
    (case a14 => k_is); (case l14 => k_is); (case c14 => k_is); (case k14 => k_is)
    (case a15 => k_is); (case l15 => k_is); (case c15 => k_is); (case k15 => k_is)
    (case a16 => k_is); (case l16 => k_is); (case c16 => k_is); (case k16 => k_is)
    (case a17 => k_is); (case l17 => k_is); (case c17 => k_is); (case k17 => k_is)
    (case a18 => k_is); (case l18 => k_is); (case c18 => k_is); (case k18 => k_is)
    (case a19 => k_is); (case l19 => k_is); (case c19 => k_is); (case k19 => k_is)
    (case a20 => k_is); (case l20 => k_is); (case c20 => k_is); (case k20 => k_is)
    (case a21 => k_is); (case l21 => k_is); (case c21 => k_is); (case k21 => k_is)
    (case a22 => k_is); (case l22 => k_is); (case c22 => k_is); (case k22 => k_is)
    (case a23 => k_is); (case l23 => k_is); (case c23 => k_is); (case k23 => k_is)
    (case a24 => k_is); (case l24 => k_is); (case c24 => k_is); (case k24 => k_is)
    (case a25 => k_is); (case l25 => k_is); (case c25 => k_is); (case k25 => k_is)
    (case a26 => k_is); (case l26 => k_is); (case c26 => k_is); (case k26 => k_is)
    (case a27 => k_is); (case l27 => k_is); (case c27 => k_is); (case k27 => k_is)
    (case a28 => k_is); (case l28 => k_is); (case c28 => k_is); (case k28 => k_is)
    (case a29 => k_is); (case l29 => k_is); (case c29 => k_is); (case k29 => k_is)
    (case a30 => k_is); (case l30 => k_is); (case c30 => k_is); (case k30 => k_is)
    (case a31 => k_is); (case l31 => k_is); (case c31 => k_is); (case k31 => k_is)
    (case a32 => k_is); (case l32 => k_is); (case c32 => k_is); (case k32 => k_is)
    (case a33 => k_is); (case l33 => k_is); (case c33 => k_is); (case k33 => k_is)
    (case a34 => k_is); (case l34 => k_is); (case c34 => k_is); (case k34 => k_is)
    (case a35 => k_is); (case l35 => k_is); (case c35 => k_is); (case k35 => k_is)
    (case a36 => k_is); (case l36 => k_is); (case c36 => k_is); (case k36 => k_is)
    (case a37 => k_is); (case l37 => k_is); (case c37 => k_is); (case k37 => k_is)
    (case a38 => k_is); (case l38 => k_is); (case c38 => k_is); (case k38 => k_is)
    (case a39 => k_is); (case l39 => k_is); (case c39 => k_is); (case k39 => k_is)
    (case a40 => k_is); (case l40 => k_is); (case c40 => k_is); (case k40 => k_is)
    (case aw => k_is); (case lw => k_is); (case cw => k_is); (case kw => k_is)
    (case z_range => k_is)
    (case z_len => k_is)
    (case z_enumerate => k_is)
    (case z_zip => k_is)
    (case z_max => k_is)
    (case z_list => k_is)
    (case z_all => k_is)
    (case z_int => k_is)
    (case hN => kernel_rfl)
    (case hC => kernel_rfl)
