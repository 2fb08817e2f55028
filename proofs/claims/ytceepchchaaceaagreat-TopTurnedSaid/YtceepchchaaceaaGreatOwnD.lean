/- Contracts of the functions on figures, trees and stories. No condition beyond each theorem's own. -/
import Derived.Test.YtceepchchaaceaaGreatOwnC
set_option linter.unusedVariables false
set_option linter.unusedSimpArgs false
namespace Go.Proofs
open Go Go.Sx

/-! # What is plain about round -/

def inB (x lo hi : Int) : Bool := decide (lo ≤ x) && decide (x ≤ hi)
theorem inB_iff {x lo hi : Int} : inB x lo hi = true ↔ lo ≤ x ∧ x ≤ hi := by simp [inB]
abbrev iv (i : Int) : Value := .int .i64 i
theorem all_succ {P : Nat → Prop} {k : Nat} (h : ∀ j, j < k → P j) (hk : P k) : ∀ j, j < k + 1 → P j := fun j hj => by
  rcases Nat.lt_succ_iff_lt_or_eq.1 hj with h1 | h1
  · exact h j h1
  · exact h1 ▸ hk
theorem all_of_get {α : Type} {p : α → Bool} {xs : List α} (h : ∀ j, j < xs.length → ∀ y, xs[j]? = some y → p y = true) : xs.all p = true := by
  rw [List.all_eq_true]
  intro y hy
  obtain ⟨j, hj⟩ := List.mem_iff_getElem?.1 hy
  exact h j (List.getElem?_eq_some_iff.1 hj).1 y hj
theorem not_all_of_get {α : Type} {p : α → Bool} {xs : List α} {j : Nat} {y : α} (h : xs[j]? = some y) (hp : p y = false) : xs.all p = false := by
  rw [Bool.eq_false_iff]
  intro h2
  rw [List.all_eq_true] at h2
  have := h2 y (List.mem_of_getElem? h)
  rw [hp] at this; cases this
theorem map_get {α β : Type} {f : α → β} {xs : List α} {k : Nat} {y : α} (h : xs[k]? = some y) : (xs.map f)[k]? = some (f y) := by
  rw [List.getElem?_map, h]; rfl
theorem some_get {α : Type} {xs : List α} {k : Nat} (h : k < xs.length) : ∃ y, xs[k]? = some y := ⟨_, List.getElem?_eq_getElem h⟩
/-- Ints as rows. -/
@[reducible] def intC (i : Int) : List Value := [.int .i64 i]
@[reducible] def ints (xs : List Int) : List (List Value) := xs.map intC
@[reducible] def spanC (s : Int × Int) : List Value := [.int .i64 s.1, .int .i64 s.2]
@[reducible] def spanV (s : Int × Int) : Value := .agg (spanC s).toArray
@[reducible] def spans (xs : List (Int × Int)) : List (List Value) := xs.map spanC
def sumI (xs : List Int) : Int := xs.foldl (· + ·) 0
theorem sumI_nil : sumI [] = 0 := rfl
theorem sumI_snoc (xs : List Int) (y : Int) : sumI (xs ++ [y]) = sumI xs + y := by simp [sumI]
theorem take_snoc {α : Type} {xs : List α} {k : Nat} {y : α} (h : xs[k]? = some y) : xs.take (k + 1) = xs.take k ++ [y] := by
  rw [List.take_add_one, h]; rfl
theorem sumI_take {xs : List Int} {k : Nat} {y : Int} (h : xs[k]? = some y) : sumI (xs.take (k + 1)) = sumI (xs.take k) + y := by
  rw [take_snoc h, sumI_snoc]
theorem sumI_bd {B : Int} (hB : 0 ≤ B) : ∀ {xs : List Int}, (∀ x ∈ xs, 0 ≤ x ∧ x ≤ B) → ∀ k, 0 ≤ sumI (xs.take k) ∧ sumI (xs.take k) ≤ k * B := by
  intro xs h k
  induction k with
  | zero => simp [sumI]
  | succ k ih =>
    by_cases hk : k < xs.length
    · obtain ⟨y, hy⟩ := some_get hk
      have := h y (List.mem_of_getElem? hy)
      rw [sumI_take hy]
      have e : ((k + 1 : Nat) : Int) * B = (k : Int) * B + B := by rw [Int.natCast_add, Int.add_mul]; simp
      omega
    · have e1 : xs.take (k + 1) = xs := List.take_of_length_le (by omega)
      have e2 : xs.take k = xs := List.take_of_length_le (by omega)
      rw [e2] at ih
      rw [e1]
      have e : ((k + 1 : Nat) : Int) * B = (k : Int) * B + B := by rw [Int.natCast_add, Int.add_mul]; simp
      omega
/-- The first of what is so, or -1. -/
def idxI {α : Type} (p : α → Bool) : List α → Int
  | [] => -1
  | x :: xs => if p x then 0 else if idxI p xs < 0 then -1 else idxI p xs + 1
theorem idxI_any {α : Type} {p : α → Bool} : ∀ {xs : List α}, decide (0 ≤ idxI p xs) = xs.any p
  | [] => rfl
  | x :: xs => by
    have ih := idxI_any (p := p) (xs := xs)
    rw [List.any_cons, ← ih]
    by_cases hp : p x = true
    · simp [idxI, hp]
    · have hp' : p x = false := by simpa using hp
      simp only [idxI, hp', Bool.false_eq_true, if_false, Bool.false_or]
      split
      · rename_i h; simp; omega
      · rename_i h; simp; omega
theorem idxI_found {α : Type} {p : α → Bool} : ∀ {xs : List α} {k : Nat} {y : α}, (∀ j, j < k → ∀ y, xs[j]? = some y → p y = false) → xs[k]? = some y → p y = true → idxI p xs = k
  | x :: xs, 0, y, _, h, hp => by simp at h; subst h; simp [idxI, hp]
  | x :: xs, k + 1, y, hn, h, hp => by
    have h0 := hn 0 (Nat.succ_pos _) x rfl
    have ih := idxI_found (p := p) (xs := xs) (k := k) (y := y) (fun j hj y hy => hn (j + 1) (by omega) y (by simpa using hy)) (by simpa using h) hp
    simp only [idxI, h0, Bool.false_eq_true, if_false, ih]
    rw [if_neg (by omega)]; simp
theorem idxI_none {α : Type} {p : α → Bool} : ∀ {xs : List α}, (∀ j, j < xs.length → ∀ y, xs[j]? = some y → p y = false) → idxI p xs = -1
  | [], _ => rfl
  | x :: xs, hn => by
    have h0 := hn 0 (by simp) x rfl
    have ih := idxI_none (p := p) (xs := xs) (fun j hj y hy => hn (j + 1) (by simpa using hj) y (by simpa using hy))
    simp [idxI, h0, ih]
theorem eq_of_get {α : Type} {xs ys : List α} (h : xs.length = ys.length) (hall : ∀ j, j < xs.length → ∀ y z, xs[j]? = some y → ys[j]? = some z → y = z) : xs = ys := by
  apply List.ext_getElem h
  intro i h1 h2
  exact hall i h1 _ _ (List.getElem?_eq_getElem h1) (List.getElem?_eq_getElem h2)
theorem ne_of_get {α : Type} {xs ys : List α} {k : Nat} {y z : α} (hy : xs[k]? = some y) (hz : ys[k]? = some z) (hne : y ≠ z) : xs ≠ ys := fun h => by
  subst h; rw [hy] at hz; cases hz; exact hne rfl
theorem ne_of_len {α : Type} {xs ys : List α} (h : ¬ (xs.length = ys.length)) : xs ≠ ys := fun e => h (by rw [e])
/-- Lexicographic order. -/
def befI : List Int → List Int → Bool
  | x :: xs, y :: ys => if x = y then befI xs ys else decide (x < y)
  | [], _ :: _ => true
  | _, [] => false
theorem befI_at : ∀ {xs ys : List Int} {k : Nat} {y z : Int}, (∀ j, j < k → ∀ y z, xs[j]? = some y → ys[j]? = some z → y = z) → xs[k]? = some y → ys[k]? = some z → y ≠ z → befI xs ys = decide (y < z)
  | x :: xs, u :: ys, 0, y, z, _, hy, hz, hne => by
    simp at hy hz; subst hy; subst hz; simp [befI, hne]
  | x :: xs, u :: ys, k + 1, y, z, h, hy, hz, hne => by
    have h0 := h 0 (Nat.succ_pos _) x u rfl rfl
    simp only [befI, h0, if_true]
    exact befI_at (fun j hj y z h1 h2 => h (j + 1) (Nat.succ_lt_succ hj) y z (by simpa using h1) (by simpa using h2)) (by simpa using hy) (by simpa using hz) hne
  | [], _, _, _, _, _, hy, _, _ => by simp at hy
  | _ :: _, [], _, _, _, _, _, hz, _ => by simp at hz
theorem befI_end : ∀ {xs ys : List Int}, (∀ j, j < min xs.length ys.length → ∀ y z, xs[j]? = some y → ys[j]? = some z → y = z) → befI xs ys = decide (xs.length < ys.length)
  | [], [], _ => by simp [befI]
  | [], _ :: _, _ => by simp [befI]
  | _ :: _, [], _ => by simp [befI]
  | x :: xs, y :: ys, h => by
    have h0 := h 0 (by simp) x y rfl rfl
    simp only [befI, h0, if_true, List.length_cons, Nat.add_lt_add_iff_right]
    exact befI_end (fun j hj a b h1 h2 => h (j + 1) (by have := hj; simp only [List.length_cons]; omega) a b (by simpa using h1) (by simpa using h2))
theorem ints_snoc (xs : List Int) (y : Int) : ints (xs ++ [y]) = ints xs ++ [intC y] := by simp
theorem emod_bd (a : Int) {b : Int} (h : 0 < b) : 0 ≤ a % b ∧ a % b < b := ⟨Int.emod_nonneg _ (by omega), Int.emod_lt_of_pos _ h⟩
/-- A slice of ints with an error, made by the call. -/
def RSlE (xs : List Int) (er : Int) : Nat → World → Value → Prop := fun lo w1 v => ∃ a1 c1, v = .tuple #[.slice a1 xs.length c1, .int .i64 er] ∧ Ro w1 lo w1.heap.size a1 xs.length c1 1 (ints xs)
def RSl (xs : List Int) : Nat → World → Value → Prop := fun lo w1 v => ∃ a1 c1, v = .slice a1 xs.length c1 ∧ Ro w1 lo w1.heap.size a1 xs.length c1 1 (ints xs)
theorem rsle_of {xs : List Int} {er : Int} {n c lo : Nat} {a : Option Addr} {w : World} (hn : xs.length = n) (h : Ro w lo w.heap.size a n c 1 (ints xs)) : RSlE xs er lo w (.tuple #[.slice a n c, .int .i64 er]) := by
  subst hn; exact ⟨_, _, rfl, h⟩
theorem rsl_of {xs : List Int} {n c lo : Nat} {a : Option Addr} {w : World} (hn : xs.length = n) (h : Ro w lo w.heap.size a n c 1 (ints xs)) : RSl xs lo w (.slice a n c) := by
  subst hn; exact ⟨_, _, rfl, h⟩
def rngN : Int → Nat → List Int
  | _, 0 => []
  | lo, k + 1 => lo :: rngN (lo + 1) k
def stepE (of : List Int → Int) (is : List Int → Bool) (st : Option (Int × Int)) (t : List Int) : Option (Int × Int) :=
  if is t then some (match st with | none => (min (of t) (of t), max (of t) (of t)) | some s => (min s.1 (of t), max s.2 (of t))) else st
def spF (of : List Int → Int) (is : List Int → Bool) (L : List (List Int)) : Option (Int × Int) := L.foldl (stepE of is) none
def endsV (o : Option (Int × Int)) : (Int × Int) × Int := match o with | none => ((0, 0), 5) | some s => (s, 0)
theorem mem_rngN : ∀ {k : Nat} {lo x : Int}, x ∈ rngN lo k ↔ lo ≤ x ∧ x < lo + k
  | 0, lo, x => by simp [rngN] <;> omega
  | k + 1, lo, x => by
    simp only [rngN, List.mem_cons, mem_rngN (k := k)]; omega
theorem rb_up {w w' : World} {b : Nat} {cs : List Value} (h : Rb w 0 w.heap.size b cs) (hb : BelowH w w') : Rb w' 0 w'.heap.size b cs := by
  obtain ⟨h1, h2, t, h3⟩ := h
  exact ⟨h1, Nat.lt_of_lt_of_le h2 hb.1, t, (hb.2 b h2).trans h3⟩
theorem below_of {w w' : World} {H : List Seg} (s : St w H w') [hs : SnapAt w H 0 w.heap.size] : RowKit.Below w.heap.size w w' := s.below0 hs.mem
def RSlB (xs : List Int) (bb : Bool) : Nat → World → Value → Prop := fun lo w1 v => ∃ a1 c1, v = .tuple #[.slice a1 xs.length c1, .bool bb] ∧ Ro w1 lo w1.heap.size a1 xs.length c1 1 (ints xs)
theorem tx_use {x : Cx} {e : Exit} {ks : List KI} {E : Env} {H H2 : List Seg} {p : Prop} [h : RegAt H 0 0 (fun _ => p) H2] (k : p → TX x e ks E H) : TX x e ks E H := fun a w ea s => by
  obtain ⟨_, _, hp, _⟩ := s.reg_at (lo := 0) (hi := 0) (p := fun _ => p)
  exact k hp a w ea s
theorem ro_take {w : World} {lo hi : Nat} {a : Option Addr} {n cap sz k : Nat} {xs : List (List Value)} (h : Ro w lo hi a n cap sz xs) (hk : k ≤ n) : Ro w lo hi a k cap sz (xs.take k) := by
  refine ⟨by rw [List.length_take, h.len]; omega, fun x hx => h.each x (List.mem_of_mem_take hx), Nat.le_trans hk h.le, ?_⟩
  rcases h.here with ⟨h1, h2, h3⟩ | ⟨ad, h1, h2, h3, h4, h5⟩
  · exact .inl ⟨h1, by omega, h3⟩
  · refine .inr ⟨ad, h1, h2, h3, h4, fun i x hx j v hv => h5 i x ?_ j v hv⟩
    rw [List.getElem?_take] at hx
    split at hx
    · exact hx
    · cases hx
def SpInv (of : List Int → Int) (is : List Int → Bool) (seen : List (List Int)) : Option (Int × Int) → Prop
  | none => ∀ t ∈ seen, is t = false
  | some s => (∃ t ∈ seen, is t = true ∧ of t = s.1) ∧ (∃ t ∈ seen, is t = true ∧ of t = s.2) ∧ ∀ t ∈ seen, is t = true → s.1 ≤ of t ∧ of t ≤ s.2
theorem sp_step {of : List Int → Int} {is : List Int → Bool} {seen : List (List Int)} {st : Option (Int × Int)} (h : SpInv of is seen st) (t : List Int) : SpInv of is (seen ++ [t]) (stepE of is st t) := by
  have hm : ∀ u, u ∈ seen ++ [t] ↔ u ∈ seen ∨ u = t := fun u => by simp
  by_cases ht : is t = true
  · cases st with
    | none =>
      simp only [stepE, ht, if_true, SpInv, Int.min_self, Int.max_self]
      refine ⟨⟨t, by simp, ht, rfl⟩, ⟨t, by simp, ht, rfl⟩, fun u hu hi => ?_⟩
      rcases (hm u).1 hu with h1 | rfl
      · have := h u h1; rw [hi] at this; cases this
      · exact ⟨Int.le_refl _, Int.le_refl _⟩
    | some s =>
      simp only [stepE, ht, if_true, SpInv]
      obtain ⟨⟨u1, h1, h2, h3⟩, ⟨u2, h4, h5, h6⟩, h7⟩ := h
      have e1 := Int.min_def s.1 (of t)
      have e2 := Int.max_def s.2 (of t)
      refine ⟨?_, ?_, fun u hu hi => ?_⟩
      · by_cases hle : s.1 ≤ of t
        · exact ⟨u1, (hm _).2 (.inl h1), h2, by rw [e1, if_pos hle]; exact h3⟩
        · exact ⟨t, by simp, ht, by rw [e1, if_neg hle]⟩
      · by_cases hle : s.2 ≤ of t
        · exact ⟨t, by simp, ht, by rw [e2, if_pos hle]⟩
        · exact ⟨u2, (hm _).2 (.inl h4), h5, by rw [e2, if_neg hle]; exact h6⟩
      · rcases (hm u).1 hu with h1 | rfl
        · have := h7 u h1 hi; omega
        · omega
  · have hf : is t = false := by simpa using ht
    have : stepE of is st t = st := by simp [stepE, hf]
    rw [this]
    cases st with
    | none =>
      intro u hu
      rcases (hm u).1 hu with h1 | rfl
      · exact h u h1
      · exact hf
    | some s =>
      obtain ⟨⟨u1, h1, h2, h3⟩, ⟨u2, h4, h5, h6⟩, h7⟩ := h
      refine ⟨⟨u1, (hm _).2 (.inl h1), h2, h3⟩, ⟨u2, (hm _).2 (.inl h4), h5, h6⟩, fun u hu hi => ?_⟩
      rcases (hm u).1 hu with h1 | rfl
      · exact h7 u h1 hi
      · rw [hf] at hi; cases hi
theorem sp_fold {of : List Int → Int} {is : List Int → Bool} : ∀ (L seen : List (List Int)) (st : Option (Int × Int)), SpInv of is seen st → SpInv of is (seen ++ L) (L.foldl (stepE of is) st)
  | [], seen, st, h => by simpa using h
  | t :: L, seen, st, h => by
    have := sp_fold L (seen ++ [t]) (stepE of is st t) (sp_step h t)
    simpa using this
theorem sp_inv (of : List Int → Int) (is : List Int → Bool) (L : List (List Int)) : SpInv of is L (spF of is L) := by
  have := sp_fold (of := of) (is := is) L [] none (fun t h => by cases h)
  simpa [spF] using this
theorem sp_none {of : List Int → Int} {is : List Int → Bool} {L : List (List Int)} (h : ∀ t ∈ L, is t = false) : spF of is L = none := by
  have := sp_inv of is L
  cases hq : spF of is L with
  | none => rfl
  | some s =>
    rw [hq] at this
    obtain ⟨⟨t, h1, h2, _⟩, _⟩ := this
    rw [h t h1] at h2; cases h2
theorem sp_some {of : List Int → Int} {is : List Int → Bool} {L : List (List Int)} {t : List Int} (h : t ∈ L) (hi : is t = true) : ∃ s, spF of is L = some s ∧ SpInv of is L (some s) := by
  have := sp_inv of is L
  cases hq : spF of is L with
  | none => rw [hq] at this; have := this t h; rw [hi] at this; cases this
  | some s => rw [hq] at this; exact ⟨s, rfl, this⟩
/-- Where two truths are the ends. -/
theorem sp_ends {of : List Int → Int} {L : List (List Int)} {u v : List Int} (hu : u ∈ L) (hv : v ∈ L) (h : ∀ t ∈ L, of u ≤ of t ∧ of t ≤ of v) : spF of (fun _ => true) L = some (of u, of v) := by
  obtain ⟨s, h1, ⟨t1, h2, _, h3⟩, ⟨t2, h4, _, h5⟩, h6⟩ := sp_some (of := of) (is := fun _ => true) hu rfl
  have a1 := h t1 h2
  have a2 := h t2 h4
  have a3 := h6 u hu rfl
  have a4 := h6 v hv rfl
  rw [h1, show s = (of u, of v) from Prod.ext (by show s.1 = of u; omega) (by show s.2 = of v; omega)]
theorem pfx_snoc {α : Type} {A C : List α} {n : α} (h : n :: C <:+ A) : A.take (A.length - C.length) = A.take (A.length - (n :: C).length) ++ [n] := by
  obtain ⟨p, rfl⟩ := h
  simp only [List.length_append, List.length_cons]
  rw [show p.length + (C.length + 1) - C.length = p.length + 1 from by omega, show p.length + (C.length + 1) - (C.length + 1) = p.length from by omega]
  simp [List.take_append]; exact List.take_of_length_le (by omega)
/-- What of a list has come, if L is left. -/
def pfxL {α : Type} (A L : List α) : List α := A.take (A.length - L.length)
theorem pfxL_all {α : Type} (A : List α) : pfxL A A = [] := by simp [pfxL]
theorem pfxL_nil {α : Type} (A : List α) : pfxL A [] = A := by simp [pfxL]
theorem pfxL_cons {α : Type} {A C : List α} {n : α} (h : n :: C <:+ A) : pfxL A C = pfxL A (n :: C) ++ [n] := pfx_snoc h
theorem sfx_tail {α : Type} {A C : List α} {n : α} (h : n :: C <:+ A) : C <:+ A := (List.suffix_cons n C).trans h
theorem sfx_mem {α : Type} {A C : List α} {n : α} (h : n :: C <:+ A) : n ∈ A := h.subset (List.mem_cons_self ..)

/-! ## Sheets -/

structure Sh where
  unit : Int
  rule : Int
  errs : List Int
  rows : List Int
  deriving DecidableEq
/-- Where a sheet's lists lie. -/
structure Pt where
  ea : Option Addr
  ec : Nat
  ra : Option Addr
  rc : Nat
@[reducible] def shC (s : Sh) (p : Pt) : List Value := [.int .i64 s.unit, .int .i64 s.rule, .slice p.ea s.errs.length p.ec, .slice p.ra s.rows.length p.rc]
@[reducible] def shV (s : Sh) (p : Pt) : Value := .agg (shC s p).toArray
@[reducible] def tbC (s : Sh) (p : Pt) (g : Int) : List Value := [.int .i64 s.unit, .int .i64 s.rule, .slice p.ea s.errs.length p.ec, .slice p.ra s.rows.length p.rc, .int .i64 g]
@[reducible] def tbV (s : Sh) (p : Pt) (g : Int) : Value := .agg (tbC s p g).toArray

def errsOk : Int → List Int → Bool
  | _, [] => true
  | m, e :: es => inB e 0 m && errsOk e es
def isSh (s : Sh) : Bool :=
  inB s.unit 1 1000 && inB s.rule 1 4 && inB s.errs.length 1 5 && inB s.rows.length 1 5 && errsOk 8 s.errs && s.rows.all (fun n => inB n (-100000) 100000)
theorem isSh_b {s : Sh} (h : isSh s = true) : (1 ≤ s.unit ∧ s.unit ≤ 1000) ∧ (1 ≤ s.rule ∧ s.rule ≤ 4) ∧ (1 ≤ s.errs.length ∧ s.errs.length ≤ 5) ∧ (1 ≤ s.rows.length ∧ s.rows.length ≤ 5) := by
  simp only [isSh, inB, Bool.and_eq_true, decide_eq_true_eq] at h; omega
theorem isSh_e {s : Sh} (h : isSh s = true) : errsOk 8 s.errs = true := by
  simp only [isSh, Bool.and_eq_true] at h; exact h.1.2
theorem isSh_r {s : Sh} (h : isSh s = true) {n : Int} (hn : n ∈ s.rows) : -100000 ≤ n ∧ n ≤ 100000 := by
  simp only [isSh, Bool.and_eq_true, List.all_eq_true] at h
  exact inB_iff.1 (h.2 n hn)
/-- The errors up to one, walked. -/
theorem errsOk_iff : ∀ {m : Int} {es : List Int}, errsOk m es = true ↔ ∀ (j : Nat) e, es[j]? = some e → inB e 0 (if j = 0 then m else es.getD (j - 1) 0) = true
  | m, [] => by simp [errsOk]
  | m, e :: es => by
    simp only [errsOk, Bool.and_eq_true, errsOk_iff (m := e) (es := es)]
    constructor
    · rintro ⟨h1, h2⟩ j x hx
      cases j with
      | zero => simp at hx; subst hx; simpa using h1
      | succ j =>
        have h3 := h2 j x (by simpa using hx)
        cases j with
        | zero => simpa using h3
        | succ j => simpa using h3
    · intro h
      refine ⟨by simpa using h 0 e rfl, fun j x hx => ?_⟩
      have h3 := h (j + 1) x (by simpa using hx)
      cases j with
      | zero => simpa using h3
      | succ j => simpa using h3
theorem errs_b : ∀ {m : Int} {es : List Int}, errsOk m es = true → ∀ e ∈ es, 0 ≤ e ∧ e ≤ m
  | m, [], _, e, h => by cases h
  | m, x :: es, h, e, he => by
    simp only [errsOk, Bool.and_eq_true] at h
    have h1 := inB_iff.1 h.1
    rcases List.mem_cons.1 he with rfl | he
    · exact h1
    · have := errs_b h.2 e he; omega
theorem errs_mono : ∀ {m : Int} {es : List Int}, errsOk m es = true → ∀ (i j : Nat) a b, i ≤ j → es[i]? = some a → es[j]? = some b → b ≤ a
  | m, [], _, i, j, a, b, _, h, _ => by simp at h
  | m, x :: es, h, i, j, a, b, hij, ha, hb => by
    simp only [errsOk, Bool.and_eq_true] at h
    cases i with
    | zero =>
      simp at ha; subst ha
      cases j with
      | zero => simp at hb; omega
      | succ j => exact (errs_b h.2 b (List.mem_of_getElem? (by simpa using hb))).2
    | succ i =>
      cases j with
      | zero => omega
      | succ j => exact errs_mono h.2 i j a b (by omega) (by simpa using ha) (by simpa using hb)

/-! ## Rounding -/

def toF (u r v : Int) : Int :=
  if r = 1 then v / u else if r = 2 then -((-v) / u) else if r = 3 then (2 * v + u) / (2 * u)
  else if 2 * v + u = 2 * u * ((2 * v + u) / (2 * u)) ∧ (2 * v + u) / (2 * u) % 2 ≠ 0 then (2 * v + u) / (2 * u) - 1 else (2 * v + u) / (2 * u)

/-- v = q u + r. -/
theorem ediv_bd (v : Int) {u : Int} (hu : 0 < u) : v / u * u ≤ v ∧ v < v / u * u + u := by
  have h1 := Int.ediv_mul_le v (Int.ne_of_gt hu)
  have h2 := Int.lt_ediv_add_one_mul_self v hu
  rw [Int.add_mul, Int.one_mul] at h2
  exact ⟨h1, h2⟩
theorem ediv_uniq {v u q : Int} (hu : 0 < u) (h1 : q * u ≤ v) (h2 : v < q * u + u) : v / u = q := by
  have h3 : q ≤ v / u := (Int.le_ediv_iff_mul_le hu).2 h1
  have h4 : v / u < q + 1 := (Int.ediv_lt_iff_lt_mul hu).2 (by rw [Int.add_mul, Int.one_mul]; exact h2)
  omega
theorem tdiv_cases (v : Int) {u : Int} (hu : 0 < u) : (v.tdiv u = v / u ∧ ¬ (v < v.tdiv u * u)) ∨ (v.tdiv u - 1 = v / u ∧ v < v.tdiv u * u) := by
  have hs : u.sign = 1 := Int.sign_eq_one_of_pos hu
  have hb := ediv_bd v hu
  rw [Int.tdiv_eq_ediv, hs]
  split
  · left; rw [Int.add_zero]; exact ⟨rfl, by omega⟩
  · right; refine ⟨by omega, ?_⟩; rw [Int.add_mul, Int.one_mul]; exact hb.2
theorem tdiv_bd (v : Int) {u B : Int} (hu : 0 < u) (huB : u ≤ B) (hv : -B ≤ v ∧ v ≤ B) : (-(2 * B) ≤ v.tdiv u * u ∧ v.tdiv u * u ≤ 2 * B) ∧ -B - 1 ≤ v.tdiv u ∧ v.tdiv u ≤ B + 1 := by
  have hb := ediv_bd v hu
  have h3 : -B ≤ v / u := (Int.le_ediv_iff_mul_le hu).2 (by
    have : B * 1 ≤ B * u := Int.mul_le_mul_of_nonneg_left (by omega) (by omega)
    rw [Int.neg_mul]; omega)
  have h4 : v / u ≤ B := by
    rcases Int.le_total 0 v with h | h
    · exact Int.le_trans (Int.ediv_le_self u h) hv.2
    · have : v / u < 1 := (Int.ediv_lt_iff_lt_mul hu).2 (by omega)
      omega
  rcases tdiv_cases v hu with ⟨h1, h2⟩ | ⟨h1, h2⟩
  · rw [h1]; omega
  · have h5 : v.tdiv u = v / u + 1 := by omega
    rw [h5, Int.add_mul, Int.one_mul]; omega
theorem near_eq (v : Int) {u : Int} (hu : 0 < u) : (2 * v + u) / (2 * u) = if u ≤ 2 * (v - v / u * u) then v / u + 1 else v / u := by
  have hb := ediv_bd v hu
  generalize hq : v / u = q at *
  have e : q * (2 * u) = 2 * (q * u) := by rw [Int.mul_left_comm]
  have e2 : (q + 1) * (2 * u) = 2 * (q * u) + 2 * u := by rw [Int.add_mul, e, Int.one_mul]
  split
  · exact ediv_uniq (by omega) (by rw [e2]; omega) (by rw [e2]; omega)
  · exact ediv_uniq (by omega) (by rw [e]; omega) (by rw [e]; omega)
theorem toF_b {u r v B : Int} (hu : 1 ≤ u) (hv : -B ≤ v ∧ v ≤ B) : -B - 1 ≤ toF u r v ∧ toF u r v ≤ B + 1 := by
  have key : ∀ v : Int, -B ≤ v ∧ v ≤ B → -B ≤ v / u ∧ v / u ≤ B := fun v hv => by
    have hu0 : 0 < u := by omega
    have h3 : -B ≤ v / u := (Int.le_ediv_iff_mul_le hu0).2 (by
      have : B * 1 ≤ B * u := Int.mul_le_mul_of_nonneg_left (by omega) (by omega)
      rw [Int.neg_mul]; omega)
    refine ⟨h3, ?_⟩
    rcases Int.le_total 0 v with h | h
    · exact Int.le_trans (Int.ediv_le_self u h) hv.2
    · have : v / u < 1 := (Int.ediv_lt_iff_lt_mul hu0).2 (by omega)
      omega
  have h1 := key v hv
  have h2 := key (-v) (by omega)
  have h3 := near_eq v (u := u) (by omega)
  have hb := ediv_bd v (u := u) (by omega)
  unfold toF
  split
  · omega
  split
  · omega
  by_cases hc : u ≤ 2 * (v - v / u * u)
  · rw [if_pos hc] at h3
    split
    · omega
    · by_cases h4 : v / u = B
      · -- v = B u: no rest
        have h5 : v / u * u ≤ B := Int.le_trans hb.1 hv.2
        have h6 : B * 1 ≤ B * u := Int.mul_le_mul_of_nonneg_left (by omega) (by omega)
        rw [h4] at hb h5
        split <;> omega
      · split <;> omega
  · rw [if_neg hc] at h3
    split
    · omega
    · split <;> omega
theorem ediv_mono {a b u : Int} (hu : 0 < u) (h : a ≤ b) : a / u ≤ b / u := Int.ediv_le_ediv hu h
theorem toF_mono {u r v w : Int} (hu : 1 ≤ u) (h : v ≤ w) : toF u r v ≤ toF u r w := by
  have hu0 : 0 < u := by omega
  have h1 := ediv_mono hu0 h
  have h2 := ediv_mono hu0 (show -w ≤ -v by omega)
  have h3 := ediv_mono (show 0 < 2 * u by omega) (show 2 * v + u ≤ 2 * w + u by omega)
  unfold toF
  split
  · exact h1
  split
  · omega
  split
  · exact h3
  have hb := ediv_bd (2 * v + u) (show 0 < 2 * u by omega)
  generalize (2 * v + u) / (2 * u) = p at *
  generalize (2 * w + u) / (2 * u) = q at *
  by_cases hpq : p = q
  · subst hpq
    by_cases hvw : v = w
    · subst hvw; omega
    · have : ¬ (2 * w + u = 2 * u * p) := fun hh => by
        have h5 : 2 * u * p = p * (2 * u) := Int.mul_comm _ _
        omega
      split <;> simp only [this, false_and, if_false] <;> omega
  · split <;> split <;> omega
theorem tmod2 (n : Int) : (n.tmod 2 ≠ 0) ↔ n % 2 ≠ 0 := by
  rw [Int.tmod_eq_emod]; split <;> omega

def fig (s : Sh) (n : Int) : Int := toF s.unit s.rule n

/-! ## The ends of sets of numbers -/

def mgO : Option Sp → Option Sp → Option Sp
  | none, b => b
  | some a, none => some a
  | some a, some b => some (min a.1 b.1, max a.2 b.2)
def shO (o : Option Sp) (f : Int) : Option Sp := o.map fun v => (v.1 + f, v.2 + f)
def IsE (S : Int → Prop) : Option Sp → Prop
  | none => ∀ x, ¬ S x
  | some v => S v.1 ∧ S v.2 ∧ ∀ x, S x → v.1 ≤ x ∧ x ≤ v.2
theorem isE_uniq {S : Int → Prop} {a b : Option Sp} (ha : IsE S a) (hb : IsE S b) : a = b := by
  cases a with
  | none => cases b with
    | none => rfl
    | some v => exact absurd hb.1 (ha v.1)
  | some u => cases b with
    | none => exact absurd ha.1 (hb u.1)
    | some v =>
      obtain ⟨h1, h2, h3⟩ := ha
      obtain ⟨h4, h5, h6⟩ := hb
      have a1 := h3 _ h4
      have a2 := h3 _ h5
      have a3 := h6 _ h1
      have a4 := h6 _ h2
      have e1 : u.1 = v.1 := by omega
      have e2 : u.2 = v.2 := by omega
      exact congrArg some (Prod.ext e1 e2)
theorem isE_congr {S T : Int → Prop} {a : Option Sp} (ha : IsE S a) (h : ∀ x, S x ↔ T x) : IsE T a := by
  have : S = T := funext fun x => propext (h x)
  exact this ▸ ha
theorem isE_mg {S T : Int → Prop} {a b : Option Sp} (ha : IsE S a) (hb : IsE T b) : IsE (fun x => S x ∨ T x) (mgO a b) := by
  cases a with
  | none => exact isE_congr hb fun x => ⟨.inr, fun h => h.resolve_left (ha x)⟩
  | some u => cases b with
    | none => exact isE_congr ha fun x => ⟨.inl, fun h => h.resolve_right (hb x)⟩
    | some v =>
      obtain ⟨h1, h2, h3⟩ := ha
      obtain ⟨h4, h5, h6⟩ := hb
      refine ⟨?_, ?_, fun x hx => ?_⟩
      · show S (min u.1 v.1) ∨ T (min u.1 v.1)
        rcases Int.le_total u.1 v.1 with h | h
        · rw [Int.min_eq_left h]; exact .inl h1
        · rw [Int.min_eq_right h]; exact .inr h4
      · show S (max u.2 v.2) ∨ T (max u.2 v.2)
        rcases Int.le_total u.2 v.2 with h | h
        · rw [Int.max_eq_right h]; exact .inr h5
        · rw [Int.max_eq_left h]; exact .inl h2
      · show min u.1 v.1 ≤ x ∧ x ≤ max u.2 v.2
        rcases hx with hx | hx
        · have := h3 x hx; omega
        · have := h6 x hx; omega
theorem isE_sh {S : Int → Prop} {a : Option Sp} (f : Int) (ha : IsE S a) : IsE (fun x => S (x - f)) (shO a f) := by
  cases a with
  | none => exact fun x => ha _
  | some u =>
    obtain ⟨h1, h2, h3⟩ := ha
    refine ⟨?_, ?_, fun x hx => ?_⟩
    · show S (u.1 + f - f); rwa [Int.add_sub_cancel]
    · show S (u.2 + f - f); rwa [Int.add_sub_cancel]
    · show u.1 + f ≤ x ∧ x ≤ u.2 + f
      have := h3 _ hx; omega
/-- The ends of a list. -/
def endsI (l : List Int) : Option Sp := l.foldl (fun o x => mgO o (some (x, x))) none
theorem isE_fold : ∀ (l : List Int) {S : Int → Prop} {o : Option Sp}, IsE S o → IsE (fun x => S x ∨ x ∈ l) (l.foldl (fun o x => mgO o (some (x, x))) o)
  | [], S, o, h => isE_congr h fun x => by simp
  | y :: l, S, o, h => by
    have h1 : IsE (fun x => x = y) (some (y, y)) := ⟨rfl, rfl, fun x hx => by subst hx; exact ⟨Int.le_refl _, Int.le_refl _⟩⟩
    refine isE_congr (isE_fold l (isE_mg h h1)) fun x => ?_
    simp only [List.mem_cons]
    constructor
    · rintro ((h | h) | h)
      · exact .inl h
      · exact .inr (.inl h)
      · exact .inr (.inr h)
    · rintro (h | h | h)
      · exact .inl (.inl h)
      · exact .inl (.inr h)
      · exact .inr h
theorem isE_ends (l : List Int) : IsE (fun x => x ∈ l) (endsI l) :=
  isE_congr (isE_fold l (S := fun _ => False) (o := none) fun _ h => h) fun x => by simp

/-! ## Exact numbers, truths, and their sums -/

def exL (e r : Int) : List Int := rngN (r - e) (2 * e + 1).toNat
theorem mem_exL {e r n : Int} (he : 0 ≤ e) : n ∈ exL e r ↔ r - e ≤ n ∧ n ≤ r + e := by
  rw [exL, mem_rngN]; omega
def truR (e : Int) : List Int → List (List Int)
  | [] => [[]]
  | r :: rs => (exL e r).flatMap fun n => (truR e rs).map (n :: ·)
def truK (e : Int) : List Int → List Int → Bool
  | [], [] => true
  | r :: rs, n :: t => inB n (r - e) (r + e) && truK e rs t
  | _, _ => false
theorem mem_truR {e : Int} (he : 0 ≤ e) : ∀ {rs t : List Int}, t ∈ truR e rs ↔ truK e rs t = true
  | [], [] => by simp [truR, truK]
  | [], n :: t => by simp [truR, truK]
  | r :: rs, [] => by simp [truR, truK]
  | r :: rs, n :: t => by
    simp only [truR, List.mem_flatMap, List.mem_map, List.cons.injEq, truK, Bool.and_eq_true, inB_iff]
    constructor
    · rintro ⟨m, h1, t', h2, rfl, rfl⟩
      exact ⟨(mem_exL he).1 h1, (mem_truR he).1 h2⟩
    · rintro ⟨h1, h2⟩
      exact ⟨n, (mem_exL he).2 h1, t, (mem_truR he).2 h2, rfl, rfl⟩
theorem truK_iff : ∀ {e : Int} {rs t : List Int}, truK e rs t = true ↔ t.length = rs.length ∧ ∀ (j : Nat) r n, rs[j]? = some r → t[j]? = some n → inB n (r - e) (r + e) = true
  | e, [], [] => by simp [truK]
  | e, [], n :: t => by simp [truK]
  | e, r :: rs, [] => by simp [truK]
  | e, r :: rs, n :: t => by
    simp only [truK, Bool.and_eq_true, truK_iff (rs := rs) (t := t), List.length_cons, Nat.add_right_cancel_iff]
    constructor
    · rintro ⟨h1, h2, h3⟩
      refine ⟨h2, fun j r' n' hl he => ?_⟩
      cases j with
      | zero => simp at hl he; subst hl; subst he; exact h1
      | succ j => exact h3 j r' n' (by simpa using hl) (by simpa using he)
    · rintro ⟨h1, h2⟩
      exact ⟨h2 0 r n rfl rfl, h1, fun j r' n' hl he => h2 (j + 1) r' n' (by simpa using hl) (by simpa using he)⟩
theorem truK_app {e : Int} : ∀ {rs qs t u : List Int}, t.length = rs.length → truK e (rs ++ qs) (t ++ u) = (truK e rs t && truK e qs u)
  | [], qs, [], u, _ => by simp [truK]
  | r :: rs, qs, n :: t, u, h => by
    simp only [List.cons_append, truK, truK_app (rs := rs) (qs := qs) (t := t) (u := u) (by simpa using h), Bool.and_assoc]
theorem truK_len {e : Int} {rs t : List Int} (h : truK e rs t = true) : t.length = rs.length := (truK_iff.1 h).1

theorem sumI_foldl : ∀ (l : List Int) (a : Int), l.foldl (· + ·) a = a + sumI l
  | [], a => by simp [sumI]
  | x :: l, a => by
    have h1 : sumI (x :: l) = 0 + x + sumI l := (List.foldl_cons ..).trans (sumI_foldl l (0 + x))
    rw [List.foldl_cons, sumI_foldl l (a + x), h1]
    omega
theorem sumI_cons (x : Int) (l : List Int) : sumI (x :: l) = x + sumI l := by
  show (x :: l).foldl (· + ·) 0 = _
  rw [List.foldl_cons, sumI_foldl]; omega
theorem sumI_app (l m : List Int) : sumI (l ++ m) = sumI l + sumI m := by
  show (l ++ m).foldl (· + ·) 0 = _
  rw [List.foldl_append, sumI_foldl]; rfl
/-- The sum of what is rounded. -/
def figO (F : Int → Int) (t : List Int) : Int := sumI (t.map F)
theorem figO_cons (F : Int → Int) (x : Int) (l : List Int) : figO F (x :: l) = F x + figO F l := by simp [figO, sumI_cons]
theorem figO_app (F : Int → Int) (l m : List Int) : figO F (l ++ m) = figO F l + figO F m := by simp [figO, sumI_app]

def stepO (F : Int → Int) (G : Int → Option Sp) (L : List Int) (k : Int) : Option Sp := L.foldl (fun o n => mgO o (shO (G (k - n)) (F n))) none
def O0 (k : Int) : Option Sp := if k = 0 then some (0, 0) else none
def sumO (F : Int → Int) (e : Int) (rows : List Int) : Int → Option Sp := rows.foldl (fun G r => stepO F G (exL e r)) O0
theorem stepO_snoc (F : Int → Int) (G : Int → Option Sp) (L : List Int) (n k : Int) : stepO F G (L ++ [n]) k = mgO (stepO F G L k) (shO (G (k - n)) (F n)) := by simp [stepO]
theorem sumO_snoc (F : Int → Int) (e : Int) (rows : List Int) (r : Int) : sumO F e (rows ++ [r]) = stepO F (sumO F e rows) (exL e r) := by simp [sumO]
theorem stepO_isE {F : Int → Int} {G : Int → Option Sp} {S : Int → Int → Prop} (hG : ∀ k, IsE (S k) (G k)) (L : List Int) (k : Int) : IsE (fun x => ∃ n ∈ L, S (k - n) (x - F n)) (stepO F G L k) := by
  have key : ∀ (L : List Int) {T : Int → Prop} {o : Option Sp}, IsE T o → IsE (fun x => T x ∨ ∃ n ∈ L, S (k - n) (x - F n)) (L.foldl (fun o n => mgO o (shO (G (k - n)) (F n))) o) := by
    intro L
    induction L with
    | nil => exact fun h => isE_congr h fun x => by simp
    | cons n L ih =>
      intro T o h
      refine isE_congr (ih (isE_mg h (isE_sh (F n) (hG (k - n))))) fun x => ?_
      simp only [List.mem_cons]
      constructor
      · rintro ((h | h) | ⟨m, hm, h⟩)
        · exact .inl h
        · exact .inr ⟨n, .inl rfl, h⟩
        · exact .inr ⟨m, .inr hm, h⟩
      · rintro (h | ⟨m, rfl | hm, h⟩)
        · exact .inl (.inl h)
        · exact .inl (.inr h)
        · exact .inr ⟨m, hm, h⟩
  exact isE_congr (key L (T := fun _ => False) (o := none) fun _ h => h) fun x => by simp
/-- The map of the sums: for each sum the ends of the sums of figures. -/
theorem sumO_isE {F : Int → Int} {e : Int} (he : 0 ≤ e) (rows : List Int) : ∀ k, IsE (fun x => ∃ t, truK e rows t = true ∧ sumI t = k ∧ figO F t = x) (sumO F e rows k) := by
  have key : ∀ (m : Nat) (rows : List Int), rows.length = m → ∀ k, IsE (fun x => ∃ t, truK e rows t = true ∧ sumI t = k ∧ figO F t = x) (sumO F e rows k) := by
    intro m
    induction m with
    | zero =>
      intro rows h k
      have : rows = [] := List.eq_nil_of_length_eq_zero h
      subst this
      show IsE _ (O0 k)
      by_cases hk : k = 0
      · subst hk
        refine ⟨⟨[], rfl, rfl, rfl⟩, ⟨[], rfl, rfl, rfl⟩, ?_⟩
        rintro x ⟨t, h1, _, h3⟩
        have : t = [] := List.eq_nil_of_length_eq_zero (truK_len h1)
        subst this
        rw [← h3]; exact ⟨Int.le_refl _, Int.le_refl _⟩
      · simp only [O0, if_neg hk]
        rintro x ⟨t, h1, h2, _⟩
        have : t = [] := List.eq_nil_of_length_eq_zero (truK_len h1)
        subst this
        exact hk h2.symm
    | succ m ih =>
      intro rows h k
      have hne : rows ≠ [] := by intro hh; subst hh; simp at h
      obtain ⟨r, hr⟩ : ∃ r, rows = rows.dropLast ++ [r] := ⟨rows.getLast hne, (List.dropLast_concat_getLast hne).symm⟩
      have hl : rows.dropLast.length = m := by rw [List.length_dropLast]; omega
      generalize rows.dropLast = rs at *
      subst hr
      rw [sumO_snoc]
      refine isE_congr (stepO_isE (F := F) (ih rs hl) (exL e r) k) fun x => ?_
      constructor
      · rintro ⟨n, hn, t, h1, h2, h3⟩
        refine ⟨t ++ [n], ?_, ?_, ?_⟩
        · rw [truK_app (truK_len h1), h1]
          simp only [truK, Bool.true_and, Bool.and_true]
          exact inB_iff.2 ((mem_exL he).1 hn)
        · rw [sumI_snoc]; omega
        · rw [figO_app]; simp only [figO, List.map_cons, List.map_nil, sumI_cons, sumI_nil] at h3 ⊢; omega
      · rintro ⟨t, h1, h2, h3⟩
        have hlen := truK_len h1
        have htne : t ≠ [] := by intro hh; subst hh; simp at hlen
        obtain ⟨n, hn⟩ : ∃ n, t = t.dropLast ++ [n] := ⟨t.getLast htne, (List.dropLast_concat_getLast htne).symm⟩
        have htl : t.dropLast.length = rs.length := by rw [List.length_dropLast, hlen]; simp
        generalize t.dropLast = u at *
        subst hn
        rw [truK_app htl] at h1
        simp only [truK, Bool.and_true, Bool.and_eq_true] at h1
        rw [sumI_snoc] at h2
        rw [figO_app] at h3
        refine ⟨n, (mem_exL he).2 (inB_iff.1 h1.2), u, h1.1, by omega, ?_⟩
        simp only [figO, List.map_cons, List.map_nil, sumI_cons, sumI_nil] at h3 ⊢; omega
  exact fun k => key _ rows rfl k

end Go.Proofs


namespace Go.Proofs
open Go Go.Sx

/-! # Plain facts for the walks over sums -/

theorem rng_drop : ∀ (N j : Nat) (lo : Int), (rngN lo N).drop j = rngN (lo + j) (N - j)
  | N, 0, lo => by simp
  | 0, j + 1, lo => by simp [rngN]
  | N + 1, j + 1, lo => by
    rw [rngN, List.drop_succ_cons, rng_drop N j (lo + 1)]
    rw [show N + 1 - (j + 1) = N - j by omega, show lo + 1 + (j : Int) = lo + ((j + 1 : Nat) : Int) by omega]
theorem rng_cons {lo : Int} {N j : Nat} (h : j < N) : rngN (lo + j) (N - j) = (lo + j) :: rngN (lo + (j + 1 : Nat)) (N - (j + 1)) := by
  obtain ⟨k, hk⟩ : ∃ k, N - j = k + 1 := ⟨N - j - 1, by omega⟩
  rw [hk, rngN, show N - (j + 1) = k by omega, show lo + (j : Int) + 1 = lo + ((j + 1 : Nat) : Int) by omega]
theorem rng_sfx (lo : Int) (N j : Nat) : rngN (lo + j) (N - j) <:+ rngN lo N := by rw [← rng_drop]; exact List.drop_suffix _ _
theorem rng_nil {lo : Int} {N j : Nat} (h : N ≤ j) : rngN (lo + j) (N - j) = [] := by rw [show N - j = 0 by omega]; rfl

/-! ### The best of a list -/

def bestK (p : Int → Int → Bool) (xs : List Int) (k : Nat) : Int := (((xs.drop 1).take k)).foldl (fun o y => if p y o then y else o) (xs.headD 0)
def bestI (p : Int → Int → Bool) (xs : List Int) : Int := bestK p xs (xs.length - 1)
theorem bestK_succ {p : Int → Int → Bool} {xs : List Int} {k : Nat} {y : Int} (h : xs[k + 1]? = some y) : bestK p xs (k + 1) = if p y (bestK p xs k) then y else bestK p xs k := by
  have h2 : (xs.drop 1)[k]? = some y := by rw [List.getElem?_drop, Nat.add_comm]; exact h
  simp only [bestK, take_snoc h2, List.foldl_append, List.foldl_cons, List.foldl_nil]
  rfl
theorem fold_lt : ∀ (l : List Int) (z : Int), let r := l.foldl (fun o y => if decide (y < o) then y else o) z; (r = z ∨ r ∈ l) ∧ r ≤ z ∧ ∀ x ∈ l, r ≤ x
  | [], z => ⟨.inl rfl, Int.le_refl _, fun _ h => by cases h⟩
  | y :: l, z => by
    simp only [List.foldl_cons, decide_eq_true_eq]
    have ih := fold_lt l (if y < z then y else z)
    simp only [decide_eq_true_eq] at ih
    generalize l.foldl (fun o y => if y < o then y else o) (if y < z then y else z) = r at ih
    obtain ⟨h1, h2, h3⟩ := ih
    split at h1 <;> split at h2 <;> first | omega | skip
    · exact ⟨.inr (by simp only [List.mem_cons]; exact h1), by omega, fun x hx => by rcases List.mem_cons.1 hx with rfl | hx; exact h2; exact h3 x hx⟩
    · exact ⟨by rcases h1 with h1 | h1; exact .inl h1; exact .inr (List.mem_cons_of_mem _ h1), h2, fun x hx => by rcases List.mem_cons.1 hx with rfl | hx; omega; exact h3 x hx⟩
theorem fold_gt : ∀ (l : List Int) (z : Int), let r := l.foldl (fun o y => if decide (y > o) then y else o) z; (r = z ∨ r ∈ l) ∧ z ≤ r ∧ ∀ x ∈ l, x ≤ r
  | [], z => ⟨.inl rfl, Int.le_refl _, fun _ h => by cases h⟩
  | y :: l, z => by
    simp only [List.foldl_cons, decide_eq_true_eq]
    have ih := fold_gt l (if y > z then y else z)
    simp only [decide_eq_true_eq] at ih
    generalize l.foldl (fun o y => if y > o then y else o) (if y > z then y else z) = r at ih
    obtain ⟨h1, h2, h3⟩ := ih
    split at h1 <;> split at h2 <;> first | omega | skip
    · exact ⟨.inr (by simp only [List.mem_cons]; exact h1), by omega, fun x hx => by rcases List.mem_cons.1 hx with rfl | hx; exact h2; exact h3 x hx⟩
    · exact ⟨by rcases h1 with h1 | h1; exact .inl h1; exact .inr (List.mem_cons_of_mem _ h1), h2, fun x hx => by rcases List.mem_cons.1 hx with rfl | hx; omega; exact h3 x hx⟩
theorem best_ends {xs : List Int} (h : 1 ≤ xs.length) : IsE (fun x => x ∈ xs) (some (bestI (fun a b => decide (a < b)) xs, bestI (fun a b => decide (a > b)) xs)) := by
  match xs, h with
  | z :: l, _ =>
    have e : ∀ p, bestI p (z :: l) = l.foldl (fun o y => if p y o then y else o) z := fun p => by simp [bestI, bestK]
    rw [e, e]
    obtain ⟨h1, h2, h3⟩ := fold_lt l z
    obtain ⟨h4, h5, h6⟩ := fold_gt l z
    refine ⟨?_, ?_, fun x hx => ?_⟩
    · rcases h1 with h1 | h1
      · rw [h1]; exact List.mem_cons_self ..
      · exact List.mem_cons_of_mem _ h1
    · rcases h4 with h4 | h4
      · rw [h4]; exact List.mem_cons_self ..
      · exact List.mem_cons_of_mem _ h4
    · rcases List.mem_cons.1 hx with rfl | hx
      · exact ⟨h2, h5⟩
      · exact ⟨h3 x hx, h6 x hx⟩

/-! ### The map of sums, while it is made -/

section mid
variable {F : Int → Int} {G : Int → Option Sp} {L : List Int} {n : Int} {l left : List En} {c : Nat}
def midO (F : Int → Int) (G : Int → Option Sp) (L : List Int) (n : Int) (left : List En) (k : Int) : Option Sp := mgO (stepO F G L k) (if keyIn left (k - n) then none else shO (G (k - n)) (F n))
theorem mgO_none (a : Option Sp) : mgO a none = a := by cases a <;> rfl
theorem mid_start (ok : OkN l c G) : midO F G L n l = stepO F G L := funext fun k => by
  simp only [midO, keyIn_all ok]
  cases h : G (k - n) with
  | none => simp [shO, mgO_none]
  | some v => simp [mgO_none]
theorem mid_end : midO F G L n [] = stepO F G (L ++ [n]) := funext fun k => by simp [midO, keyIn, stepO_snoc]
theorem mid_at {e : En} (he : e ∈ left) : midO F G L n left (e.1 + n) = stepO F G L (e.1 + n) := by
  have : keyIn left (e.1 + n - n) = true := List.any_eq_true.2 ⟨e, he, by simp⟩
  simp only [midO, this, if_true, mgO_none]
theorem mid_step (ok : OkN l c G) (hs : ∀ x ∈ left, x ∈ l) {e : En} (he : e ∈ left) {y : Sp} (hy : some y = mgO (midO F G L n left (e.1 + n)) (some (e.2.1.1 + F n, e.2.1.2 + F n))) :
    updO (midO F G L n left) (e.1 + n) y = midO F G L n (dropE left e) := funext fun k => by
  simp only [updO]
  by_cases hk : k = e.1 + n
  · subst hk
    rw [if_pos rfl, hy, mid_at he]
    have h1 : keyIn (dropE left e) (e.1 + n - n) = false := by rw [keyIn_drop ok hs he]; simp
    simp only [midO, h1, Bool.false_eq_true, if_false]
    rw [show e.1 + n - n = e.1 by omega, okN_mem ok (hs e he)]; rfl
  · rw [if_neg hk]
    have h1 : keyIn (dropE left e) (k - n) = keyIn left (k - n) := by
      rw [keyIn_drop ok hs he, show (k - n != e.1) = true by simp; omega, Bool.and_true]
    simp only [midO, h1]
theorem mid_f (ok : OkN l c G) (hs : ∀ x ∈ left, x ∈ l) {e : En} (he : e ∈ left) (h : (midO F G L n left (e.1 + n)).isSome = false) :
    updO (midO F G L n left) (e.1 + n) (e.2.1.1 + F n, e.2.1.2 + F n) = midO F G L n (dropE left e) := by
  refine mid_step ok hs he ?_
  cases hc : midO F G L n left (e.1 + n) with
  | none => rfl
  | some v => rw [hc] at h; cases h
theorem mid_t (ok : OkN l c G) (hs : ∀ x ∈ left, x ∈ l) {e : En} (he : e ∈ left) (h : (midO F G L n left (e.1 + n)).isSome = true) :
    updO (midO F G L n left) (e.1 + n) (min (e.2.1.1 + F n) ((midO F G L n left (e.1 + n)).getD (0, 0)).1, max (e.2.1.2 + F n) ((midO F G L n left (e.1 + n)).getD (0, 0)).2) = midO F G L n (dropE left e) := by
  refine mid_step ok hs he ?_
  cases hc : midO F G L n left (e.1 + n) with
  | none => rw [hc] at h; cases h
  | some v => simp [mgO, Int.min_comm, Int.max_comm]
end mid

theorem sum_bd {B : Int} (hB : 0 ≤ B) : ∀ {xs : List Int}, (∀ x ∈ xs, -B ≤ x ∧ x ≤ B) → -(xs.length * B) ≤ sumI xs ∧ sumI xs ≤ xs.length * B
  | [], _ => by simp [sumI]
  | x :: xs, h => by
    have ih := sum_bd hB (xs := xs) (fun y hy => h y (List.mem_cons_of_mem _ hy))
    have h1 := h x (List.mem_cons_self ..)
    rw [sumI_cons, List.length_cons, show ((xs.length + 1 : Nat) : Int) * B = xs.length * B + B by rw [Int.natCast_add, Int.add_mul]; simp]
    omega
theorem tru_bd {e : Int} {rs t : List Int} {B : Int} (h : truK e rs t = true) (hr : ∀ r ∈ rs, -B ≤ r ∧ r ≤ B) : ∀ n ∈ t, -(B + e) ≤ n ∧ n ≤ B + e := by
  intro n hn
  obtain ⟨j, hj⟩ := List.mem_iff_getElem?.1 hn
  have h1 := truK_iff.1 h
  obtain ⟨r, hr1⟩ := some_get (xs := rs) (k := j) (by rw [← h1.1]; exact (List.getElem?_eq_some_iff.1 hj).1)
  have h2 := inB_iff.1 (h1.2 j r n hr1 hj)
  have h3 := hr r (List.mem_of_getElem? hr1)
  omega
/-- What is in such a map is small. -/
theorem sumO_bd {F : Int → Int} {e : Int} {rs : List Int} (he : 0 ≤ e ∧ e ≤ 8) (hF : ∀ n, -100008 ≤ n ∧ n ≤ 100008 → -100009 ≤ F n ∧ F n ≤ 100009) (hr : ∀ r ∈ rs, -100000 ≤ r ∧ r ≤ 100000) (hl : rs.length ≤ 5) {k : Int} {v : Sp} (h : sumO F e rs k = some v) :
    (-500045 ≤ k ∧ k ≤ 500045) ∧ (-500045 ≤ v.1 ∧ v.1 ≤ 500045) ∧ (-500045 ≤ v.2 ∧ v.2 ≤ 500045) := by
  have h1 := sumO_isE (F := F) he.1 rs k
  rw [h] at h1
  obtain ⟨⟨t, a1, a2, a3⟩, ⟨u, b1, b2, b3⟩, _⟩ := h1
  have key : ∀ t, truK e rs t = true → (-500045 ≤ sumI t ∧ sumI t ≤ 500045) ∧ -500045 ≤ figO F t ∧ figO F t ≤ 500045 := fun t ht => by
    have hb := tru_bd ht hr
    have hl2 : t.length ≤ 5 := by rw [truK_len ht]; exact hl
    have c1 := sum_bd (B := 100009) (by decide) (xs := t) (fun n hn => by have := hb n hn; omega)
    have c2 := sum_bd (B := 100009) (by decide) (xs := t.map F) (fun n hn => by
      obtain ⟨m, hm, rfl⟩ := List.mem_map.1 hn
      have := hb m hm
      exact hF m (by omega))
    rw [List.length_map] at c2
    simp only [figO]
    omega
  have k1 := key t a1
  have k2 := key u b1
  omega
end Go.Proofs


namespace Go.Proofs
open Go Go.Sx

theorem mem_dropE {l left : List En} {c : Nat} {G : Int → Option Sp} (ok : OkN l c G) (hs : ∀ x ∈ left, x ∈ l) {e : En} (he : e ∈ left) (x : En) : x ∈ dropE left e ↔ x ∈ left ∧ x ≠ e := by
  simp only [dropE, List.mem_filter, bne_iff_ne, ne_eq]
  constructor
  · rintro ⟨h1, h2⟩; exact ⟨h1, fun hh => h2 (by rw [hh])⟩
  · rintro ⟨h1, h2⟩; exact ⟨h1, fun hh => h2 (nodup_inj ok.borns x (hs x h1) e (hs e he) hh)⟩
theorem okN_len {l : List En} {c : Nat} {G : Int → Option Sp} (ok : OkN l c G) (hb : ∀ k v, G k = some v → -500045 ≤ k ∧ k ≤ 500045) : l.length ≤ 1000091 := by
  have h1 := ok.keys.length_le_of_subset (l₂ := rngN (-500045) 1000091) (fun k hk => by
    obtain ⟨e, he, rfl⟩ := List.mem_map.1 hk
    have := hb _ _ (okN_mem ok he)
    rw [mem_rngN]; omega)
  rw [List.length_map] at h1
  have h2 : ∀ (n : Nat) (lo : Int), (rngN lo n).length = n := by
    intro n
    induction n with
    | zero => intro lo; rfl
    | succ n ih => intro lo; simp [rngN, ih]
  rw [h2] at h1
  exact h1
theorem okN_ex {l : List En} {c : Nat} {G : Int → Option Sp} (ok : OkN l c G) (p : Int → Sp → Prop) : (∃ e ∈ l, p e.1 e.2.1) ↔ ∃ k v, G k = some v ∧ p k v := by
  constructor
  · rintro ⟨e, he, h⟩; exact ⟨_, _, okN_mem ok he, h⟩
  · rintro ⟨k, v, hk, h⟩
    rw [← ok.get] at hk
    obtain ⟨e, he, rfl, rfl⟩ := lget_some hk
    exact ⟨e, he, h⟩
theorem ints_two (l : List Int) (a b : Int) : ints (l ++ [a, b]) = ints l ++ [intC a, intC b] := by simp
/-- What has come of a range over a map, collected two by two. -/
def ColI (A B : Int → Sp → Int) (lm left : List En) (l : List Int) : Prop := (∀ x ∈ left, x ∈ lm) ∧ l.length + 2 * left.length ≤ 2 * lm.length ∧ ∀ x, x ∈ l ↔ ∃ en ∈ lm, ¬ en ∈ left ∧ (x = A en.1 en.2.1 ∨ x = B en.1 en.2.1)
theorem col_start (A B : Int → Sp → Int) (lm : List En) : ColI A B lm lm [] := by
  refine ⟨fun _ h => h, by simp, fun x => ?_⟩
  constructor
  · intro h; cases h
  · rintro ⟨en, h1, h2, _⟩; exact absurd h1 h2
theorem col_step {A B : Int → Sp → Int} {lm left : List En} {l : List Int} {c : Nat} {G : Int → Option Sp} (ok : OkN lm c G) (h : ColI A B lm left l) {en : En} (he : en ∈ left) : ColI A B lm (dropE left en) (l ++ [A en.1 en.2.1, B en.1 en.2.1]) := by
  obtain ⟨h1, h2, h3⟩ := h
  have hd := drop_len he
  refine ⟨fun x hx => h1 x (drop_sub hx), by rw [List.length_append]; simp; omega, fun x => ?_⟩
  rw [List.mem_append, h3]
  simp only [mem_dropE ok h1 he, List.mem_cons, List.not_mem_nil, or_false]
  constructor
  · rintro (⟨e, a1, a2, a3⟩ | h4)
    · exact ⟨e, a1, fun hh => a2 hh.1, a3⟩
    · exact ⟨en, h1 en he, fun hh => hh.2 rfl, h4⟩
  · rintro ⟨e, a1, a2, a3⟩
    by_cases hq : e = en
    · subst hq; exact .inr a3
    · exact .inl ⟨e, a1, fun hh => a2 ⟨hh, hq⟩, a3⟩
theorem col_end {A B : Int → Sp → Int} {lm : List En} {l : List Int} {c : Nat} {G : Int → Option Sp} {v : Sp} (ok : OkN lm c G) (h : ColI A B lm [] l) (hv : IsE (fun x => ∃ k v, G k = some v ∧ (x = A k v ∨ x = B k v)) (some v)) : IsE (fun x => x ∈ l) (some v) ∧ 1 ≤ l.length := by
  have h1 : IsE (fun x => x ∈ l) (some v) := isE_congr hv fun x => by
    rw [h.2.2, ← okN_ex ok (fun k v => x = A k v ∨ x = B k v)]
    simp
  refine ⟨h1, ?_⟩
  have := h1.1
  cases l with
  | nil => cases this
  | cons => simp

/-! ### Totals -/

/-- What is asked of a truth's sum and the sum of its figures. -/
def endT (F : Int → Int) (e : Int) (rows : List Int) (of : Int → Int → Int) : Option Sp := endsI ((truR e rows).map fun t => of (sumI t) (figO F t))
theorem endT_isE {F : Int → Int} {e : Int} (he : 0 ≤ e) (rows : List Int) (of : Int → Int → Int) : IsE (fun x => ∃ t, truK e rows t = true ∧ of (sumI t) (figO F t) = x) (endT F e rows of) :=
  isE_congr (isE_ends _) fun x => by
    simp only [List.mem_map, mem_truR he]
theorem tru_self {e : Int} (he : 0 ≤ e) : ∀ rs : List Int, truK e rs rs = true
  | [] => rfl
  | r :: rs => by simp only [truK, Bool.and_eq_true]; exact ⟨inB_iff.2 (by omega), tru_self he rs⟩
theorem endT_some {F : Int → Int} {e : Int} (he : 0 ≤ e) (rows : List Int) (of : Int → Int → Int) : endT F e rows of = some ((endT F e rows of).getD (0, 0)) := by
  have h := endT_isE (F := F) he rows of
  cases hq : endT F e rows of with
  | none => rw [hq] at h; exact absurd ⟨rows, tru_self he rows, rfl⟩ (h _)
  | some v => rfl
/-- By sums: if in each of them the ends of the figures give the ends. -/
theorem endT_sums {F : Int → Int} {e : Int} (he : 0 ≤ e) (rows : List Int) (of : Int → Int → Int) (hm : ∀ k a b, a ≤ b → of k a ≤ of k b) : IsE (fun x => ∃ k v, sumO F e rows k = some v ∧ (x = of k v.1 ∨ x = of k v.2)) (some ((endT F e rows of).getD (0, 0))) := by
  have h := endT_isE (F := F) he rows of
  rw [endT_some he rows of] at h
  generalize (endT F e rows of).getD (0, 0) = z at h
  have hG := fun k => sumO_isE (F := F) he rows k
  obtain ⟨⟨t, a1, a2⟩, ⟨u, b1, b2⟩, h3⟩ := h
  have at_ : ∀ t, truK e rows t = true → ∃ v, sumO F e rows (sumI t) = some v ∧ v.1 ≤ figO F t ∧ figO F t ≤ v.2 := fun t ht => by
    have := hG (sumI t)
    cases hq : sumO F e rows (sumI t) with
    | none => rw [hq] at this; exact absurd ⟨t, ht, rfl, rfl⟩ (this _)
    | some v => rw [hq] at this; exact ⟨v, rfl, this.2.2 _ ⟨t, ht, rfl, rfl⟩⟩
  have of_ : ∀ k v, sumO F e rows k = some v → (z.1 ≤ of k v.1 ∧ of k v.1 ≤ z.2) ∧ (z.1 ≤ of k v.2 ∧ of k v.2 ≤ z.2) := fun k v hk => by
    have := hG k
    rw [hk] at this
    obtain ⟨⟨t1, c1, c2, c3⟩, ⟨t2, d1, d2, d3⟩, _⟩ := this
    have e1 := h3 _ ⟨t1, c1, rfl⟩
    have e2 := h3 _ ⟨t2, d1, rfl⟩
    rw [c2, c3] at e1; rw [d2, d3] at e2
    exact ⟨e1, e2⟩
  refine ⟨?_, ?_, ?_⟩
  · obtain ⟨v, v1, v2, v3⟩ := at_ t a1
    have := hm (sumI t) v.1 (figO F t) v2
    have h4 := of_ _ _ v1
    refine ⟨sumI t, v, v1, .inl ?_⟩
    omega
  · obtain ⟨v, v1, v2, v3⟩ := at_ u b1
    have := hm (sumI u) (figO F u) v.2 v3
    have h4 := of_ _ _ v1
    refine ⟨sumI u, v, v1, .inr ?_⟩
    omega
  · rintro x ⟨k, v, hk, rfl | rfl⟩
    · exact (of_ k v hk).1
    · exact (of_ k v hk).2
end Go.Proofs


namespace Go.Proofs
open Go Go.Sx Go.RowKit

theorem bool_tf (b : Bool) : b = true ∨ b = false := by cases b <;> simp
abbrev rtC (x nx : Int) (l : Bool) : List Value := [.int .i64 x, .int .i64 nx, .bool l]
abbrev rtV (x nx : Int) (l : Bool) : Value := .agg [.int .i64 x, .int .i64 nx, .bool l].toArray
def turnB (x y : Int) : Bool := decide (y = 100 * (x / 10 % 10) + 10 * (x / 100) + x % 10) || decide (y = 100 * (x / 100) + 10 * (x % 10) + x / 10 % 10)
def carrB (x y : Int) : Bool := (decide (0 < x / 100) && decide (y = 100 * (x / 100 - 1) + 10 * (x / 10 % 10) + x % 10)) || (decide (0 < x / 10 % 10) && decide (y = 100 * (x / 100) + 10 * (x / 10 % 10 - 1) + x % 10))
def kindF (x y : Int) : Int := if turnB x y then 1 else if carrB x y then 2 else if decide (y = -x) then 3 else 0

set_option maxRecDepth 20000 in
theorem hn_in (x lo hi : Int) (w : World)  : Calls Tryz.prog 43 #[(.int .i64 x), (.int .i64 lo), (.int .i64 hi)] w (RetV w (.bool (inB x lo hi))) := by
  refine calls_T0 (av := [_, _, _]) Tryz.func43 rfl rfl rfl ?_
  refine t_seq ?_
  refine t_reg ?_
  refine to_as rfl rfl ?_
  refine to_nil ?_
  refine tn_code ?_
  refine t_seq ?_
  refine t_reg ?_
  refine to_mv rfl rfl ?_
  refine to_mv rfl rfl ?_
  refine to_geq rfl rfl rfl ?_
  refine to_mv rfl rfl ?_
  refine to_gs rfl rfl rfl (fun h1 => ?_) (fun h1 => ?_)
  · try simp only [decide_eq_true_eq, decide_eq_false_iff_not, Bool.not_eq_true', Bool.not_eq_false', Int.not_lt, Int.not_le, ne_eq, Decidable.not_not] at h1
    try have h1b := inB_iff.1 h1
    refine to_gt rfl rfl ?_
    refine to_mv rfl rfl ?_
    refine to_gt rfl rfl ?_
    refine to_mv rfl rfl ?_
    refine to_gt rfl rfl ?_
    refine to_leq rfl rfl rfl ?_
    refine to_pkT rfl rfl rfl ?_
    refine to_as rfl rfl ?_
    refine to_nil ?_
    refine tn_code ?_
    refine t_ret1 rfl rfl (res_tmp rfl) (fun w' s => ?_)
    first | (simp_all [inB]; done) | (simp [inB]; omega)
  · try simp only [decide_eq_true_eq, decide_eq_false_iff_not, Bool.not_eq_true', Bool.not_eq_false', Int.not_lt, Int.not_le, ne_eq, Decidable.not_not] at h1
    try have h1b := inB_iff.1 h1
    refine to_gf rfl rfl rfl rfl ?_
    refine to_gf rfl rfl rfl rfl ?_
    refine to_gf rfl rfl rfl rfl ?_
    refine to_pkF rfl rfl rfl ?_
    refine to_as rfl rfl ?_
    refine to_nil ?_
    refine tn_code ?_
    refine t_ret1 rfl rfl (res_tmp rfl) (fun w' s => ?_)
    first | (simp_all [inB]; done) | (simp [inB]; omega)

set_option maxRecDepth 20000 in
theorem cp_in (x lo hi : Int) (w : World)  : Calls Tryz.prog 38 #[(.int .i64 x), (.int .i64 lo), (.int .i64 hi)] w (RetV w (.bool (inB x lo hi))) := by
  refine calls_T0 (av := [_, _, _]) Tryz.func38 rfl rfl rfl ?_
  refine t_seq ?_
  refine t_reg ?_
  refine to_as rfl rfl ?_
  refine to_nil ?_
  refine tn_code ?_
  refine t_seq ?_
  refine t_reg ?_
  refine to_mv rfl rfl ?_
  refine to_mv rfl rfl ?_
  refine to_geq rfl rfl rfl ?_
  refine to_mv rfl rfl ?_
  refine to_gs rfl rfl rfl (fun h1 => ?_) (fun h1 => ?_)
  · try simp only [decide_eq_true_eq, decide_eq_false_iff_not, Bool.not_eq_true', Bool.not_eq_false', Int.not_lt, Int.not_le, ne_eq, Decidable.not_not] at h1
    try have h1b := inB_iff.1 h1
    refine to_gt rfl rfl ?_
    refine to_mv rfl rfl ?_
    refine to_gt rfl rfl ?_
    refine to_mv rfl rfl ?_
    refine to_gt rfl rfl ?_
    refine to_leq rfl rfl rfl ?_
    refine to_pkT rfl rfl rfl ?_
    refine to_as rfl rfl ?_
    refine to_nil ?_
    refine tn_code ?_
    refine t_ret1 rfl rfl (res_tmp rfl) (fun w' s => ?_)
    first | (simp_all [inB]; done) | (simp [inB]; omega)
  · try simp only [decide_eq_true_eq, decide_eq_false_iff_not, Bool.not_eq_true', Bool.not_eq_false', Int.not_lt, Int.not_le, ne_eq, Decidable.not_not] at h1
    try have h1b := inB_iff.1 h1
    refine to_gf rfl rfl rfl rfl ?_
    refine to_gf rfl rfl rfl rfl ?_
    refine to_gf rfl rfl rfl rfl ?_
    refine to_pkF rfl rfl rfl ?_
    refine to_as rfl rfl ?_
    refine to_nil ?_
    refine tn_code ?_
    refine t_ret1 rfl rfl (res_tmp rfl) (fun w' s => ?_)
    first | (simp_all [inB]; done) | (simp [inB]; omega)

set_option maxRecDepth 20000 in
theorem s7_in (x lo hi : Int) (w : World)  : Calls Tryz.prog 10 #[(.int .i64 x), (.int .i64 lo), (.int .i64 hi)] w (RetV w (.bool (inB x lo hi))) := by
  refine calls_T0 (av := [_, _, _]) Tryz.func10 rfl rfl rfl ?_
  refine t_seq ?_
  refine t_reg ?_
  refine to_as rfl rfl ?_
  refine to_nil ?_
  refine tn_code ?_
  refine t_seq ?_
  refine t_reg ?_
  refine to_mv rfl rfl ?_
  refine to_mv rfl rfl ?_
  refine to_geq rfl rfl rfl ?_
  refine to_mv rfl rfl ?_
  refine to_gs rfl rfl rfl (fun h1 => ?_) (fun h1 => ?_)
  · try simp only [decide_eq_true_eq, decide_eq_false_iff_not, Bool.not_eq_true', Bool.not_eq_false', Int.not_lt, Int.not_le, ne_eq, Decidable.not_not] at h1
    try have h1b := inB_iff.1 h1
    refine to_gt rfl rfl ?_
    refine to_mv rfl rfl ?_
    refine to_gt rfl rfl ?_
    refine to_mv rfl rfl ?_
    refine to_gt rfl rfl ?_
    refine to_leq rfl rfl rfl ?_
    refine to_pkT rfl rfl rfl ?_
    refine to_as rfl rfl ?_
    refine to_nil ?_
    refine tn_code ?_
    refine t_ret1 rfl rfl (res_tmp rfl) (fun w' s => ?_)
    first | (simp_all [inB]; done) | (simp [inB]; omega)
  · try simp only [decide_eq_true_eq, decide_eq_false_iff_not, Bool.not_eq_true', Bool.not_eq_false', Int.not_lt, Int.not_le, ne_eq, Decidable.not_not] at h1
    try have h1b := inB_iff.1 h1
    refine to_gf rfl rfl rfl rfl ?_
    refine to_gf rfl rfl rfl rfl ?_
    refine to_gf rfl rfl rfl rfl ?_
    refine to_pkF rfl rfl rfl ?_
    refine to_as rfl rfl ?_
    refine to_nil ?_
    refine tn_code ?_
    refine t_ret1 rfl rfl (res_tmp rfl) (fun w' s => ?_)
    first | (simp_all [inB]; done) | (simp [inB]; omega)

set_option maxRecDepth 20000 in
theorem st_in (x lo hi : Int) (w : World)  : Calls Tryz.prog 49 #[(.int .i64 x), (.int .i64 lo), (.int .i64 hi)] w (RetV w (.bool (inB x lo hi))) := by
  refine calls_T0 (av := [_, _, _]) Tryz.func49 rfl rfl rfl ?_
  refine t_seq ?_
  refine t_reg ?_
  refine to_as rfl rfl ?_
  refine to_nil ?_
  refine tn_code ?_
  refine t_seq ?_
  refine t_reg ?_
  refine to_mv rfl rfl ?_
  refine to_mv rfl rfl ?_
  refine to_geq rfl rfl rfl ?_
  refine to_mv rfl rfl ?_
  refine to_gs rfl rfl rfl (fun h1 => ?_) (fun h1 => ?_)
  · try simp only [decide_eq_true_eq, decide_eq_false_iff_not, Bool.not_eq_true', Bool.not_eq_false', Int.not_lt, Int.not_le, ne_eq, Decidable.not_not] at h1
    try have h1b := inB_iff.1 h1
    refine to_gt rfl rfl ?_
    refine to_mv rfl rfl ?_
    refine to_gt rfl rfl ?_
    refine to_mv rfl rfl ?_
    refine to_gt rfl rfl ?_
    refine to_leq rfl rfl rfl ?_
    refine to_pkT rfl rfl rfl ?_
    refine to_as rfl rfl ?_
    refine to_nil ?_
    refine tn_code ?_
    refine t_ret1 rfl rfl (res_tmp rfl) (fun w' s => ?_)
    first | (simp_all [inB]; done) | (simp [inB]; omega)
  · try simp only [decide_eq_true_eq, decide_eq_false_iff_not, Bool.not_eq_true', Bool.not_eq_false', Int.not_lt, Int.not_le, ne_eq, Decidable.not_not] at h1
    try have h1b := inB_iff.1 h1
    refine to_gf rfl rfl rfl rfl ?_
    refine to_gf rfl rfl rfl rfl ?_
    refine to_gf rfl rfl rfl rfl ?_
    refine to_pkF rfl rfl rfl ?_
    refine to_as rfl rfl ?_
    refine to_nil ?_
    refine tn_code ?_
    refine t_ret1 rfl rfl (res_tmp rfl) (fun w' s => ?_)
    first | (simp_all [inB]; done) | (simp [inB]; omega)

set_option maxRecDepth 20000 in
theorem pf_in (x lo hi : Int) (w : World)  : Calls Tryz.prog 61 #[(.int .i64 x), (.int .i64 lo), (.int .i64 hi)] w (RetV w (.bool (inB x lo hi))) := by
  refine calls_T0 (av := [_, _, _]) Tryz.func61 rfl rfl rfl ?_
  refine t_seq ?_
  refine t_reg ?_
  refine to_as rfl rfl ?_
  refine to_nil ?_
  refine tn_code ?_
  refine t_seq ?_
  refine t_reg ?_
  refine to_mv rfl rfl ?_
  refine to_mv rfl rfl ?_
  refine to_geq rfl rfl rfl ?_
  refine to_mv rfl rfl ?_
  refine to_gs rfl rfl rfl (fun h1 => ?_) (fun h1 => ?_)
  · try simp only [decide_eq_true_eq, decide_eq_false_iff_not, Bool.not_eq_true', Bool.not_eq_false', Int.not_lt, Int.not_le, ne_eq, Decidable.not_not] at h1
    try have h1b := inB_iff.1 h1
    refine to_gt rfl rfl ?_
    refine to_mv rfl rfl ?_
    refine to_gt rfl rfl ?_
    refine to_mv rfl rfl ?_
    refine to_gt rfl rfl ?_
    refine to_leq rfl rfl rfl ?_
    refine to_pkT rfl rfl rfl ?_
    refine to_as rfl rfl ?_
    refine to_nil ?_
    refine tn_code ?_
    refine t_ret1 rfl rfl (res_tmp rfl) (fun w' s => ?_)
    first | (simp_all [inB]; done) | (simp [inB]; omega)
  · try simp only [decide_eq_true_eq, decide_eq_false_iff_not, Bool.not_eq_true', Bool.not_eq_false', Int.not_lt, Int.not_le, ne_eq, Decidable.not_not] at h1
    try have h1b := inB_iff.1 h1
    refine to_gf rfl rfl rfl rfl ?_
    refine to_gf rfl rfl rfl rfl ?_
    refine to_gf rfl rfl rfl rfl ?_
    refine to_pkF rfl rfl rfl ?_
    refine to_as rfl rfl ?_
    refine to_nil ?_
    refine tn_code ?_
    refine t_ret1 rfl rfl (res_tmp rfl) (fun w' s => ?_)
    first | (simp_all [inB]; done) | (simp [inB]; omega)

set_option maxRecDepth 20000 in
theorem rn_in (x lo hi : Int) (w : World)  : Calls Tryz.prog 100 #[(.int .i64 x), (.int .i64 lo), (.int .i64 hi)] w (RetV w (.bool (inB x lo hi))) := by
  refine calls_T0 (av := [_, _, _]) Tryz.func100 rfl rfl rfl ?_
  refine t_seq ?_
  refine t_reg ?_
  refine to_as rfl rfl ?_
  refine to_nil ?_
  refine tn_code ?_
  refine t_seq ?_
  refine t_reg ?_
  refine to_mv rfl rfl ?_
  refine to_mv rfl rfl ?_
  refine to_geq rfl rfl rfl ?_
  refine to_mv rfl rfl ?_
  refine to_gs rfl rfl rfl (fun h1 => ?_) (fun h1 => ?_)
  · try simp only [decide_eq_true_eq, decide_eq_false_iff_not, Bool.not_eq_true', Bool.not_eq_false', Int.not_lt, Int.not_le, ne_eq, Decidable.not_not] at h1
    try have h1b := inB_iff.1 h1
    refine to_gt rfl rfl ?_
    refine to_mv rfl rfl ?_
    refine to_gt rfl rfl ?_
    refine to_mv rfl rfl ?_
    refine to_gt rfl rfl ?_
    refine to_leq rfl rfl rfl ?_
    refine to_pkT rfl rfl rfl ?_
    refine to_as rfl rfl ?_
    refine to_nil ?_
    refine tn_code ?_
    refine t_ret1 rfl rfl (res_tmp rfl) (fun w' s => ?_)
    first | (simp_all [inB]; done) | (simp [inB]; omega)
  · try simp only [decide_eq_true_eq, decide_eq_false_iff_not, Bool.not_eq_true', Bool.not_eq_false', Int.not_lt, Int.not_le, ne_eq, Decidable.not_not] at h1
    try have h1b := inB_iff.1 h1
    refine to_gf rfl rfl rfl rfl ?_
    refine to_gf rfl rfl rfl rfl ?_
    refine to_gf rfl rfl rfl rfl ?_
    refine to_pkF rfl rfl rfl ?_
    refine to_as rfl rfl ?_
    refine to_nil ?_
    refine tn_code ?_
    refine t_ret1 rfl rfl (res_tmp rfl) (fun w' s => ?_)
    first | (simp_all [inB]; done) | (simp [inB]; omega)

set_option maxRecDepth 20000 in
theorem idxfI (xs : List Int) (a : Option Addr) (c : Nat) (q : Nat) (cp : List Value) (p : Int → Bool) (w : World) [hf : FnOk Tryz.prog q] (hr : Ro w 0 w.heap.size a xs.length c 1 (xs.map intC)) (hn : xs.length ≤ 1000000) (hq : ∀ w', Below w.heap.size w w' → ∀ y ∈ xs, Calls Tryz.prog q ([] ++ ([Value.int .i64 y] ++ cp)).toArray w' (RetV w' (.bool (p y)))) : Calls Tryz.prog 75 #[.slice a xs.length c, .func (.func q) ([] : List Value).toArray cp.toArray] w (RetV w (.int .i64 (idxI p xs))) := by
  refine calls_T0 (av := [_, _]) Tryz.func75 rfl rfl rfl ?_
  refine t_seq ?_
  refine t_reg ?_
  refine to_as rfl rfl ?_
  refine to_nil ?_
  refine tn_code ?_
  refine t_seq ?_
  refine t_seq ?_
  refine t_reg ?_
  refine to_mv rfl rfl ?_
  refine to_lenS rfl rfl ?_
  refine to_mv rfl rfl ?_
  refine to_nil ?_
  refine tn_code ?_
  refine t_blk ?_
  refine t_loop2 (ι := Nat) (fun k => k ≤ xs.length ∧ ∀ j, j < k → ∀ y, xs[j]? = some y → p y = false) (fun k => [(0, .slice a xs.length c), (1, .func (.func q) ([] : List Value).toArray cp.toArray), (6, .slice a xs.length c), (7, .int .i64 (xs.length : Int)), (8, .int .i64 (k : Int))]) (fun k => [.snap 0 w.heap.size w]) (fun k => xs.length - k) (0) [.snap 0 w.heap.size w] (rfl) (⟨Nat.zero_le _, fun j hj => absurd hj (Nat.not_lt_zero _)⟩) (⟨rfl, rfl, rfl, rfl, rfl, trivial⟩) ?_
  rintro k ⟨hk, hall⟩
  show T _ _ _ ⟨_, [(0, .slice a xs.length c), (1, .func (.func q) ([] : List Value).toArray cp.toArray), (6, .slice a xs.length c), (7, .int .i64 (xs.length : Int)), (8, .int .i64 (k : Int))], _⟩ [.snap 0 w.heap.size w]
  refine t_seq ?_
  refine t_reg ?_
  refine to_lss rfl rfl rfl ?_
  refine to_nil ?_
  refine tn_code ?_
  refine t_seq ?_
  refine t_if rfl (fun h1 => ?_) (fun h1 => ?_)
  · try simp only [decide_eq_true_eq, decide_eq_false_iff_not, Bool.not_eq_true', Bool.not_eq_false', Int.not_lt, Int.not_le, ne_eq, Decidable.not_not] at h1
    try have h1b := inB_iff.1 h1
    obtain ⟨y, hy⟩ := some_get (xs := xs) (k := k) (by omega)
    have hx := map_get (f := intC) hy
    refine t_skip ?_
    refine tn_code ?_
    refine t_seq ?_
    refine t_blk ?_
    refine t_seq ?_
    refine t_reg ?_
    refine to_mv rfl rfl ?_
    refine to_as rfl rfl ?_
    refine to_nil ?_
    refine tn_code ?_
    refine t_seq ?_
    refine t_reg ?_
    refine to_mv rfl rfl ?_
    refine to_mv rfl rfl ?_
    refine to_mv rfl rfl ?_
    first | refine to_ix rfl rfl rfl (by first | omega | decide) (by first | omega | decide) rfl ?_ | refine to_ixi rfl rfl rfl (by omega) (by omega) (by omega) rfl ?_
    first | refine to_lds rfl rfl rfl ?_ | refine to_ldes rfl (by assumption) rfl rfl ?_
    refine to_call0 rfl rfl (fun w s => hq w (s.below0 (List.mem_cons_self ..)) y (List.mem_of_getElem? hy)) rfl ?_
    refine to_nil ?_
    refine tn_code ?_
    refine t_if rfl (fun h2 => ?_) (fun h2 => ?_)
    · try simp only [decide_eq_true_eq, decide_eq_false_iff_not, Bool.not_eq_true', Bool.not_eq_false', Int.not_lt, Int.not_le, ne_eq, Decidable.not_not] at h2
      try have h2b := inB_iff.1 h2
      have hfin := idxI_found hall hy h2
      refine t_seq ?_
      refine t_reg ?_
      refine to_mv rfl rfl ?_
      refine to_as rfl rfl ?_
      refine to_nil ?_
      refine tn_code ?_
      refine t_ret1 rfl rfl (res_tmp rfl) (fun w' s => ?_)
      rw [hfin]
    · try simp only [decide_eq_true_eq, decide_eq_false_iff_not, Bool.not_eq_true', Bool.not_eq_false', Int.not_lt, Int.not_le, ne_eq, Decidable.not_not] at h2
      try have h2b := inB_iff.1 h2
      refine t_skip ?_
      refine tn_blk ?_
      refine tn_code ?_
      refine t_reg ?_
      refine to_add rfl rfl (by omega) rfl ?_
      refine to_mv rfl rfl ?_
      refine to_nil ?_
      exact tn_loop2 (k + 1) [.snap 0 w.heap.size w] (rfl) (⟨by omega, all_succ hall (fun z hz => by rw [hy] at hz; cases hz; assumption)⟩) (by omega) (⟨rfl, rfl, rfl, rfl, rfl, trivial⟩)
  · try simp only [decide_eq_true_eq, decide_eq_false_iff_not, Bool.not_eq_true', Bool.not_eq_false', Int.not_lt, Int.not_le, ne_eq, Decidable.not_not] at h1
    try have h1b := inB_iff.1 h1
    have hk2 : k = xs.length := by omega
    subst hk2
    have hfin := idxI_none hall
    refine t_exit ?_
    refine tx_code ?_
    refine tx_inv ?_
    refine tx_blk ?_
    refine tn_code ?_
    refine t_seq ?_
    refine t_reg ?_
    refine to_as rfl rfl ?_
    refine to_nil ?_
    refine tn_code ?_
    refine t_ret1 rfl rfl (res_tmp rfl) (fun w' s => ?_)
    rw [hfin]

set_option maxRecDepth 20000 in
theorem conI (xs : List Int) (a : Option Addr) (c : Nat) (q : Nat) (cp : List Value) (p : Int → Bool) (w : World) [hf : FnOk Tryz.prog q] (hr : Ro w 0 w.heap.size a xs.length c 1 (xs.map intC)) (hn : xs.length ≤ 1000000) (hq : ∀ w', Below w.heap.size w w' → ∀ y ∈ xs, Calls Tryz.prog q ([] ++ ([Value.int .i64 y] ++ cp)).toArray w' (RetV w' (.bool (p y)))) : Calls Tryz.prog 39 #[.slice a xs.length c, .func (.func q) ([] : List Value).toArray cp.toArray] w (RetV w (.bool (xs.any p))) := by
  refine calls_T0 (av := [_, _]) Tryz.func39 rfl rfl rfl ?_
  refine t_seq ?_
  refine t_reg ?_
  refine to_as rfl rfl ?_
  refine to_nil ?_
  refine tn_code ?_
  refine t_seq ?_
  refine t_reg ?_
  refine to_mv rfl rfl ?_
  refine to_mv rfl rfl ?_
  refine to_call0 rfl rfl (fun w s => idxfI _ _ _ _ _ _ w (rdw s) hn (fun w' hb y hy => hq w' (below_tr (s.below0 (List.mem_cons_self ..)) hb) y hy)) rfl ?_
  refine to_geq rfl rfl rfl ?_
  refine to_as rfl rfl ?_
  refine to_nil ?_
  refine tn_code ?_
  refine t_ret1 rfl rfl (res_tmp rfl) (fun w' s => ?_)
  rw [idxI_any]

set_option maxRecDepth 20000 in
theorem hn_num (n : Int) (w : World)  : Calls Tryz.prog 45 #[(.int .i64 n)] w (RetV w (.bool (inB n (-999) 999))) := by
  refine calls_T0 (av := [_]) Tryz.func45 rfl rfl rfl ?_
  refine t_seq ?_
  refine t_reg ?_
  refine to_as rfl rfl ?_
  refine to_nil ?_
  refine tn_code ?_
  refine t_seq ?_
  refine t_reg ?_
  refine to_mv rfl rfl ?_
  refine to_call0 rfl rfl (fun w s => hn_in _ _ _ w) rfl ?_
  refine to_as rfl rfl ?_
  refine to_nil ?_
  refine tn_code ?_
  refine t_ret1 rfl rfl (res_tmp rfl) (fun w' s => ?_)
  rfl

set_option maxRecDepth 20000 in
theorem hn_col1 (n : Int) (w : World)  : Calls Tryz.prog 44 #[(.int .i64 n)] w (RetV w (.bool (!inB n (-999) 999))) := by
  refine calls_T0 (av := [_]) Tryz.func44 rfl rfl rfl ?_
  refine t_seq ?_
  refine t_reg ?_
  refine to_as rfl rfl ?_
  refine to_nil ?_
  refine tn_code ?_
  refine t_seq ?_
  refine t_reg ?_
  refine to_mv rfl rfl ?_
  refine to_call0 rfl rfl (fun w s => hn_num _ w) rfl ?_
  refine to_not rfl rfl ?_
  refine to_as rfl rfl ?_
  refine to_nil ?_
  refine tn_code ?_
  refine t_ret1 rfl rfl (res_tmp rfl) (fun w' s => ?_)
  rfl

set_option maxRecDepth 20000 in
theorem hn_col (x : Int) (a : Option Addr) (c : Nat) (w : World) (hr : Ro w 0 w.heap.size a 1 c 1 (ints [x])) (hx : 0 ≤ x ∧ x ≤ 999) : Calls Tryz.prog 21 #[.slice a 1 c] w (RetV w (.bool true)) := by
  have hany : ([x] : List Int).any (fun n => !inB n (-999) 999) = false := by simp; exact inB_iff.2 (by omega)
  refine calls_T0 (av := [_]) Tryz.func21 rfl rfl rfl ?_
  refine t_seq ?_
  refine t_reg ?_
  refine to_as rfl rfl ?_
  refine to_nil ?_
  refine tn_code ?_
  refine t_seq ?_
  refine t_reg ?_
  refine to_mv rfl rfl ?_
  refine to_lenS rfl rfl ?_
  refine to_call0 rfl rfl (fun w s => hn_in _ _ _ w) rfl ?_
  refine to_fix (s := 5) (b' := true) rfl (rfl) ?_
  refine to_mv rfl rfl ?_
  refine to_gt rfl rfl ?_
  refine to_mv rfl rfl ?_
  refine to_gt rfl rfl ?_
  refine to_call0 rfl rfl (fun w s => conI [x] _ _ _ _ (fun n => !inB n (-999) 999) w (rdw s) (by simp) (fun w' hb y hy => hn_col1 y w')) rfl ?_
  refine to_fix (s := 8) (b' := false) rfl (hany) ?_
  refine to_gt rfl rfl ?_
  refine to_not rfl rfl ?_
  refine to_pkT rfl rfl rfl ?_
  refine to_as rfl rfl ?_
  refine to_nil ?_
  refine tn_code ?_
  refine t_ret1 rfl rfl (res_tmp rfl) (fun w' s => ?_)
  rfl

set_option maxRecDepth 20000 in
theorem hn_of (x : Int) (a : Option Addr) (c : Nat) (w : World) (hr : Ro w 0 w.heap.size a 1 c 1 (ints [x])) : Calls Tryz.prog 47 #[.slice a 1 c, (.int .i64 0)] w (RetV w (rtV x 0 true)) := by
  have hx0 : (ints [x])[0]? = some (intC x) := rfl
  refine calls_T0 (av := [_, _]) Tryz.func47 rfl rfl rfl ?_
  refine t_seq ?_
  refine t_reg ?_
  refine to_alloc rfl (fun b4 => ?_)
  refine to_nil ?_
  refine tn_code ?_
  refine t_seq ?_
  refine t_seq ?_
  refine t_reg ?_
  refine to_mv rfl rfl ?_
  refine to_mv rfl rfl ?_
  refine to_lenS rfl rfl ?_
  refine to_sub rfl rfl (by omega) rfl ?_
  refine to_eql rfl rfl rfl ?_
  refine to_fix (s := 9) (b' := true) rfl (rfl) ?_
  refine to_nil ?_
  refine tn_code ?_
  refine t_ifT rfl ?_
  refine t_seq ?_
  refine t_reg ?_
  refine to_mv rfl rfl ?_
  refine to_mv rfl rfl ?_
  first | refine to_ix rfl rfl rfl (by first | omega | decide) (by first | omega | decide) rfl ?_ | refine to_ixi rfl rfl rfl (by omega) (by omega) (by omega) rfl ?_
  first | refine to_lds rfl rfl rfl ?_ | refine to_ldes rfl (by assumption) rfl rfl ?_
  refine to_bs rfl rfl ?_
  first | refine to_st rfl rfl rfl rfl ?_ | refine to_ste rfl rfl (by assumption) rfl rfl ?_
  refine to_nil ?_
  refine tn_code ?_
  refine t_ret1 rfl rfl (res_cellA rfl rfl) (fun w' s => ?_)
  rfl

set_option maxRecDepth 20000 in
theorem hr_fig (x : Int) (w : World) (hx : 0 ≤ x ∧ x ≤ 999) : Calls Tryz.prog 91 #[rtV x 0 true] w (RetV w (.tuple #[.int .i64 (x / 100), .int .i64 (x / 10 % 10), .int .i64 (x % 10)])) := by
  have hmx : max x (-x) = x := by omega
  refine calls_T0 (av := [_]) Tryz.func91 rfl rfl rfl ?_
  refine t_seq ?_
  refine t_reg ?_
  refine to_box rfl rfl (fun b1 => ?_)
  refine to_as rfl rfl ?_
  refine to_as rfl rfl ?_
  refine to_as rfl rfl ?_
  refine to_nil ?_
  refine tn_code ?_
  refine t_seq ?_
  refine t_reg ?_
  first | refine to_fa rfl rfl rfl (by simp only [Nat.reduceAdd]; rfl) rfl ?_ | refine to_fae rfl rfl rfl (by simp only [Nat.reduceAdd]; rfl) rfl ?_
  first | refine to_lds rfl rfl rfl ?_ | refine to_ldes rfl (by assumption) rfl rfl ?_
  first | refine to_fa rfl rfl rfl (by simp only [Nat.reduceAdd]; rfl) rfl ?_ | refine to_fae rfl rfl rfl (by simp only [Nat.reduceAdd]; rfl) rfl ?_
  first | refine to_lds rfl rfl rfl ?_ | refine to_ldes rfl (by assumption) rfl rfl ?_
  refine to_neg rfl (by omega) rfl ?_
  refine to_max rfl rfl rfl ?_
  refine to_as rfl rfl ?_
  refine to_nil ?_
  refine tn_code ?_
  refine t_seq ?_
  rw [hmx]
  refine t_reg ?_
  refine to_mv rfl rfl ?_
  refine to_quo rfl rfl (by omega) (by omega) rfl ?_
  refine to_mv rfl rfl ?_
  refine to_quo rfl rfl (by omega) (by omega) rfl ?_
  refine to_rem rfl rfl (by omega) (by omega) rfl ?_
  refine to_mv rfl rfl ?_
  refine to_rem rfl rfl (by omega) (by omega) rfl ?_
  refine to_as rfl rfl ?_
  refine to_as rfl rfl ?_
  refine to_as rfl rfl ?_
  refine to_nil ?_
  refine tn_code ?_
  refine t_ret3 rfl rfl (res_tmp rfl) (res_tmp rfl) (res_tmp rfl) (fun w' s => ?_)
  rfl

set_option maxRecDepth 20000 in
theorem hn_sgn (x a b c : Int) (w : World) (hx : 0 ≤ x) (ha : -1 ≤ a ∧ a ≤ 9) (hb : -1 ≤ b ∧ b ≤ 9) (hc : 0 ≤ c ∧ c ≤ 9) : Calls Tryz.prog 92 #[(.int .i64 x), (.int .i64 a), (.int .i64 b), (.int .i64 c)] w (RetV w (.int .i64 (100 * a + 10 * b + c))) := by
  refine calls_T0 (av := [_, _, _, _]) Tryz.func92 rfl rfl rfl ?_
  refine t_seq ?_
  refine t_reg ?_
  refine to_as rfl rfl ?_
  refine to_nil ?_
  refine tn_code ?_
  refine t_seq ?_
  refine t_reg ?_
  refine to_mv rfl rfl ?_
  refine to_mul rfl rfl (by first | omega | exact mul_ok (by omega) (by omega) (by omega) (by omega)) rfl ?_
  refine to_mv rfl rfl ?_
  refine to_mul rfl rfl (by first | omega | exact mul_ok (by omega) (by omega) (by omega) (by omega)) rfl ?_
  refine to_add rfl rfl (by omega) rfl ?_
  refine to_mv rfl rfl ?_
  refine to_add rfl rfl (by omega) rfl ?_
  refine to_as rfl rfl ?_
  refine to_nil ?_
  refine tn_code ?_
  refine t_seq ?_
  refine t_seq ?_
  refine t_reg ?_
  refine to_mv rfl rfl ?_
  refine to_lss rfl rfl rfl ?_
  refine to_fix (s := 18) (b' := false) rfl (decide_eq_false (by omega)) ?_
  refine to_nil ?_
  refine tn_code ?_
  refine t_ifF rfl ?_
  refine t_skip ?_
  refine tn_code ?_
  refine t_seq ?_
  refine t_reg ?_
  refine to_mv rfl rfl ?_
  refine to_as rfl rfl ?_
  refine to_nil ?_
  refine tn_code ?_
  refine t_ret1 rfl rfl (res_tmp rfl) (fun w' s => ?_)
  rfl

set_option maxRecDepth 20000 in
theorem hr_turned (x y : Int) (w : World) (hx : 0 ≤ x ∧ x ≤ 999) (hy : 0 ≤ y ∧ y ≤ 999) : Calls Tryz.prog 76 #[rtV x 0 true, (.int .i64 y)] w (RetV w (.bool (turnB x y))) := by
  refine calls_T0 (av := [_, _]) Tryz.func76 rfl rfl rfl ?_
  refine t_seq ?_
  refine t_reg ?_
  refine to_box rfl rfl (fun b2 => ?_)
  refine to_as rfl rfl ?_
  refine to_nil ?_
  refine tn_code ?_
  refine t_seq ?_
  refine t_reg ?_
  first | refine to_lda rfl rfl rfl ?_ | refine to_ldea rfl (by assumption) rfl rfl ?_
  refine to_call0 rfl rfl (fun w s => hr_fig x w hx) rfl ?_
  refine to_mv rfl rfl ?_
  refine to_ex rfl rfl rfl ?_
  refine to_ex rfl rfl rfl ?_
  refine to_ex rfl rfl rfl ?_
  refine to_as rfl rfl ?_
  refine to_as rfl rfl ?_
  refine to_as rfl rfl ?_
  refine to_nil ?_
  refine tn_code ?_
  refine t_seq ?_
  refine t_reg ?_
  refine to_mv rfl rfl ?_
  first | refine to_fa rfl rfl rfl (by simp only [Nat.reduceAdd]; rfl) rfl ?_ | refine to_fae rfl rfl rfl (by simp only [Nat.reduceAdd]; rfl) rfl ?_
  first | refine to_lds rfl rfl rfl ?_ | refine to_ldes rfl (by assumption) rfl rfl ?_
  refine to_mv rfl rfl ?_
  refine to_mv rfl rfl ?_
  refine to_mv rfl rfl ?_
  refine to_call0 rfl rfl (fun w s => hn_sgn x _ _ _ w (by omega) (by omega) (by omega) (by omega)) rfl ?_
  refine to_eql rfl rfl rfl ?_
  refine to_mv rfl rfl ?_
  refine to_gs rfl rfl rfl (fun h1 => ?_) (fun h1 => ?_)
  · try simp only [decide_eq_true_eq, decide_eq_false_iff_not, Bool.not_eq_true', Bool.not_eq_false', Int.not_lt, Int.not_le, ne_eq, Decidable.not_not] at h1
    try have h1b := inB_iff.1 h1
    refine to_gf rfl rfl rfl rfl ?_
    refine to_gf rfl rfl rfl rfl ?_
    refine to_gf rfl rfl rfl rfl ?_
    refine to_gf rfl rfl rfl rfl ?_
    refine to_gf rfl rfl rfl rfl ?_
    refine to_gf rfl rfl rfl rfl ?_
    refine to_gf rfl rfl rfl rfl ?_
    refine to_gf rfl rfl rfl rfl ?_
    refine to_pkT rfl rfl rfl ?_
    refine to_as rfl rfl ?_
    refine to_nil ?_
    refine tn_code ?_
    refine t_ret1 rfl rfl (res_tmp rfl) (fun w' s => ?_)
    first | (simp_all [turnB]; done) | (simp [turnB]; omega)
  · try simp only [decide_eq_true_eq, decide_eq_false_iff_not, Bool.not_eq_true', Bool.not_eq_false', Int.not_lt, Int.not_le, ne_eq, Decidable.not_not] at h1
    try have h1b := inB_iff.1 h1
    refine to_gt rfl rfl ?_
    refine to_mv rfl rfl ?_
    refine to_gt rfl rfl ?_
    first | refine to_fa rfl rfl rfl (by simp only [Nat.reduceAdd]; rfl) rfl ?_ | refine to_fae rfl rfl rfl (by simp only [Nat.reduceAdd]; rfl) rfl ?_
    refine to_gt rfl rfl ?_
    first | refine to_lds rfl rfl rfl ?_ | refine to_ldes rfl (by assumption) rfl rfl ?_
    refine to_gt rfl rfl ?_
    refine to_mv rfl rfl ?_
    refine to_gt rfl rfl ?_
    refine to_mv rfl rfl ?_
    refine to_gt rfl rfl ?_
    refine to_mv rfl rfl ?_
    refine to_gt rfl rfl ?_
    refine to_call0 rfl rfl (fun w s => hn_sgn x _ _ _ w (by omega) (by omega) (by omega) (by omega)) rfl ?_
    refine to_gt rfl rfl ?_
    refine to_eql rfl rfl rfl ?_
    refine to_pkF rfl rfl rfl ?_
    refine to_as rfl rfl ?_
    refine to_nil ?_
    refine tn_code ?_
    refine t_ret1 rfl rfl (res_tmp rfl) (fun w' s => ?_)
    first | (simp_all [turnB]; done) | (simp [turnB]; omega)

set_option maxRecDepth 20000 in
theorem hr_carried (x y : Int) (w : World) (hx : 0 ≤ x ∧ x ≤ 999) (hy : 0 ≤ y ∧ y ≤ 999) : Calls Tryz.prog 77 #[rtV x 0 true, (.int .i64 y)] w (RetV w (.bool (carrB x y))) := by
  refine calls_T0 (av := [_, _]) Tryz.func77 rfl rfl rfl ?_
  refine t_seq ?_
  refine t_reg ?_
  refine to_box rfl rfl (fun b2 => ?_)
  refine to_as rfl rfl ?_
  refine to_nil ?_
  refine tn_code ?_
  refine t_seq ?_
  refine t_reg ?_
  first | refine to_lda rfl rfl rfl ?_ | refine to_ldea rfl (by assumption) rfl rfl ?_
  refine to_call0 rfl rfl (fun w s => hr_fig x w hx) rfl ?_
  refine to_mv rfl rfl ?_
  refine to_ex rfl rfl rfl ?_
  refine to_ex rfl rfl rfl ?_
  refine to_ex rfl rfl rfl ?_
  refine to_as rfl rfl ?_
  refine to_as rfl rfl ?_
  refine to_as rfl rfl ?_
  refine to_nil ?_
  refine tn_code ?_
  refine t_seq ?_
  refine t_reg ?_
  refine to_mv rfl rfl ?_
  refine to_gtr rfl rfl rfl ?_
  refine to_mv rfl rfl ?_
  refine to_gs rfl rfl rfl (fun h1 => ?_) (fun h1 => ?_)
  · try simp only [decide_eq_true_eq, decide_eq_false_iff_not, Bool.not_eq_true', Bool.not_eq_false', Int.not_lt, Int.not_le, ne_eq, Decidable.not_not] at h1
    try have h1b := inB_iff.1 h1
    refine to_gt rfl rfl ?_
    refine to_mv rfl rfl ?_
    refine to_gt rfl rfl ?_
    first | refine to_fa rfl rfl rfl (by simp only [Nat.reduceAdd]; rfl) rfl ?_ | refine to_fae rfl rfl rfl (by simp only [Nat.reduceAdd]; rfl) rfl ?_
    refine to_gt rfl rfl ?_
    first | refine to_lds rfl rfl rfl ?_ | refine to_ldes rfl (by assumption) rfl rfl ?_
    refine to_gt rfl rfl ?_
    refine to_mv rfl rfl ?_
    refine to_gt rfl rfl ?_
    refine to_sub rfl rfl (by omega) rfl ?_
    refine to_gt rfl rfl ?_
    refine to_mv rfl rfl ?_
    refine to_gt rfl rfl ?_
    refine to_mv rfl rfl ?_
    refine to_gt rfl rfl ?_
    refine to_call0 rfl rfl (fun w s => hn_sgn x _ _ _ w (by omega) (by omega) (by omega) (by omega)) rfl ?_
    refine to_gt rfl rfl ?_
    refine to_eql rfl rfl rfl ?_
    refine to_pkT rfl rfl rfl ?_
    refine to_mv rfl rfl ?_
    refine to_gs rfl rfl rfl (fun h2 => ?_) (fun h2 => ?_)
    · try simp only [decide_eq_true_eq, decide_eq_false_iff_not, Bool.not_eq_true', Bool.not_eq_false', Int.not_lt, Int.not_le, ne_eq, Decidable.not_not] at h2
      try have h2b := inB_iff.1 h2
      refine to_gf rfl rfl rfl rfl ?_
      refine to_gf rfl rfl rfl rfl ?_
      refine to_gf rfl rfl rfl rfl ?_
      refine to_gf rfl rfl rfl rfl ?_
      refine to_gf rfl rfl rfl rfl ?_
      refine to_gf rfl rfl rfl rfl ?_
      refine to_gf rfl rfl rfl rfl ?_
      refine to_gf rfl rfl rfl rfl ?_
      refine to_gf rfl rfl rfl rfl ?_
      refine to_gf rfl rfl rfl rfl ?_
      refine to_gf rfl rfl rfl rfl ?_
      refine to_gf rfl rfl rfl rfl ?_
      refine to_gf rfl rfl rfl rfl ?_
      refine to_pkT rfl rfl rfl ?_
      refine to_as rfl rfl ?_
      refine to_nil ?_
      refine tn_code ?_
      refine t_ret1 rfl rfl (res_tmp rfl) (fun w' s => ?_)
      first | (simp_all [carrB]; done) | (rw [carrB, decide_eq_false (show ¬ 0 < x / 100 by omega), decide_eq_true (show 0 < x / 10 % 10 by omega)]; simp; done) | (simp [carrB]; omega)
    · try simp only [decide_eq_true_eq, decide_eq_false_iff_not, Bool.not_eq_true', Bool.not_eq_false', Int.not_lt, Int.not_le, ne_eq, Decidable.not_not] at h2
      try have h2b := inB_iff.1 h2
      refine to_gt rfl rfl ?_
      refine to_mv rfl rfl ?_
      refine to_gt rfl rfl ?_
      refine to_gtr rfl rfl rfl ?_
      refine to_gt rfl rfl ?_
      refine to_mv rfl rfl ?_
      refine to_gs rfl rfl rfl (fun h3 => ?_) (fun h3 => ?_)
      · try simp only [decide_eq_true_eq, decide_eq_false_iff_not, Bool.not_eq_true', Bool.not_eq_false', Int.not_lt, Int.not_le, ne_eq, Decidable.not_not] at h3
        try have h3b := inB_iff.1 h3
        refine to_gt rfl rfl ?_
        refine to_mv rfl rfl ?_
        refine to_gt rfl rfl ?_
        first | refine to_fa rfl rfl rfl (by simp only [Nat.reduceAdd]; rfl) rfl ?_ | refine to_fae rfl rfl rfl (by simp only [Nat.reduceAdd]; rfl) rfl ?_
        refine to_gt rfl rfl ?_
        first | refine to_lds rfl rfl rfl ?_ | refine to_ldes rfl (by assumption) rfl rfl ?_
        refine to_gt rfl rfl ?_
        refine to_mv rfl rfl ?_
        refine to_gt rfl rfl ?_
        refine to_mv rfl rfl ?_
        refine to_gt rfl rfl ?_
        refine to_sub rfl rfl (by omega) rfl ?_
        refine to_gt rfl rfl ?_
        refine to_mv rfl rfl ?_
        refine to_gt rfl rfl ?_
        refine to_call0 rfl rfl (fun w s => hn_sgn x _ _ _ w (by omega) (by omega) (by omega) (by omega)) rfl ?_
        refine to_gt rfl rfl ?_
        refine to_eql rfl rfl rfl ?_
        refine to_gt rfl rfl ?_
        refine to_pkT rfl rfl rfl ?_
        refine to_pkF rfl rfl rfl ?_
        refine to_as rfl rfl ?_
        refine to_nil ?_
        refine tn_code ?_
        refine t_ret1 rfl rfl (res_tmp rfl) (fun w' s => ?_)
        first | (simp_all [carrB]; done) | (rw [carrB, decide_eq_false (show ¬ 0 < x / 100 by omega), decide_eq_true (show 0 < x / 10 % 10 by omega)]; simp; done) | (simp [carrB]; omega)
      · try simp only [decide_eq_true_eq, decide_eq_false_iff_not, Bool.not_eq_true', Bool.not_eq_false', Int.not_lt, Int.not_le, ne_eq, Decidable.not_not] at h3
        try have h3b := inB_iff.1 h3
        refine to_gf rfl rfl rfl rfl ?_
        refine to_gf rfl rfl rfl rfl ?_
        refine to_gf rfl rfl rfl rfl ?_
        refine to_gf rfl rfl rfl rfl ?_
        refine to_gf rfl rfl rfl rfl ?_
        refine to_gf rfl rfl rfl rfl ?_
        refine to_gf rfl rfl rfl rfl ?_
        refine to_gf rfl rfl rfl rfl ?_
        refine to_gf rfl rfl rfl rfl ?_
        refine to_gt rfl rfl ?_
        refine to_pkF rfl rfl rfl ?_
        refine to_pkF rfl rfl rfl ?_
        refine to_as rfl rfl ?_
        refine to_nil ?_
        refine tn_code ?_
        refine t_ret1 rfl rfl (res_tmp rfl) (fun w' s => ?_)
        first | (simp_all [carrB]; done) | (rw [carrB, decide_eq_false (show ¬ 0 < x / 100 by omega), decide_eq_true (show 0 < x / 10 % 10 by omega)]; simp; done) | (simp [carrB]; omega)
  · try simp only [decide_eq_true_eq, decide_eq_false_iff_not, Bool.not_eq_true', Bool.not_eq_false', Int.not_lt, Int.not_le, ne_eq, Decidable.not_not] at h1
    try have h1b := inB_iff.1 h1
    refine to_gf rfl rfl rfl rfl ?_
    refine to_gf rfl rfl rfl rfl ?_
    refine to_gf rfl rfl rfl rfl ?_
    refine to_gf rfl rfl rfl rfl ?_
    refine to_gf rfl rfl rfl rfl ?_
    refine to_gf rfl rfl rfl rfl ?_
    refine to_gf rfl rfl rfl rfl ?_
    refine to_gf rfl rfl rfl rfl ?_
    refine to_gf rfl rfl rfl rfl ?_
    refine to_pkF rfl rfl rfl ?_
    refine to_mv rfl rfl ?_
    refine to_gt rfl rfl ?_
    refine to_mv rfl rfl ?_
    refine to_gt rfl rfl ?_
    refine to_gtr rfl rfl rfl ?_
    refine to_gt rfl rfl ?_
    refine to_mv rfl rfl ?_
    refine to_gs rfl rfl rfl (fun h4 => ?_) (fun h4 => ?_)
    · try simp only [decide_eq_true_eq, decide_eq_false_iff_not, Bool.not_eq_true', Bool.not_eq_false', Int.not_lt, Int.not_le, ne_eq, Decidable.not_not] at h4
      try have h4b := inB_iff.1 h4
      refine to_gt rfl rfl ?_
      refine to_mv rfl rfl ?_
      refine to_gt rfl rfl ?_
      first | refine to_fa rfl rfl rfl (by simp only [Nat.reduceAdd]; rfl) rfl ?_ | refine to_fae rfl rfl rfl (by simp only [Nat.reduceAdd]; rfl) rfl ?_
      refine to_gt rfl rfl ?_
      first | refine to_lds rfl rfl rfl ?_ | refine to_ldes rfl (by assumption) rfl rfl ?_
      refine to_gt rfl rfl ?_
      refine to_mv rfl rfl ?_
      refine to_gt rfl rfl ?_
      refine to_mv rfl rfl ?_
      refine to_gt rfl rfl ?_
      refine to_sub rfl rfl (by omega) rfl ?_
      refine to_gt rfl rfl ?_
      refine to_mv rfl rfl ?_
      refine to_gt rfl rfl ?_
      refine to_call0 rfl rfl (fun w s => hn_sgn x _ _ _ w (by omega) (by omega) (by omega) (by omega)) rfl ?_
      refine to_gt rfl rfl ?_
      refine to_eql rfl rfl rfl ?_
      refine to_gt rfl rfl ?_
      refine to_pkT rfl rfl rfl ?_
      refine to_pkF rfl rfl rfl ?_
      refine to_as rfl rfl ?_
      refine to_nil ?_
      refine tn_code ?_
      refine t_ret1 rfl rfl (res_tmp rfl) (fun w' s => ?_)
      first | (simp_all [carrB]; done) | (rw [carrB, decide_eq_false (show ¬ 0 < x / 100 by omega), decide_eq_true (show 0 < x / 10 % 10 by omega)]; simp; done) | (simp [carrB]; omega)
    · try simp only [decide_eq_true_eq, decide_eq_false_iff_not, Bool.not_eq_true', Bool.not_eq_false', Int.not_lt, Int.not_le, ne_eq, Decidable.not_not] at h4
      try have h4b := inB_iff.1 h4
      refine to_gf rfl rfl rfl rfl ?_
      refine to_gf rfl rfl rfl rfl ?_
      refine to_gf rfl rfl rfl rfl ?_
      refine to_gf rfl rfl rfl rfl ?_
      refine to_gf rfl rfl rfl rfl ?_
      refine to_gf rfl rfl rfl rfl ?_
      refine to_gf rfl rfl rfl rfl ?_
      refine to_gf rfl rfl rfl rfl ?_
      refine to_gf rfl rfl rfl rfl ?_
      refine to_gt rfl rfl ?_
      refine to_pkF rfl rfl rfl ?_
      refine to_pkF rfl rfl rfl ?_
      refine to_as rfl rfl ?_
      refine to_nil ?_
      refine tn_code ?_
      refine t_ret1 rfl rfl (res_tmp rfl) (fun w' s => ?_)
      first | (simp_all [carrB]; done) | (rw [carrB, decide_eq_false (show ¬ 0 < x / 100 by omega), decide_eq_true (show 0 < x / 10 % 10 by omega)]; simp; done) | (simp [carrB]; omega)

set_option maxRecDepth 20000 in
theorem hr_other (x y : Int) (w : World) (hx : 0 ≤ x ∧ x ≤ 999) (hy : 0 ≤ y ∧ y ≤ 999) : Calls Tryz.prog 78 #[rtV x 0 true, (.int .i64 y)] w (RetV w (.bool (decide (y = -x)))) := by
  refine calls_T0 (av := [_, _]) Tryz.func78 rfl rfl rfl ?_
  refine t_seq ?_
  refine t_reg ?_
  refine to_box rfl rfl (fun b2 => ?_)
  refine to_as rfl rfl ?_
  refine to_nil ?_
  refine tn_code ?_
  refine t_seq ?_
  refine t_reg ?_
  refine to_mv rfl rfl ?_
  first | refine to_fa rfl rfl rfl (by simp only [Nat.reduceAdd]; rfl) rfl ?_ | refine to_fae rfl rfl rfl (by simp only [Nat.reduceAdd]; rfl) rfl ?_
  first | refine to_lds rfl rfl rfl ?_ | refine to_ldes rfl (by assumption) rfl rfl ?_
  refine to_neg rfl (by omega) rfl ?_
  refine to_eql rfl rfl rfl ?_
  refine to_as rfl rfl ?_
  refine to_nil ?_
  refine tn_code ?_
  refine t_ret1 rfl rfl (res_tmp rfl) (fun w' s => ?_)
  rfl

set_option maxRecDepth 20000 in
theorem hr_line (x y : Int) (w : World) (hx : 0 ≤ x ∧ x ≤ 999) (hy : 0 ≤ y ∧ y ≤ 999) : Calls Tryz.prog 79 #[rtV x 0 true, (.int .i64 y)] w (RetV w (.bool false)) := by
  refine calls_T0 (av := [_, _]) Tryz.func79 rfl rfl rfl ?_
  refine t_seq ?_
  refine t_reg ?_
  refine to_box rfl rfl (fun b2 => ?_)
  refine to_as rfl rfl ?_
  refine to_nil ?_
  refine tn_code ?_
  refine t_seq ?_
  refine t_reg ?_
  first | refine to_fa rfl rfl rfl (by simp only [Nat.reduceAdd]; rfl) rfl ?_ | refine to_fae rfl rfl rfl (by simp only [Nat.reduceAdd]; rfl) rfl ?_
  first | refine to_lds rfl rfl rfl ?_ | refine to_ldes rfl (by assumption) rfl rfl ?_
  refine to_not rfl rfl ?_
  refine to_fix (s := 7) (b' := false) rfl (rfl) ?_
  refine to_mv rfl rfl ?_
  refine to_gf rfl rfl rfl rfl ?_
  refine to_gf rfl rfl rfl rfl ?_
  refine to_gf rfl rfl rfl rfl ?_
  refine to_gf rfl rfl rfl rfl ?_
  refine to_pkF rfl rfl rfl ?_
  refine to_as rfl rfl ?_
  refine to_nil ?_
  refine tn_code ?_
  refine t_ret1 rfl rfl (res_tmp rfl) (fun w' s => ?_)
  rfl

set_option maxRecDepth 20000 in
theorem hr_kind (x y : Int) (w : World) (hx : 0 ≤ x ∧ x ≤ 999) (hy : 0 ≤ y ∧ y ≤ 999) : Calls Tryz.prog 48 #[rtV x 0 true, (.int .i64 y)] w (RetV w (.int .i64 (kindF x y))) := by
  refine calls_T0 (av := [_, _]) Tryz.func48 rfl rfl rfl ?_
  refine t_seq ?_
  refine t_reg ?_
  refine to_box rfl rfl (fun b2 => ?_)
  refine to_as rfl rfl ?_
  refine to_nil ?_
  refine tn_code ?_
  refine t_seq ?_
  refine t_reg ?_
  refine to_ba1 rfl rfl rfl ?_
  refine to_alloc rfl (fun b5 => ?_)
  first | refine to_st rfl rfl rfl rfl ?_ | refine to_ste rfl rfl (by assumption) rfl rfl ?_
  refine to_nil ?_
  refine tn_code ?_
  refine t_seq ?_
  refine t_seq ?_
  refine t_reg ?_
  first | refine to_lda rfl rfl rfl ?_ | refine to_ldea rfl (by assumption) rfl rfl ?_
  refine to_mv rfl rfl ?_
  refine to_nil ?_
  refine tn_code ?_
  refine t_blk ?_
  refine t_loop2 (ι := Nat) (fun k => k ≤ 5 ∧ (2 ≤ k → turnB x y = false) ∧ (3 ≤ k → carrB x y = false) ∧ (4 ≤ k → decide (y = -x) = false)) (fun k => [(1, (.int .i64 y)), (2, (.pointer (some ⟨b2, 0, none⟩))), (9, .agg [.nilFunc, .func (.func 76) #[] #[], .func (.func 77) #[] #[], .func (.func 78) #[] #[], .func (.func 79) #[] #[]].toArray), (10, (.int .i64 (k : Int)))]) (fun k => [.own b2 (isC (rtC x 0 true) 103), .snap 0 w.heap.size w]) (fun k => 5 - k) (0) [.own b2 (isC (rtC x 0 true) 103), .snap 0 w.heap.size w] (rfl) (⟨Nat.zero_le _, by omega, by omega, by omega⟩) (⟨rfl, rfl, rfl, rfl, trivial⟩) ?_
  rintro k ⟨hk, hk1, hk2, hk3⟩
  show T _ _ _ ⟨_, [(1, (.int .i64 y)), (2, (.pointer (some ⟨b2, 0, none⟩))), (9, .agg [.nilFunc, .func (.func 76) #[] #[], .func (.func 77) #[] #[], .func (.func 78) #[] #[], .func (.func 79) #[] #[]].toArray), (10, (.int .i64 (k : Int)))], _⟩ [.own b2 (isC (rtC x 0 true) 103), .snap 0 w.heap.size w]
  obtain rfl | rfl | rfl | rfl | rfl | rfl : k = 0 ∨ k = 1 ∨ k = 2 ∨ k = 3 ∨ k = 4 ∨ k = 5 := by omega
  · skip
    refine t_seq ?_
    refine t_reg ?_
    refine to_lss rfl rfl rfl ?_
    refine to_fix (s := 11) (b' := true) rfl (rfl) ?_
    refine to_nil ?_
    refine tn_code ?_
    refine t_seq ?_
    refine t_ifT rfl ?_
    refine t_skip ?_
    refine tn_code ?_
    refine t_seq ?_
    refine t_blk ?_
    refine t_seq ?_
    refine t_reg ?_
    refine to_mv rfl rfl ?_
    refine to_ixa (k := 0) rfl rfl rfl (by decide) rfl rfl ?_
    refine to_as rfl rfl ?_
    refine to_as rfl rfl ?_
    refine to_nil ?_
    refine tn_code ?_
    refine t_seq ?_
    refine t_reg ?_
    refine to_mv rfl rfl ?_
    refine to_nefN rfl rfl (by kernel_rfl) rfl ?_
    refine to_mv rfl rfl ?_
    refine to_gf rfl rfl rfl rfl ?_
    refine to_gf rfl rfl rfl rfl ?_
    refine to_gf rfl rfl rfl rfl ?_
    refine to_gf rfl rfl rfl rfl ?_
    refine to_pkF rfl rfl rfl ?_
    refine to_nil ?_
    refine tn_code ?_
    refine t_ifF rfl ?_
    refine t_skip ?_
    refine tn_blk ?_
    refine tn_code ?_
    refine t_reg ?_
    refine to_add rfl rfl (by omega) rfl ?_
    refine to_mv rfl rfl ?_
    refine to_nil ?_
    exact tn_loop2 (0 + 1) [.own b2 (isC (rtC x 0 true) 103), .snap 0 w.heap.size w] (rfl) (⟨by omega, by omega, by omega, by omega⟩) (by omega) (⟨rfl, rfl, rfl, rfl, trivial⟩)
  · skip
    refine t_seq ?_
    refine t_reg ?_
    refine to_lss rfl rfl rfl ?_
    refine to_fix (s := 11) (b' := true) rfl (rfl) ?_
    refine to_nil ?_
    refine tn_code ?_
    refine t_seq ?_
    refine t_ifT rfl ?_
    refine t_skip ?_
    refine tn_code ?_
    refine t_seq ?_
    refine t_blk ?_
    refine t_seq ?_
    refine t_reg ?_
    refine to_mv rfl rfl ?_
    refine to_ixa (k := 1) rfl rfl rfl (by decide) rfl rfl ?_
    refine to_as rfl rfl ?_
    refine to_as rfl rfl ?_
    refine to_nil ?_
    refine tn_code ?_
    refine t_seq ?_
    refine t_reg ?_
    refine to_mv rfl rfl ?_
    refine to_nefF rfl rfl (by kernel_rfl) rfl ?_
    refine to_mv rfl rfl ?_
    refine to_gt rfl rfl ?_
    refine to_mv rfl rfl ?_
    refine to_gt rfl rfl ?_
    first | refine to_lda rfl rfl rfl ?_ | refine to_ldea rfl (by assumption) rfl rfl ?_
    refine to_gt rfl rfl ?_
    refine to_mv rfl rfl ?_
    refine to_gt rfl rfl ?_
    refine to_call0 rfl rfl (fun w s => hr_turned x y w hx hy) rfl ?_
    refine to_pkT rfl rfl rfl ?_
    refine to_nil ?_
    refine tn_code ?_
    refine t_if rfl (fun h1 => ?_) (fun h1 => ?_)
    · try simp only [decide_eq_true_eq, decide_eq_false_iff_not, Bool.not_eq_true', Bool.not_eq_false', Int.not_lt, Int.not_le, ne_eq, Decidable.not_not] at h1
      try have h1b := inB_iff.1 h1
      have h20 := h1
      refine t_seq ?_
      refine t_reg ?_
      refine to_mv rfl rfl ?_
      refine to_as rfl rfl ?_
      refine to_nil ?_
      refine tn_code ?_
      refine t_ret1 rfl rfl (res_tmp rfl) (fun w' s => ?_)
      first | (simp_all [kindF]; done) | (have a1 := hk1 (by omega); have a2 := hk2 (by omega); have a3 := hk3 (by omega); simp [kindF, a1, a2]; simpa using a3) | (simp [kindF, *]; done)
    · try simp only [decide_eq_true_eq, decide_eq_false_iff_not, Bool.not_eq_true', Bool.not_eq_false', Int.not_lt, Int.not_le, ne_eq, Decidable.not_not] at h1
      try have h1b := inB_iff.1 h1
      have h20 := h1
      refine t_skip ?_
      refine tn_blk ?_
      refine tn_code ?_
      refine t_reg ?_
      refine to_add rfl rfl (by omega) rfl ?_
      refine to_mv rfl rfl ?_
      refine to_nil ?_
      exact tn_loop2 (1 + 1) [.own b2 (isC (rtC x 0 true) 103), .snap 0 w.heap.size w] (rfl) (⟨by omega, fun _ => h20, by omega, by omega⟩) (by omega) (⟨rfl, rfl, rfl, rfl, trivial⟩)
  · skip
    refine t_seq ?_
    refine t_reg ?_
    refine to_lss rfl rfl rfl ?_
    refine to_fix (s := 11) (b' := true) rfl (rfl) ?_
    refine to_nil ?_
    refine tn_code ?_
    refine t_seq ?_
    refine t_ifT rfl ?_
    refine t_skip ?_
    refine tn_code ?_
    refine t_seq ?_
    refine t_blk ?_
    refine t_seq ?_
    refine t_reg ?_
    refine to_mv rfl rfl ?_
    refine to_ixa (k := 2) rfl rfl rfl (by decide) rfl rfl ?_
    refine to_as rfl rfl ?_
    refine to_as rfl rfl ?_
    refine to_nil ?_
    refine tn_code ?_
    refine t_seq ?_
    refine t_reg ?_
    refine to_mv rfl rfl ?_
    refine to_nefF rfl rfl (by kernel_rfl) rfl ?_
    refine to_mv rfl rfl ?_
    refine to_gt rfl rfl ?_
    refine to_mv rfl rfl ?_
    refine to_gt rfl rfl ?_
    first | refine to_lda rfl rfl rfl ?_ | refine to_ldea rfl (by assumption) rfl rfl ?_
    refine to_gt rfl rfl ?_
    refine to_mv rfl rfl ?_
    refine to_gt rfl rfl ?_
    refine to_call0 rfl rfl (fun w s => hr_carried x y w hx hy) rfl ?_
    refine to_pkT rfl rfl rfl ?_
    refine to_nil ?_
    refine tn_code ?_
    refine t_if rfl (fun h2 => ?_) (fun h2 => ?_)
    · try simp only [decide_eq_true_eq, decide_eq_false_iff_not, Bool.not_eq_true', Bool.not_eq_false', Int.not_lt, Int.not_le, ne_eq, Decidable.not_not] at h2
      try have h2b := inB_iff.1 h2
      have h20 := h2
      refine t_seq ?_
      refine t_reg ?_
      refine to_mv rfl rfl ?_
      refine to_as rfl rfl ?_
      refine to_nil ?_
      refine tn_code ?_
      refine t_ret1 rfl rfl (res_tmp rfl) (fun w' s => ?_)
      first | (simp_all [kindF]; done) | (have a1 := hk1 (by omega); have a2 := hk2 (by omega); have a3 := hk3 (by omega); simp [kindF, a1, a2]; simpa using a3) | (simp [kindF, *]; done)
    · try simp only [decide_eq_true_eq, decide_eq_false_iff_not, Bool.not_eq_true', Bool.not_eq_false', Int.not_lt, Int.not_le, ne_eq, Decidable.not_not] at h2
      try have h2b := inB_iff.1 h2
      have h20 := h2
      refine t_skip ?_
      refine tn_blk ?_
      refine tn_code ?_
      refine t_reg ?_
      refine to_add rfl rfl (by omega) rfl ?_
      refine to_mv rfl rfl ?_
      refine to_nil ?_
      exact tn_loop2 (2 + 1) [.own b2 (isC (rtC x 0 true) 103), .snap 0 w.heap.size w] (rfl) (⟨by omega, fun _ => hk1 (by omega), fun _ => h20, by omega⟩) (by omega) (⟨rfl, rfl, rfl, rfl, trivial⟩)
  · skip
    refine t_seq ?_
    refine t_reg ?_
    refine to_lss rfl rfl rfl ?_
    refine to_fix (s := 11) (b' := true) rfl (rfl) ?_
    refine to_nil ?_
    refine tn_code ?_
    refine t_seq ?_
    refine t_ifT rfl ?_
    refine t_skip ?_
    refine tn_code ?_
    refine t_seq ?_
    refine t_blk ?_
    refine t_seq ?_
    refine t_reg ?_
    refine to_mv rfl rfl ?_
    refine to_ixa (k := 3) rfl rfl rfl (by decide) rfl rfl ?_
    refine to_as rfl rfl ?_
    refine to_as rfl rfl ?_
    refine to_nil ?_
    refine tn_code ?_
    refine t_seq ?_
    refine t_reg ?_
    refine to_mv rfl rfl ?_
    refine to_nefF rfl rfl (by kernel_rfl) rfl ?_
    refine to_mv rfl rfl ?_
    refine to_gt rfl rfl ?_
    refine to_mv rfl rfl ?_
    refine to_gt rfl rfl ?_
    first | refine to_lda rfl rfl rfl ?_ | refine to_ldea rfl (by assumption) rfl rfl ?_
    refine to_gt rfl rfl ?_
    refine to_mv rfl rfl ?_
    refine to_gt rfl rfl ?_
    refine to_call0 rfl rfl (fun w s => hr_other x y w hx hy) rfl ?_
    refine to_pkT rfl rfl rfl ?_
    refine to_nil ?_
    refine tn_code ?_
    refine t_if rfl (fun h3 => ?_) (fun h3 => ?_)
    · try simp only [decide_eq_true_eq, decide_eq_false_iff_not, Bool.not_eq_true', Bool.not_eq_false', Int.not_lt, Int.not_le, ne_eq, Decidable.not_not] at h3
      try have h3b := inB_iff.1 h3
      have h20 := h3
      refine t_seq ?_
      refine t_reg ?_
      refine to_mv rfl rfl ?_
      refine to_as rfl rfl ?_
      refine to_nil ?_
      refine tn_code ?_
      refine t_ret1 rfl rfl (res_tmp rfl) (fun w' s => ?_)
      first | (simp_all [kindF]; done) | (have a1 := hk1 (by omega); have a2 := hk2 (by omega); have a3 := hk3 (by omega); simp [kindF, a1, a2]; simpa using a3) | (simp [kindF, *]; done)
    · try simp only [decide_eq_true_eq, decide_eq_false_iff_not, Bool.not_eq_true', Bool.not_eq_false', Int.not_lt, Int.not_le, ne_eq, Decidable.not_not] at h3
      try have h3b := inB_iff.1 h3
      have h20 := h3
      refine t_skip ?_
      refine tn_blk ?_
      refine tn_code ?_
      refine t_reg ?_
      refine to_add rfl rfl (by omega) rfl ?_
      refine to_mv rfl rfl ?_
      refine to_nil ?_
      exact tn_loop2 (3 + 1) [.own b2 (isC (rtC x 0 true) 103), .snap 0 w.heap.size w] (rfl) (⟨by omega, fun _ => hk1 (by omega), fun _ => hk2 (by omega), fun _ => decide_eq_false h20⟩) (by omega) (⟨rfl, rfl, rfl, rfl, trivial⟩)
  · skip
    refine t_seq ?_
    refine t_reg ?_
    refine to_lss rfl rfl rfl ?_
    refine to_fix (s := 11) (b' := true) rfl (rfl) ?_
    refine to_nil ?_
    refine tn_code ?_
    refine t_seq ?_
    refine t_ifT rfl ?_
    refine t_skip ?_
    refine tn_code ?_
    refine t_seq ?_
    refine t_blk ?_
    refine t_seq ?_
    refine t_reg ?_
    refine to_mv rfl rfl ?_
    refine to_ixa (k := 4) rfl rfl rfl (by decide) rfl rfl ?_
    refine to_as rfl rfl ?_
    refine to_as rfl rfl ?_
    refine to_nil ?_
    refine tn_code ?_
    refine t_seq ?_
    refine t_reg ?_
    refine to_mv rfl rfl ?_
    refine to_nefF rfl rfl (by kernel_rfl) rfl ?_
    refine to_mv rfl rfl ?_
    refine to_gt rfl rfl ?_
    refine to_mv rfl rfl ?_
    refine to_gt rfl rfl ?_
    first | refine to_lda rfl rfl rfl ?_ | refine to_ldea rfl (by assumption) rfl rfl ?_
    refine to_gt rfl rfl ?_
    refine to_mv rfl rfl ?_
    refine to_gt rfl rfl ?_
    refine to_call0 rfl rfl (fun w s => hr_line x y w hx hy) rfl ?_
    refine to_pkT rfl rfl rfl ?_
    refine to_nil ?_
    refine tn_code ?_
    refine t_if rfl (fun h4 => ?_) (fun h4 => ?_)
    · try simp only [decide_eq_true_eq, decide_eq_false_iff_not, Bool.not_eq_true', Bool.not_eq_false', Int.not_lt, Int.not_le, ne_eq, Decidable.not_not] at h4
      try have h4b := inB_iff.1 h4
      have h20 := h4
      refine t_seq ?_
      refine t_reg ?_
      refine to_mv rfl rfl ?_
      refine to_as rfl rfl ?_
      refine to_nil ?_
      refine tn_code ?_
      refine t_ret1 rfl rfl (res_tmp rfl) (fun w' s => ?_)
      first | (simp_all [kindF]; done) | (have a1 := hk1 (by omega); have a2 := hk2 (by omega); have a3 := hk3 (by omega); simp [kindF, a1, a2]; simpa using a3) | (simp [kindF, *]; done)
    · try simp only [decide_eq_true_eq, decide_eq_false_iff_not, Bool.not_eq_true', Bool.not_eq_false', Int.not_lt, Int.not_le, ne_eq, Decidable.not_not] at h4
      try have h4b := inB_iff.1 h4
      have h20 := h4
      refine t_skip ?_
      refine tn_blk ?_
      refine tn_code ?_
      refine t_reg ?_
      refine to_add rfl rfl (by omega) rfl ?_
      refine to_mv rfl rfl ?_
      refine to_nil ?_
      exact tn_loop2 (4 + 1) [.own b2 (isC (rtC x 0 true) 103), .snap 0 w.heap.size w] (rfl) (⟨by omega, fun _ => hk1 (by omega), fun _ => hk2 (by omega), fun _ => hk3 (by omega)⟩) (by omega) (⟨rfl, rfl, rfl, rfl, trivial⟩)
  · skip
    refine t_seq ?_
    refine t_reg ?_
    refine to_lss rfl rfl rfl ?_
    refine to_fix (s := 11) (b' := false) rfl (rfl) ?_
    refine to_nil ?_
    refine tn_code ?_
    refine t_seq ?_
    refine t_ifF rfl ?_
    refine t_exit ?_
    refine tx_code ?_
    refine tx_inv ?_
    refine tx_blk ?_
    refine tn_code ?_
    refine t_seq ?_
    refine t_reg ?_
    refine to_as rfl rfl ?_
    refine to_nil ?_
    refine tn_code ?_
    refine t_ret1 rfl rfl (res_tmp rfl) (fun w' s => ?_)
    first | (simp_all [kindF]; done) | (have a1 := hk1 (by omega); have a2 := hk2 (by omega); have a3 := hk3 (by omega); simp [kindF, a1, a2]; simpa using a3) | (simp [kindF, *]; done)

end Go.Proofs


namespace Go.Proofs
open Go Go.Sx Go.RowKit

set_option maxRecDepth 20000 in
theorem hn_att_ok (w0 : World) (H : List Seg) (bb : Nat) (w : World) (hs : St w0 (.own bb (isC [.int .i64 0] 34) :: H) w) : CallsD Tryz.prog 46 #[(.pointer (some ⟨bb, 0, none⟩))] (Out.mode 99 101 .ok) w (fun e u' w' => e = .returned (.tuple #[]) ∧ settle u' = .returning ∧ St w0 (.own bb (isC [.int .i64 (Out.er .ok)] 34) :: H) w') := by
  refine callsD_rec (av := [_]) Tryz.func46 rfl rfl rfl rfl hs (.inl ⟨rfl, rfl, rfl⟩) ?_
  refine t_blk ?_
  refine t_seq ?_
  refine t_reg ?_
  refine to_eqiN rfl rfl ?_
  refine to_nil ?_
  refine tn_code ?_
  refine t_ifT rfl ?_
  refine t_reg ?_
  refine to_as rfl rfl ?_
  refine to_nil ?_
  refine tn_blk ?_
  exact t_endQ rfl rfl (fun w' s => ⟨rfl, rfl, s⟩)

set_option maxRecDepth 20000 in
theorem hn_att_un (k : Int) (w0 : World) (H : List Seg) (bb : Nat) (w : World) (hs : St w0 (.own bb (isC [.int .i64 0] 34) :: H) w) : CallsD Tryz.prog 46 #[(.pointer (some ⟨bb, 0, none⟩))] (Out.mode 99 101 (.un k)) w (fun e u' w' => e = .returned (.tuple #[]) ∧ settle u' = .returning ∧ St w0 (.own bb (isC [.int .i64 (Out.er (.un k))] 34) :: H) w') := by
  refine callsD_rec (av := [_]) Tryz.func46 rfl rfl rfl rfl hs (.inr ⟨_, _, rfl, rfl, rfl⟩) ?_
  refine t_blk ?_
  refine t_seq ?_
  refine t_reg ?_
  refine to_eqiF rfl rfl ?_
  refine to_nil ?_
  refine tn_code ?_
  refine t_ifF rfl ?_
  refine t_seq ?_
  refine t_reg ?_
  refine to_taT rfl rfl rfl ?_
  refine to_ex rfl rfl rfl ?_
  refine to_ex rfl rfl rfl ?_
  refine to_nil ?_
  refine tn_code ?_
  refine t_ifT rfl ?_
  refine t_seq ?_
  refine t_reg ?_
  refine to_alloc rfl (fun b2 => ?_)
  first | refine to_st rfl rfl rfl rfl ?_ | refine to_ste rfl rfl (by assumption) rfl rfl ?_
  refine to_nil ?_
  refine tn_code ?_
  refine t_reg ?_
  first | refine to_st rfl rfl rfl rfl ?_ | refine to_ste rfl rfl (by assumption) rfl rfl ?_
  refine to_nil ?_
  refine tn_blk ?_
  exact t_endQ rfl rfl (fun w' s => ⟨rfl, rfl, s.drop2⟩)

set_option maxRecDepth 20000 in
theorem hn_att_no (z : ByteArray) (w0 : World) (H : List Seg) (bb : Nat) (w : World) (hs : St w0 (.own bb (isC [.int .i64 0] 34) :: H) w) : CallsD Tryz.prog 46 #[(.pointer (some ⟨bb, 0, none⟩))] (Out.mode 99 101 (.no z)) w (fun e u' w' => e = .returned (.tuple #[]) ∧ settle u' = .returning ∧ St w0 (.own bb (isC [.int .i64 (Out.er (.no z))] 34) :: H) w') := by
  refine callsD_rec (av := [_]) Tryz.func46 rfl rfl rfl rfl hs (.inr ⟨_, _, rfl, rfl, rfl⟩) ?_
  refine t_blk ?_
  refine t_seq ?_
  refine t_reg ?_
  refine to_eqiF rfl rfl ?_
  refine to_nil ?_
  refine tn_code ?_
  refine t_ifF rfl ?_
  refine t_seq ?_
  refine t_reg ?_
  refine to_taF rfl rfl rfl rfl rfl ?_
  refine to_ex rfl rfl rfl ?_
  refine to_ex rfl rfl rfl ?_
  refine to_nil ?_
  refine tn_code ?_
  refine t_ifF rfl ?_
  refine t_seq ?_
  refine t_reg ?_
  refine to_taT rfl rfl rfl ?_
  refine to_ex rfl rfl rfl ?_
  refine to_ex rfl rfl rfl ?_
  refine to_nil ?_
  refine tn_code ?_
  refine t_ifT rfl ?_
  refine t_seq ?_
  refine t_reg ?_
  refine to_alloc rfl (fun b3 => ?_)
  first | refine to_st rfl rfl rfl rfl ?_ | refine to_ste rfl rfl (by assumption) rfl rfl ?_
  refine to_nil ?_
  refine tn_code ?_
  refine t_reg ?_
  first | refine to_st rfl rfl rfl rfl ?_ | refine to_ste rfl rfl (by assumption) rfl rfl ?_
  refine to_nil ?_
  refine tn_blk ?_
  exact t_endQ rfl rfl (fun w' s => ⟨rfl, rfl, s.drop2⟩)

theorem hn_att (o : Out) (w0 : World) (H : List Seg) (bb : Nat) (w : World) (hs : St w0 (.own bb (isC [.int .i64 0] 34) :: H) w) : CallsD Tryz.prog 46 #[(.pointer (some ⟨bb, 0, none⟩))] (Out.mode 99 101 o) w (fun e u' w' => e = .returned (.tuple #[]) ∧ settle u' = .returning ∧ St w0 (.own bb (isC [.int .i64 (Out.er o)] 34) :: H) w') := by
  cases o with
  | ok => exact hn_att_ok w0 H bb w hs
  | un k => exact hn_att_un k w0 H bb w hs
  | no z => exact hn_att_no z w0 H bb w hs
/-- The errors with which one number was copied. -/
def errL (x y : Int) : List Sp := if y = x then [] else [(0, kindF x y)]
def pL (x y : Int) (k : Nat) : List Sp := if k = 0 then [] else errL x y
theorem errL_eq {x y : Int} (h : y = x) : errL x y = [] := by simp [errL, h]
theorem errL_ne {x y : Int} (h : ¬ y = x) : errL x y = [(0, kindF x y)] := by simp [errL, h]
def CopP (x y : Int) (w : World) : Ending → World → Prop := fun e w' => RowKit.Below w.heap.size w w' ∧ ((¬ (¬ y = x ∧ kindF x y = 0) ∧ ∃ a1 c1, e = .returned (.slice a1 (errL x y).length c1) ∧ Ro w' w.heap.size w'.heap.size a1 (errL x y).length c1 2 (spans (errL x y))) ∨ ((¬ y = x ∧ kindF x y = 0) ∧ ∃ z : Int, e = .panicked (pan 99 (.agg [.int .i64 z].toArray))))

set_option maxRecDepth 20000 in
theorem hn_copied (x y : Int) (fa : Option Addr) (fc : Nat) (ta : Option Addr) (tc : Nat) (w : World) (hx : 0 ≤ x ∧ x ≤ 999) (hy : 0 ≤ y ∧ y ≤ 999) (hrf : Ro w 0 w.heap.size fa 1 fc 1 (ints [x])) (hrt : Ro w 0 w.heap.size ta 1 tc 1 (ints [y])) : Calls Tryz.prog 24 #[.slice fa 1 fc, .slice ta 1 tc] w (CopP x y w) := by
  have hx0 : (ints [x])[0]? = some (intC x) := rfl
  have hy0 : (ints [y])[0]? = some (intC y) := rfl
  refine calls_TG (av := [_, _]) Tryz.func24 rfl rfl rfl (St.start w) ?_
  refine t_seq ?_
  refine t_reg ?_
  refine to_as rfl rfl ?_
  refine to_nil ?_
  refine tn_code ?_
  refine t_seq ?_
  refine t_reg ?_
  refine to_as rfl rfl ?_
  refine to_nil ?_
  refine tn_code ?_
  refine t_seq ?_
  refine t_seq ?_
  refine t_reg ?_
  refine to_mv rfl rfl ?_
  refine to_lenS rfl rfl ?_
  refine to_mv rfl rfl ?_
  refine to_nil ?_
  refine tn_code ?_
  refine t_blk ?_
  refine t_nilrow 44 2 ?_
  refine t_loop2 (ι := Nat × Option Addr × Nat) (fun ((k, a', c') : Nat × Option Addr × Nat) => k ≤ 1 ∧ (k = 1 → ¬ (¬ y = x ∧ kindF x y = 0))) (fun ((k, a', c') : Nat × Option Addr × Nat) => [(0, .slice fa 1 fc), (5, .slice a' (pL x y k).length c'), (9, .slice ta 1 tc), (10, (.int .i64 1)), (11, (.int .i64 (k : Int)))]) (fun ((k, a', c') : Nat × Option Addr × Nat) => [.row a' (pL x y k).length c' 44 2 (spans (pL x y k)), .snap 0 w.heap.size w]) (fun ((k, a', c') : Nat × Option Addr × Nat) => 1 - k) ((0, none, 0)) [.row none 0 0 44 2 [], .snap 0 w.heap.size w] (rfl) (⟨Nat.zero_le _, fun h => absurd h (by decide)⟩) (⟨rfl, rfl, rfl, rfl, rfl, trivial⟩) ?_
  rintro ⟨k, a', c'⟩ ⟨hk, hkk⟩
  try dsimp only at hk
  show T _ _ _ ⟨_, [(0, .slice fa 1 fc), (5, .slice a' (pL x y k).length c'), (9, .slice ta 1 tc), (10, (.int .i64 1)), (11, (.int .i64 (k : Int)))], _⟩ [.row a' (pL x y k).length c' 44 2 (spans (pL x y k)), .snap 0 w.heap.size w]
  refine t_seq ?_
  refine t_reg ?_
  refine to_lss rfl rfl rfl ?_
  refine to_nil ?_
  refine tn_code ?_
  refine t_seq ?_
  refine t_if rfl (fun h1 => ?_) (fun h1 => ?_)
  · try simp only [decide_eq_true_eq, decide_eq_false_iff_not, Bool.not_eq_true', Bool.not_eq_false', Int.not_lt, Int.not_le, ne_eq, Decidable.not_not] at h1
    try have h1b := inB_iff.1 h1
    have hk0 : k = 0 := by omega
    subst hk0
    have hpl : (pL x y 0).length = 0 := rfl
    refine t_skip ?_
    refine tn_code ?_
    refine t_seq ?_
    refine t_blk ?_
    refine t_seq ?_
    refine t_reg ?_
    refine to_mv rfl rfl ?_
    first | refine to_ix rfl rfl rfl (by first | omega | decide) (by first | omega | decide) rfl ?_ | refine to_ixi rfl rfl rfl (by omega) (by omega) (by omega) rfl ?_
    first | refine to_lds rfl rfl rfl ?_ | refine to_ldes rfl (by assumption) rfl rfl ?_
    refine to_as rfl rfl ?_
    refine to_as rfl rfl ?_
    refine to_nil ?_
    refine tn_code ?_
    refine t_seq ?_
    refine t_seq ?_
    refine t_reg ?_
    refine to_mv rfl rfl ?_
    refine to_mv rfl rfl ?_
    refine to_mv rfl rfl ?_
    first | refine to_ix rfl rfl rfl (by first | omega | decide) (by first | omega | decide) rfl ?_ | refine to_ixi rfl rfl rfl (by omega) (by omega) (by omega) rfl ?_
    first | refine to_lds rfl rfl rfl ?_ | refine to_ldes rfl (by assumption) rfl rfl ?_
    refine to_eql rfl rfl rfl ?_
    refine to_nil ?_
    refine tn_code ?_
    refine t_if rfl (fun h2 => ?_) (fun h2 => ?_)
    · try simp only [decide_eq_true_eq, decide_eq_false_iff_not, Bool.not_eq_true', Bool.not_eq_false', Int.not_lt, Int.not_le, ne_eq, Decidable.not_not] at h2
      try have h2b := inB_iff.1 h2
      have heq := h2
      refine t_exit ?_
      refine tx_code ?_
      refine tx_blk ?_
      refine tn_code ?_
      refine t_reg ?_
      refine to_add rfl rfl (by omega) rfl ?_
      refine to_mv rfl rfl ?_
      refine to_nil ?_
      exact tn_loop2 ((1, a', c')) [.row a' (pL x y 0).length c' 44 2 (spans (pL x y 0)), .snap 0 w.heap.size w] (by dsimp only; simp [pL, errL_eq heq]) (⟨Nat.le_refl _, fun _ h => h.1 heq⟩) (by dsimp only; omega) (⟨rfl, congrArg some (by simp [pL, errL_eq heq]), rfl, rfl, rfl, trivial⟩)
    · try simp only [decide_eq_true_eq, decide_eq_false_iff_not, Bool.not_eq_true', Bool.not_eq_false', Int.not_lt, Int.not_le, ne_eq, Decidable.not_not] at h2
      try have h2b := inB_iff.1 h2
      have heq := h2
      refine t_skip ?_
      refine tn_code ?_
      refine t_seq ?_
      refine t_reg ?_
      refine to_mv rfl rfl ?_
      refine to_mv rfl rfl ?_
      refine to_call0 rfl rfl (fun w s => hn_of x _ _ w (rdw s)) rfl ?_
      refine to_mv rfl rfl ?_
      refine to_call0 rfl rfl (fun w s => hr_kind x y w hx hy) rfl ?_
      refine to_as rfl rfl ?_
      refine to_nil ?_
      refine tn_code ?_
      refine t_seq ?_
      refine t_seq ?_
      refine t_reg ?_
      refine to_mv rfl rfl ?_
      refine to_eql rfl rfl rfl ?_
      refine to_nil ?_
      refine tn_code ?_
      refine t_if rfl (fun h3 => ?_) (fun h3 => ?_)
      · try simp only [decide_eq_true_eq, decide_eq_false_iff_not, Bool.not_eq_true', Bool.not_eq_false', Int.not_lt, Int.not_le, ne_eq, Decidable.not_not] at h3
        try have h3b := inB_iff.1 h3
        have hkz := h3
        refine t_reg ?_
        refine to_mv rfl rfl ?_
        refine to_bs rfl rfl ?_
        refine to_mi rfl rfl rfl ?_
        exact to_panic rfl (fun a w' e s => ⟨e.ds, below_of s, .inr ⟨⟨heq, hkz⟩, _, rfl⟩⟩)
      · try simp only [decide_eq_true_eq, decide_eq_false_iff_not, Bool.not_eq_true', Bool.not_eq_false', Int.not_lt, Int.not_le, ne_eq, Decidable.not_not] at h3
        try have h3b := inB_iff.1 h3
        have hkz := h3
        refine t_skip ?_
        refine tn_code ?_
        refine t_reg ?_
        refine to_mv rfl rfl ?_
        refine to_mv rfl rfl ?_
        refine to_mv rfl rfl ?_
        refine to_bs rfl rfl ?_
        refine to_bsl rfl rfl rfl rfl (fun a36 => ?_)
        refine to_app rfl rfl rfl (by simp [scals, scal]) (by decide) (by omega) (by decide) rfl (fun a37 c37 => ?_)
        refine to_as rfl rfl ?_
        refine to_nil ?_
        refine tn_blk ?_
        refine tn_code ?_
        refine t_reg ?_
        refine to_add rfl rfl (by omega) rfl ?_
        refine to_mv rfl rfl ?_
        refine to_nil ?_
        exact tn_loop2 ((1, a37, c37)) [.row a37 ((pL x y 0).length + 1) c37 44 2 (spans (pL x y 0) ++ [[.int .i64 0, .int .i64 (kindF x y)]]), .snap 0 w.heap.size w] (by dsimp only; simp [pL, errL_ne heq]) (⟨Nat.le_refl _, fun _ h => hkz h.2⟩) (by dsimp only; omega) (⟨rfl, congrArg some (by simp [pL, errL_ne heq]), rfl, rfl, rfl, trivial⟩)
  · try simp only [decide_eq_true_eq, decide_eq_false_iff_not, Bool.not_eq_true', Bool.not_eq_false', Int.not_lt, Int.not_le, ne_eq, Decidable.not_not] at h1
    try have h1b := inB_iff.1 h1
    have hk1 : k = 1 := by omega
    subst hk1
    have hno := hkk rfl
    refine t_exit ?_
    refine tx_code ?_
    refine tx_inv ?_
    refine tx_blk ?_
    refine tn_code ?_
    refine t_seq ?_
    refine t_reg ?_
    refine to_mv rfl rfl ?_
    refine to_as rfl rfl ?_
    refine to_nil ?_
    refine tn_code ?_
    refine t_ret1G rfl rfl (res_tmp rfl) (fun w' s => ?_)
    exact ⟨below_of s, .inl ⟨hno, a', c', rfl, ro_row s⟩⟩

def ResH (x y : Int) (bb lo : Nat) : Out → World → Prop
  | .ok, w' => ¬ (¬ y = x ∧ kindF x y = 0) ∧ ∃ (a : Option Addr) (c : Nat), w'.heap[bb]? = some (.cells [Value.slice a (errL x y).length c].toArray 37 (0, 0)) ∧ Ro w' lo w'.heap.size a (errL x y).length c 2 (spans (errL x y))
  | .un _, _ => ¬ y = x ∧ kindF x y = 0
  | .no _, _ => False
structure DoW (bb : Nat) (w w' : World) : Prop where
  os : w'.os = w.os
  tape : w'.tape = w.tape
  output : w'.output = w.output
  size : w.heap.size ≤ w'.heap.size
  block : ∀ k, k < w.heap.size → k ≠ bb → w'.heap[k]? = w.heap[k]?
def DoH (x y : Int) (bb : Nat) (w : World) : Ending → World → Prop := fun e w' => ∃ o : Out, outE 99 101 o e ∧ DoW bb w w' ∧ ResH x y bb w.heap.size o w'
def AttH (x y : Int) (bb : Nat) (w : World) : Ending → World → Prop := fun e w' => ∃ o : Out, e = .returned (.int .i64 o.er) ∧ DoW bb w w' ∧ ResH x y bb w.heap.size o w'
theorem cl_ne {w : World} {bt bb : Nat} {cs0 cs : List Value} {t : TypeId} (h : Rb w 0 w.heap.size bt cs) (hne : bt ≠ bb) : Cl w [.own bb (isC cs0 t), .snap 0 bb w, .snap (bb + 1) w.heap.size w] bt cs := ⟨fun w' s o v hv => by
  obtain ⟨h1, h2, te, h3⟩ := h
  have h4 : w'.heap[bt]? = w.heap[bt]? := by
    rcases Nat.lt_or_ge bt bb with h5 | h5
    · exact s.ok (.snap 0 bb w) (by simp) bt (Nat.zero_le _) h5
    · exact s.ok (.snap (bb + 1) w.heap.size w) (by simp) bt (by omega) h2
  simp [World.cell?, h4, h3, hv]⟩
theorem doW_of {w w' : World} {bb : Nat} {p : Obj → Prop} {H : List Seg} (s : St w (.own bb p :: H) w') (h1 : .snap 0 bb w ∈ H) (h2 : .snap (bb + 1) w.heap.size w ∈ H) : DoW bb w w' := by
  refine ⟨s.os, s.tape, s.output, s.ge, fun k hk hne => ?_⟩
  rcases Nat.lt_or_ge k bb with h | h
  · exact s.ok _ (List.mem_cons_of_mem _ h1) k (Nat.zero_le _) h
  · exact s.ok _ (List.mem_cons_of_mem _ h2) k (by omega) hk
/-- What is read lies apart from a block that is written. -/
theorem ro_ne {w w' : World} {bb n c sz : Nat} {a : Option Addr} {xs : List (List Value)} {cs0 : List Value} {t : TypeId} (s : St w [.own bb (isC cs0 t), .snap 0 bb w, .snap (bb + 1) w.heap.size w] w') (h : Ro w 0 w.heap.size a n c sz xs) (hne : ∀ ad, a = some ad → ad.block ≠ bb) : Ro w' 0 w'.heap.size a n c sz xs := by
  refine ⟨h.len, h.each, h.le, ?_⟩
  rcases h.here with h0 | ⟨ad, h1, h2, h3, h4, h5⟩
  · exact .inl h0
  · have hb : w'.heap[ad.block]? = w.heap[ad.block]? := by
      have hn := hne ad h1
      rcases Nat.lt_or_ge ad.block bb with h6 | h6
      · exact s.ok (.snap 0 bb w) (by simp) _ (Nat.zero_le _) h6
      · exact s.ok (.snap (bb + 1) w.heap.size w) (by simp) _ (by omega) h4
    refine .inr ⟨ad, h1, h2, Nat.zero_le _, Nat.lt_of_lt_of_le h4 s.ge, fun i x hx j v hv => ?_⟩
    have := h5 i x hx j v hv
    simp only [World.cell?, hb] at this ⊢
    exact this

set_option maxRecDepth 20000 in
theorem hn_Errors1 (x y : Int) (fa : Option Addr) (fc : Nat) (ta : Option Addr) (tc : Nat) (b1 b2 bb : Nat) (w : World) (hx : 0 ≤ x ∧ x ≤ 999) (hy : 0 ≤ y ∧ y ≤ 999) (hrf : Ro w 0 w.heap.size fa 1 fc 1 (ints [x])) (hrt : Ro w 0 w.heap.size ta 1 tc 1 (ints [y])) (hfa : ∀ ad, fa = some ad → ad.block ≠ bb) (hta : ∀ ad, ta = some ad → ad.block ≠ bb) (hbb : w.heap[bb]? = some (.cells ([Value.slice none 0 0] : List Value).toArray 37 (0, 0))) (h1 : b1 ≠ bb) (h2 : b2 ≠ bb) (hb1 : Rb w 0 w.heap.size b1 [.slice fa 1 fc]) (hb2 : Rb w 0 w.heap.size b2 [.slice ta 1 tc]) : Calls Tryz.prog 23 #[(.pointer (some ⟨b1, 0, none⟩)), (.pointer (some ⟨b2, 0, none⟩)), (.pointer (some ⟨bb, 0, none⟩))] w (DoH x y bb w) := by
  have hcl := cl_ne (cs0 := [.slice none 0 0]) (t := 37) hb1 h1
  have hcl2 := cl_ne (cs0 := [.slice none 0 0]) (t := 37) hb2 h2
  refine calls_TG (av := [_, _, _]) Tryz.func23 rfl rfl rfl (St.startO hbb) ?_
  refine t_reg ?_
  first | refine to_lds rfl rfl rfl ?_ | refine to_ldes rfl (by assumption) rfl rfl ?_
  first | refine to_lds rfl rfl rfl ?_ | refine to_ldes rfl (by assumption) rfl rfl ?_
  refine to_callP (R := CopP x y) rfl rfl (fun w2 s => hn_copied x y fa fc ta tc w2 hx hy (ro_ne s hrf hfa) (ro_ne s hrt hta)) rfl (fun w2 s2 e2 w3 hd => ?_)
  obtain ⟨hbl, ⟨hno, a1, c1, rfl, hro⟩ | ⟨hno, z, rfl⟩⟩ := hd
  rotate_left
  · exact .inr ⟨_, rfl, fun a ea => ⟨ea.ds, .un z, rfl, doW_of (s2.below hbl) (by simp) (by simp), hno⟩⟩
  have hlo2 := s2.ge
  refine .inl ⟨_, _, rfl, s2.snap hbl, ?_⟩
  · skip
    first | refine to_st rfl rfl rfl rfl ?_ | refine to_ste rfl rfl (by assumption) rfl rfl ?_
    refine to_nil ?_
    exact t_end0G rfl rfl (fun w' s => ⟨.ok, rfl, doW_of s (by simp) (by simp), hno, a1, c1, (by obtain ⟨o, ho, hpo⟩ := s.own_at (b := bb); rw [ho]; exact congrArg some hpo), hro.mono hlo2 (s.le (.snap w2.heap.size w3.heap.size w3) (by simp)) (fun k h1 h2 => s.ok (.snap w2.heap.size w3.heap.size w3) (by simp) k h1 h2)⟩)

end Go.Proofs


namespace Go.Proofs
open Go Go.Sx Go.RowKit

theorem st_att {w w2 w3 : World} {b2 bb : Nat} (s : St w [.own b2 (isC [.int .i64 0] 34), .snap 0 w.heap.size w] w2) (hd : DoW bb w2 w3) (hb : bb < w.heap.size) : w.heap.size ≤ b2 ∧ St w [.own b2 (isC [.int .i64 0] 34), .snap 0 b2 w3, .snap w2.heap.size w3.heap.size w3] w3 := by
  have h1 : b2 + 1 ≤ w2.heap.size := s.le _ (List.mem_cons_self ..)
  have h2 : w.heap.size ≤ b2 := by
    have := (List.pairwise_cons.1 s.apart).1 (.snap 0 w.heap.size w) (by simp)
    simp only [Seg.apart, Seg.lo, Seg.hi] at this
    omega
  have h5 := hd.size
  refine ⟨h2, hd.os.trans s.os, hd.tape.trans s.tape, hd.output.trans s.output, Nat.le_trans s.ge hd.size, ?_, ?_, ?_⟩
  · intro t ht
    simp only [List.mem_cons, List.not_mem_nil, or_false] at ht
    rcases ht with rfl | rfl | rfl <;> simp only [Seg.hi] <;> omega
  · intro t ht
    simp only [List.mem_cons, List.not_mem_nil, or_false] at ht
    rcases ht with rfl | rfl | rfl
    · obtain ⟨o, ho, hp⟩ := s.ok (.own b2 (isC [.int .i64 0] 34)) (by simp)
      exact ⟨o, (hd.block b2 (by omega) (by omega)).trans ho, hp⟩
    · exact fun _ _ _ => rfl
    · exact fun _ _ _ => rfl
  · simp only [List.pairwise_cons, List.mem_cons, List.not_mem_nil, or_false, forall_eq_or_imp, forall_eq, Seg.apart, Seg.lo, Seg.hi]
    refine ⟨⟨.inr (Nat.le_refl _), .inl h1⟩, .inl (by omega), ?_⟩
    simp
theorem att_leaveH (x y : Int) (bb : Nat) (o : Out) (w w2 w3 w5 : World) (b2 : Nat) (hb : bb < w.heap.size) (s : St w [.own b2 (isC [.int .i64 0] 34), .snap 0 w.heap.size w] w2) (hd : DoW bb w2 w3) (hr : ResH x y bb w2.heap.size o w3) (s5 : St w [.own b2 (isC [.int .i64 0] 34), .snap 0 b2 w3, .snap w2.heap.size w3.heap.size w3] w5) (m : List (Nat × Value)) (a : Act) (ea : Env.ok ⟨Tryz.f22.ntmps, m, [{ target := .fn (.func 46) [(.pointer (some ⟨b2, 0, none⟩))].toArray, args := #[] }]⟩ a) (hm : lk m 2 = some (.pointer (some ⟨b2, 0, none⟩))) :
    Leaves Tryz.prog Tryz.f22 a.tmps (AttH x y bb w) a.defers (Out.mode 99 101 o) w5 := by
  have h2 := (st_att s hd hb).1
  refine leave1 ea.ds (by cases o <;> simp [Out.mode]) (hn_att o w _ b2 w5 s5) ?_
  rintro e u' w' ⟨rfl, h2', h3⟩
  have hlow : ∀ k, k < b2 → w'.heap[k]? = w3.heap[k]? := fun k hk => h3.ok (.snap 0 b2 w3) (by simp) k (Nat.zero_le _) hk
  have hs5 := h3.le (.snap w2.heap.size w3.heap.size w3) (by simp)
  simp only [Seg.hi] at hs5
  have hdw : DoW bb w w' := ⟨h3.os, h3.tape, h3.output, h3.ge, fun k hk hne => (hlow k (by omega)).trans ((hd.block k (Nat.lt_of_lt_of_le hk s.ge) hne).trans (s.ok (.snap 0 w.heap.size w) (by simp) k (Nat.zero_le _) hk))⟩
  have hres2 : ResH x y bb w.heap.size o w' := by
    cases o with
    | un k => exact hr
    | no z => exact hr
    | ok =>
      obtain ⟨g0, a1, c, g2, g3⟩ := hr
      exact ⟨g0, a1, c, (hlow bb (by omega)).trans g2, g3.mono s.ge hs5 (fun k g4 g5 => h3.ok (.snap w2.heap.size w3.heap.size w3) (by simp) k g4 g5)⟩
  refine ⟨rfl, h2', .int .i64 o.er, ?_, o, rfl, hdw, hres2⟩
  have hres : ResOk Tryz.prog w ⟨Tryz.f22.ntmps, m, [{ target := .fn (.func 46) [(.pointer (some ⟨b2, 0, none⟩))].toArray, args := #[] }]⟩ [.own b2 (isC [.int .i64 o.er] 34), .snap 0 b2 w3, .snap w2.heap.size w3.heap.size w3] (.cell 2 34) (.int .i64 o.er) := res_cellS (ht := Tryz.ty34) hm rfl
  exact run_results (l := [.cell 2 34]) (vs := [.int .i64 o.er]) rfl rfl (fun i r v h h' => by
    match i with
    | 0 => cases h; cases h'; exact hres a w' ea h3
    | i + 1 => simp at h)
theorem ro_up {w w' : World} {a : Option Addr} {n c sz : Nat} {xs : List (List Value)} (h : Ro w 0 w.heap.size a n c sz xs) (hb : BelowH w w') : Ro w' 0 w'.heap.size a n c sz xs := h.mono (Nat.le_refl _) hb.1 (fun k _ hk => hb.2 k hk)

set_option maxRecDepth 20000 in
theorem hn_attempt (x y : Int) (fa : Option Addr) (fc : Nat) (ta : Option Addr) (tc : Nat) (b1 b0 bb : Nat) (w : World) (hx : 0 ≤ x ∧ x ≤ 999) (hy : 0 ≤ y ∧ y ≤ 999) (hrf : Ro w 0 w.heap.size fa 1 fc 1 (ints [x])) (hrt : Ro w 0 w.heap.size ta 1 tc 1 (ints [y])) (hfa : ∀ ad, fa = some ad → ad.block ≠ bb) (hta : ∀ ad, ta = some ad → ad.block ≠ bb) (hbb : w.heap[bb]? = some (.cells ([Value.slice none 0 0] : List Value).toArray 37 (0, 0))) (h1 : b1 ≠ bb) (h2 : b0 ≠ bb) (hb1 : Rb w 0 w.heap.size b1 [.slice fa 1 fc]) (hb2 : Rb w 0 w.heap.size b0 [.slice ta 1 tc]) : Calls Tryz.prog 22 #[.func (.func 23) ([] : List Value).toArray [(.pointer (some ⟨b1, 0, none⟩)), (.pointer (some ⟨b0, 0, none⟩)), (.pointer (some ⟨bb, 0, none⟩))].toArray] w (AttH x y bb w) := by
  have hlt : bb < w.heap.size := (Array.getElem?_eq_some_iff.1 hbb).1
  refine calls_TD (av := [_]) Tryz.func22 rfl rfl rfl (St.start w) ?_
  refine t_seq ?_
  refine t_reg ?_
  refine to_alloc rfl (fun b2 => ?_)
  refine to_nil ?_
  refine tn_code ?_
  refine t_seq ?_
  refine t_reg ?_
  refine to_mf rfl rfl rfl ?_
  refine to_defer rfl rfl ?_
  refine to_nil ?_
  refine tn_code ?_
  refine t_seq ?_
  refine t_reg ?_
  refine to_mv rfl rfl ?_
  refine to_callP (R := DoH x y bb) rfl rfl (fun w2 s => hn_Errors1 x y fa fc ta tc b1 b0 bb w2 hx hy (ro_up hrf (belowH_of s)) (ro_up hrt (belowH_of s)) hfa hta ((s.ok (.snap 0 w.heap.size w) (by simp) bb (Nat.zero_le _) hlt).trans hbb) h1 h2 (rb_up hb1 (belowH_of s)) (rb_up hb2 (belowH_of s))) rfl (fun w2 s e w3 hd => ?_)
  obtain ⟨o, ho, hw, hr⟩ := hd
  have s3 := (st_att s hw hlt).2
  rcases o with _ | k | z
  rotate_left
  · exact .inr ⟨_, ho, fun a ea => att_leaveH x y bb (.un k) w w2 w3 w3 b2 hlt s hw hr s3 _ a ea rfl⟩
  · exact hr.elim
  refine .inl ⟨_, _, ho, s3, ?_⟩
  · skip
    refine to_nil ?_
    refine tn_code ?_
    refine t_seq ?_
    refine t_reg ?_
    first | refine to_st rfl rfl rfl rfl ?_ | refine to_ste rfl rfl (by assumption) rfl rfl ?_
    refine to_nil ?_
    refine tn_code ?_
    exact t_ret (fun a w' ea s' => att_leaveH x y bb .ok w w2 w3 w' b2 hlt s hw hr s' _ a ea rfl)

/-- What is said of the errors with which one number was copied. -/
def HErr (x y : Int) : Nat → World → Value → Prop := fun lo w1 v => (¬ (¬ y = x ∧ kindF x y = 0) ∧ ∃ a1 c1, v = .tuple #[.slice a1 (errL x y).length c1, .int .i64 0] ∧ Ro w1 lo w1.heap.size a1 (errL x y).length c1 2 (spans (errL x y))) ∨ ((¬ y = x ∧ kindF x y = 0) ∧ v = .tuple #[.slice none 0 0, .int .i64 5])
theorem own_ne2 {w0 w : World} {H : List Seg} {a b : Nat} {p q : Obj → Prop} (s : St w0 (.own a p :: H) w) (hm : .own b q ∈ H) : b ≠ a := by
  have := (List.pairwise_cons.1 s.apart).1 _ hm
  simp only [Seg.apart, Seg.lo, Seg.hi] at this
  omega
theorem own_ge {w0 w : World} {H : List Seg} {a hi : Nat} {p : Obj → Prop} {w1 : World} (s : St w0 (.own a p :: H) w) (hm : .snap 0 hi w1 ∈ H) : hi ≤ a := by
  have := (List.pairwise_cons.1 s.apart).1 _ hm
  simp only [Seg.apart, Seg.lo, Seg.hi] at this
  omega
theorem own_obj {w0 w : World} {H : List Seg} {b : Nat} {cs : List Value} {t : TypeId} (s : St w0 (.own b (isC cs t) :: H) w) : w.heap[b]? = some (.cells cs.toArray t (0, 0)) := by
  obtain ⟨o, ho, hp⟩ := s.ok _ (List.mem_cons_self ..)
  rw [ho]; exact congrArg some hp
theorem ro_blk {w : World} {n c sz hi : Nat} {a : Option Addr} {xs : List (List Value)} (h : Ro w 0 hi a n c sz xs) {bb : Nat} (hb : hi ≤ bb) : ∀ ad, a = some ad → ad.block ≠ bb := by
  intro ad ha
  rcases h.here with h0 | ⟨ad2, h1, h2, h3, h4, h5⟩
  · rw [ha] at h0; cases h0.1
  · rw [ha] at h1; cases h1; omega

set_option maxRecDepth 20000 in
theorem hn_Errors (x y : Int) (fa : Option Addr) (fc : Nat) (ta : Option Addr) (tc : Nat) (w : World) (hx : 0 ≤ x ∧ x ≤ 999) (hy : 0 ≤ y ∧ y ≤ 999) (hrf : Ro w 0 w.heap.size fa 1 fc 1 (ints [x])) (hrt : Ro w 0 w.heap.size ta 1 tc 1 (ints [y])) : Calls Tryz.prog 9 #[.slice fa 1 fc, .slice ta 1 tc] w (Ret w (HErr x y)) := by
  refine calls_T (av := [_, _]) Tryz.func9 rfl rfl rfl ?_
  refine t_seq ?_
  refine t_reg ?_
  refine to_box rfl rfl (fun b2 => ?_)
  refine to_box rfl rfl (fun b3 => ?_)
  refine to_as rfl rfl ?_
  refine to_as rfl rfl ?_
  refine to_nil ?_
  refine tn_code ?_
  refine t_seq ?_
  refine t_seq ?_
  refine t_reg ?_
  first | refine to_lds rfl rfl rfl ?_ | refine to_ldes rfl (by assumption) rfl rfl ?_
  refine to_call0 rfl rfl (fun w s => hn_col x _ _ w (rdw s) hx) rfl ?_
  refine to_fix (s := 9) (b' := true) rfl (rfl) ?_
  refine to_not rfl rfl ?_
  refine to_mv rfl rfl ?_
  refine to_gt rfl rfl ?_
  first | refine to_lds rfl rfl rfl ?_ | refine to_ldes rfl (by assumption) rfl rfl ?_
  refine to_gt rfl rfl ?_
  refine to_call0 rfl rfl (fun w s => hn_col y _ _ w (rdw s) hy) rfl ?_
  refine to_fix (s := 13) (b' := true) rfl (rfl) ?_
  refine to_gt rfl rfl ?_
  refine to_not rfl rfl ?_
  refine to_pkF rfl rfl rfl ?_
  refine to_mv rfl rfl ?_
  refine to_gt rfl rfl ?_
  first | refine to_lds rfl rfl rfl ?_ | refine to_ldes rfl (by assumption) rfl rfl ?_
  refine to_gt rfl rfl ?_
  refine to_lenS rfl rfl ?_
  refine to_gt rfl rfl ?_
  first | refine to_lds rfl rfl rfl ?_ | refine to_ldes rfl (by assumption) rfl rfl ?_
  refine to_gt rfl rfl ?_
  refine to_lenS rfl rfl ?_
  refine to_gt rfl rfl ?_
  refine to_neq rfl rfl rfl ?_
  refine to_fix (s := 21) (b' := false) rfl (rfl) ?_
  refine to_pkF rfl rfl rfl ?_
  refine to_nil ?_
  refine tn_code ?_
  refine t_ifF rfl ?_
  refine t_skip ?_
  refine tn_code ?_
  refine t_seq ?_
  refine t_reg ?_
  refine to_alloc rfl (fun b6 => ?_)
  refine to_nil ?_
  refine tn_code ?_
  refine t_seq ?_
  refine t_seq ?_
  refine t_reg ?_
  refine to_mf rfl rfl rfl ?_
  refine to_callP (R := AttH x y b6) rfl rfl (fun w2 s => hn_attempt x y fa fc ta tc b2 b3 b6 w2 hx hy (rdw s) (rdw s) (ro_blk hrf (own_ge s (w1 := w) (by simp))) (ro_blk hrt (own_ge s (w1 := w) (by simp))) (own_obj s) (own_ne2 (q := isC [.slice fa 1 fc] 30) s (by simp)) (own_ne2 (q := isC [.slice ta 1 tc] 30) s (by simp)) (rbw s) (rbw s)) rfl (fun w2 s2 e2 w3 hd => ?_)
  obtain ⟨o, rfl, hw, hr⟩ := hd
  rcases o with _ | k | z
  rotate_left
  rotate_left
  · exact hr.elim
  rotate_left
  · have hno := hr
    obtain ⟨ob, hob⟩ : ∃ ob, w3.heap[b6]? = some ob := ⟨_, Array.getElem?_eq_getElem (Nat.lt_of_lt_of_le (Array.getElem?_eq_some_iff.1 (own_obj s2)).1 hw.size)⟩
    refine .inl ⟨_, _, rfl, s2.rewO (p' := fun _ => True) hw.os hw.tape hw.output hw.size hw.block hob trivial, ?_⟩
    refine to_as rfl rfl ?_
    refine to_nil ?_
    refine tn_code ?_
    refine t_seq ?_
    refine t_reg ?_
    refine to_mv rfl rfl ?_
    refine to_neq rfl rfl rfl ?_
    refine to_fix (s := 26) (b' := true) rfl (rfl) ?_
    refine to_nil ?_
    refine tn_code ?_
    refine t_ifT rfl ?_
    refine t_seq ?_
    refine t_reg ?_
    refine to_mv rfl rfl ?_
    refine to_as rfl rfl ?_
    refine to_as rfl rfl ?_
    refine to_nil ?_
    refine tn_code ?_
    refine t_ret2 rfl rfl (res_tmp rfl) (res_tmp rfl) (fun w' s => ?_)
    first | exact .inl ⟨hno, a1, c1, rfl, ro_snap s hlo2⟩ | exact .inr ⟨hno, rfl⟩
  · obtain ⟨hno, a1, c1, hbb, hro⟩ := hr
    have hlo2 := s2.ge
    refine .inl ⟨_, _, rfl, s2.rewO (p' := isC [.slice a1 (errL x y).length c1] 37) hw.os hw.tape hw.output hw.size hw.block hbb rfl, ?_⟩
    refine to_as rfl rfl ?_
    refine to_nil ?_
    refine tn_code ?_
    refine t_seq ?_
    refine t_reg ?_
    refine to_mv rfl rfl ?_
    refine to_neq rfl rfl rfl ?_
    refine to_fix (s := 26) (b' := false) rfl (rfl) ?_
    refine to_nil ?_
    refine tn_code ?_
    refine t_ifF rfl ?_
    refine t_skip ?_
    refine tn_code ?_
    refine t_seq ?_
    refine t_reg ?_
    first | refine to_lds rfl rfl rfl ?_ | refine to_ldes rfl (by assumption) rfl rfl ?_
    refine to_as rfl rfl ?_
    refine to_as rfl rfl ?_
    refine to_nil ?_
    refine tn_code ?_
    refine t_ret2 rfl rfl (res_tmp rfl) (res_tmp rfl) (fun w' s => ?_)
    first | exact .inl ⟨hno, a1, c1, rfl, ro_snap s hlo2⟩ | exact .inr ⟨hno, rfl⟩

end Go.Proofs


namespace Go.Proofs
open Go Go.Sx Go.RowKit

structure Cp where
  p : Int
  s : List Int
  a : Option Addr
  c : Nat
structure Li where
  xs : List Int
  a : Option Addr
  c : Nat
abbrev cpC (x : Cp) : List Value := [.int .i64 x.p, .slice x.a x.s.length x.c]
abbrev liC (x : Li) : List Value := [.slice x.a x.xs.length x.c]
abbrev trC (pl : Int) (cs : List Cp) (ca : Option Addr) (cc : Nat) : List Value := [.int .i64 pl, .slice ca cs.length cc]
abbrev trV (pl : Int) (cs : List Cp) (ca : Option Addr) (cc : Nat) : Value := .agg [.int .i64 pl, .slice ca cs.length cc].toArray
def badS (n : Int) : Bool := decide (n ≠ -1) && !inB n 0 9
def cpOk (pl : Int) (i : Nat) (x : Cp) : Bool := inB x.p 0 (max 0 ((i : Int) - 1)) && decide ((x.s.length : Int) = pl) && !x.s.any badS
def isTr (pl : Int) (cs : List Cp) : Bool := inB pl 1 3 && inB cs.length 1 8 && (List.range cs.length).all fun i => match cs[i]? with | some x => cpOk pl i x | none => true
theorem isTr_t {pl : Int} {cs : List Cp} (h1 : inB pl 1 3 = true) (h2 : inB cs.length 1 8 = true) (h : ∀ j, j < cs.length → ∀ x, cs[j]? = some x → cpOk pl j x = true) : isTr pl cs = true := by
  simp only [isTr, h1, h2, Bool.true_and, List.all_eq_true]
  intro i hi
  obtain ⟨x, hx⟩ := some_get (xs := cs) (k := i) (List.mem_range.1 hi)
  rw [hx]; exact h i (List.mem_range.1 hi) x hx
theorem isTr_f {pl : Int} {cs : List Cp} {k : Nat} {x : Cp} (hx : cs[k]? = some x) (h : cpOk pl k x = false) : isTr pl cs = false := by
  have : ((List.range cs.length).all fun i => match cs[i]? with | some x => cpOk pl i x | none => true) = false := by
    rw [List.all_eq_false]
    refine ⟨k, List.mem_range.2 (List.getElem?_eq_some_iff.1 hx).1, ?_⟩
    rw [hx]; simp [h]
  simp [isTr, this]
theorem isTr_b {pl : Int} {cs : List Cp} (h : isTr pl cs = true) : (1 ≤ pl ∧ pl ≤ 3) ∧ (1 ≤ cs.length ∧ cs.length ≤ 8) ∧ ∀ (j : Nat) x, cs[j]? = some x → cpOk pl j x = true := by
  simp only [isTr, Bool.and_eq_true, List.all_eq_true] at h
  refine ⟨inB_iff.1 h.1.1, by have := inB_iff.1 h.1.2; omega, fun j x hx => ?_⟩
  have := h.2 j (List.mem_range.2 (List.getElem?_eq_some_iff.1 hx).1)
  rw [hx] at this; exact this
theorem isTr_p {pl : Int} {cs : List Cp} (h : inB pl 1 3 = false) : isTr pl cs = false := by simp [isTr, h]
theorem isTr_n {pl : Int} {cs : List Cp} (h : inB cs.length 1 8 = false) : isTr pl cs = false := by simp [isTr, h]
theorem cpOk_b {pl : Int} {i : Nat} {x : Cp} (h : cpOk pl i x = true) : (0 ≤ x.p ∧ x.p ≤ max 0 ((i : Int) - 1)) ∧ (x.s.length : Int) = pl ∧ ∀ n ∈ x.s, n = -1 ∨ (0 ≤ n ∧ n ≤ 9) := by
  simp only [cpOk, Bool.and_eq_true, Bool.not_eq_true', decide_eq_true_eq] at h
  refine ⟨inB_iff.1 h.1.1, h.1.2, fun n hn => ?_⟩
  have := List.any_eq_false.1 h.2 n hn
  simp only [badS, Bool.and_eq_true, decide_eq_true_eq, Bool.not_eq_true', not_and, Bool.not_eq_false, ne_eq] at this
  by_cases h1 : n = -1
  · exact .inl h1
  · exact .inr (inB_iff.1 (this h1))
theorem any_ext {xs : List Int} {p : Int → Bool} (h : ∀ j, j < xs.length → ∀ y, xs[j]? = some y → p y = false) : xs.any p = false := by
  rw [List.any_eq_false]
  intro x hx
  obtain ⟨j, hj⟩ := List.mem_iff_getElem?.1 hx
  rw [h j (List.getElem?_eq_some_iff.1 hj).1 x hj]; simp
theorem any_at {xs : List Int} {p : Int → Bool} {k : Nat} {y : Int} (hy : xs[k]? = some y) (h : p y = true) : xs.any p = true := List.any_eq_true.2 ⟨y, List.mem_of_getElem? hy, h⟩

set_option maxRecDepth 20000 in
theorem cp_fig (n : Int) (w : World)  : Calls Tryz.prog 41 #[(.int .i64 n)] w (RetV w (.bool (inB n 0 9))) := by
  refine calls_T0 (av := [_]) Tryz.func41 rfl rfl rfl ?_
  refine t_seq ?_
  refine t_reg ?_
  refine to_as rfl rfl ?_
  refine to_nil ?_
  refine tn_code ?_
  refine t_seq ?_
  refine t_reg ?_
  refine to_mv rfl rfl ?_
  refine to_call0 rfl rfl (fun w s => cp_in _ _ _ w) rfl ?_
  refine to_as rfl rfl ?_
  refine to_nil ?_
  refine tn_code ?_
  refine t_ret1 rfl rfl (res_tmp rfl) (fun w' s => ?_)
  rfl

set_option maxRecDepth 20000 in
theorem s7_fig (n : Int) (w : World)  : Calls Tryz.prog 11 #[(.int .i64 n)] w (RetV w (.bool (inB n 0 9))) := by
  refine calls_T0 (av := [_]) Tryz.func11 rfl rfl rfl ?_
  refine t_seq ?_
  refine t_reg ?_
  refine to_as rfl rfl ?_
  refine to_nil ?_
  refine tn_code ?_
  refine t_seq ?_
  refine t_reg ?_
  refine to_mv rfl rfl ?_
  refine to_call0 rfl rfl (fun w s => s7_in _ _ _ w) rfl ?_
  refine to_as rfl rfl ?_
  refine to_nil ?_
  refine tn_code ?_
  refine t_ret1 rfl rfl (res_tmp rfl) (fun w' s => ?_)
  rfl

set_option maxRecDepth 20000 in
theorem cp_tree1 (n : Int) (w : World)  : Calls Tryz.prog 40 #[(.int .i64 n)] w (RetV w (.bool (badS n))) := by
  refine calls_T0 (av := [_]) Tryz.func40 rfl rfl rfl ?_
  refine t_seq ?_
  refine t_reg ?_
  refine to_as rfl rfl ?_
  refine to_nil ?_
  refine tn_code ?_
  refine t_seq ?_
  refine t_reg ?_
  refine to_mv rfl rfl ?_
  refine to_neq rfl rfl rfl ?_
  refine to_mv rfl rfl ?_
  refine to_gs rfl rfl rfl (fun h1 => ?_) (fun h1 => ?_)
  · try simp only [decide_eq_true_eq, decide_eq_false_iff_not, Bool.not_eq_true', Bool.not_eq_false', Int.not_lt, Int.not_le, ne_eq, Decidable.not_not] at h1
    try have h1b := inB_iff.1 h1
    refine to_gt rfl rfl ?_
    refine to_mv rfl rfl ?_
    refine to_gt rfl rfl ?_
    refine to_call0 rfl rfl (fun w s => cp_fig _ w) rfl ?_
    refine to_gt rfl rfl ?_
    refine to_not rfl rfl ?_
    refine to_pkT rfl rfl rfl ?_
    refine to_as rfl rfl ?_
    refine to_nil ?_
    refine tn_code ?_
    refine t_ret1 rfl rfl (res_tmp rfl) (fun w' s => ?_)
    first | (simp_all [badS]; done) | (simp [badS]; omega)
  · try simp only [decide_eq_true_eq, decide_eq_false_iff_not, Bool.not_eq_true', Bool.not_eq_false', Int.not_lt, Int.not_le, ne_eq, Decidable.not_not] at h1
    try have h1b := inB_iff.1 h1
    refine to_gf rfl rfl rfl rfl ?_
    refine to_gf rfl rfl rfl rfl ?_
    refine to_gf rfl rfl rfl rfl ?_
    refine to_pkF rfl rfl rfl ?_
    refine to_as rfl rfl ?_
    refine to_nil ?_
    refine tn_code ?_
    refine t_ret1 rfl rfl (res_tmp rfl) (fun w' s => ?_)
    first | (simp_all [badS]; done) | (simp [badS]; omega)

set_option maxRecDepth 20000 in
theorem cp_isTree (pl : Int) (cs : List Cp) (ca : Option Addr) (cc : Nat) (w : World) (hct : Ro w 0 w.heap.size ca cs.length cc 2 (cs.map cpC)) (hcs : ∀ x ∈ cs, 0 < x.s.length → Ro w 0 w.heap.size x.a x.s.length x.c 1 (ints x.s)) (hcl : cs.length ≤ 1000) (hsl : ∀ x ∈ cs, x.s.length ≤ 1000000) : Calls Tryz.prog 19 #[trV pl cs ca cc] w (RetV w (.bool (isTr pl cs))) := by
  refine calls_T0 (av := [_]) Tryz.func19 rfl rfl rfl ?_
  refine t_seq ?_
  refine t_reg ?_
  refine to_box rfl rfl (fun b1 => ?_)
  refine to_as rfl rfl ?_
  refine to_nil ?_
  refine tn_code ?_
  refine t_seq ?_
  refine t_seq ?_
  refine t_reg ?_
  first | refine to_fa rfl rfl rfl (by simp only [Nat.reduceAdd]; rfl) rfl ?_ | refine to_fae rfl rfl rfl (by simp only [Nat.reduceAdd]; rfl) rfl ?_
  first | refine to_lds rfl rfl rfl ?_ | refine to_ldes rfl (by assumption) rfl rfl ?_
  refine to_call0 rfl rfl (fun w s => cp_in _ _ _ w) rfl ?_
  refine to_not rfl rfl ?_
  refine to_mv rfl rfl ?_
  refine to_gs rfl rfl rfl (fun h1 => ?_) (fun h1 => ?_)
  · try simp only [decide_eq_true_eq, decide_eq_false_iff_not, Bool.not_eq_true', Bool.not_eq_false', Int.not_lt, Int.not_le, ne_eq, Decidable.not_not] at h1
    try have h1b := inB_iff.1 h1
    refine to_gf rfl rfl rfl rfl ?_
    refine to_gf rfl rfl rfl rfl ?_
    refine to_gf rfl rfl rfl rfl ?_
    refine to_gf rfl rfl rfl rfl ?_
    refine to_gf rfl rfl rfl rfl ?_
    refine to_pkT rfl rfl rfl ?_
    refine to_nil ?_
    refine tn_code ?_
    refine t_ifT rfl ?_
    refine t_seq ?_
    refine t_reg ?_
    refine to_as rfl rfl ?_
    refine to_nil ?_
    refine tn_code ?_
    refine t_ret1 rfl rfl (res_tmp rfl) (fun w' s => ?_)
    first | (rw [isTr_p (by assumption)]; done) | (rw [isTr_n (by assumption)]; done) | (rw [isTr_t (by assumption) (by assumption) hall]; done) | (rw [isTr_f hx (by simp_all [cpOk])]; done) | (rw [isTr_f hx (by simp [cpOk]; omega)]; done)
  · try simp only [decide_eq_true_eq, decide_eq_false_iff_not, Bool.not_eq_true', Bool.not_eq_false', Int.not_lt, Int.not_le, ne_eq, Decidable.not_not] at h1
    try have h1b := inB_iff.1 h1
    refine to_gt rfl rfl ?_
    first | refine to_fa rfl rfl rfl (by simp only [Nat.reduceAdd]; rfl) rfl ?_ | refine to_fae rfl rfl rfl (by simp only [Nat.reduceAdd]; rfl) rfl ?_
    refine to_gt rfl rfl ?_
    first | refine to_lds rfl rfl rfl ?_ | refine to_ldes rfl (by assumption) rfl rfl ?_
    refine to_gt rfl rfl ?_
    refine to_lenS rfl rfl ?_
    refine to_gt rfl rfl ?_
    refine to_call0 rfl rfl (fun w s => cp_in _ _ _ w) rfl ?_
    refine to_gt rfl rfl ?_
    refine to_not rfl rfl ?_
    refine to_pkF rfl rfl rfl ?_
    refine to_nil ?_
    refine tn_code ?_
    refine t_if rfl (fun h2 => ?_) (fun h2 => ?_)
    · try simp only [decide_eq_true_eq, decide_eq_false_iff_not, Bool.not_eq_true', Bool.not_eq_false', Int.not_lt, Int.not_le, ne_eq, Decidable.not_not] at h2
      try have h2b := inB_iff.1 h2
      refine t_seq ?_
      refine t_reg ?_
      refine to_as rfl rfl ?_
      refine to_nil ?_
      refine tn_code ?_
      refine t_ret1 rfl rfl (res_tmp rfl) (fun w' s => ?_)
      first | (rw [isTr_p (by assumption)]; done) | (rw [isTr_n (by assumption)]; done) | (rw [isTr_t (by assumption) (by assumption) hall]; done) | (rw [isTr_f hx (by simp_all [cpOk])]; done) | (rw [isTr_f hx (by simp [cpOk]; omega)]; done)
    · try simp only [decide_eq_true_eq, decide_eq_false_iff_not, Bool.not_eq_true', Bool.not_eq_false', Int.not_lt, Int.not_le, ne_eq, Decidable.not_not] at h2
      try have h2b := inB_iff.1 h2
      refine t_skip ?_
      refine tn_code ?_
      refine t_seq ?_
      refine t_seq ?_
      refine t_reg ?_
      first | refine to_fa rfl rfl rfl (by simp only [Nat.reduceAdd]; rfl) rfl ?_ | refine to_fae rfl rfl rfl (by simp only [Nat.reduceAdd]; rfl) rfl ?_
      first | refine to_lds rfl rfl rfl ?_ | refine to_ldes rfl (by assumption) rfl rfl ?_
      refine to_lenS rfl rfl ?_
      refine to_mv rfl rfl ?_
      refine to_nil ?_
      refine tn_code ?_
      refine t_blk ?_
      refine t_loop2 (ι := Nat) (fun k => k ≤ cs.length ∧ ∀ j, j < k → ∀ x, cs[j]? = some x → cpOk pl j x = true) (fun k => [(1, (.pointer (some ⟨b1, 0, none⟩))), (17, .slice ca cs.length cc), (18, (.int .i64 (cs.length : Int))), (19, (.int .i64 (k : Int)))]) (fun k => [.own b1 (isC (trC pl cs ca cc) 24), .snap 0 w.heap.size w]) (fun k => cs.length - k) (0) [.own b1 (isC (trC pl cs ca cc) 24), .snap 0 w.heap.size w] (rfl) (⟨Nat.zero_le _, fun j hj => absurd hj (Nat.not_lt_zero _)⟩) (⟨rfl, rfl, rfl, rfl, trivial⟩) ?_
      rintro k ⟨hk, hall⟩
      show T _ _ _ ⟨_, [(1, (.pointer (some ⟨b1, 0, none⟩))), (17, .slice ca cs.length cc), (18, (.int .i64 (cs.length : Int))), (19, (.int .i64 (k : Int)))], _⟩ [.own b1 (isC (trC pl cs ca cc) 24), .snap 0 w.heap.size w]
      refine t_seq ?_
      refine t_reg ?_
      refine to_lss rfl rfl rfl ?_
      refine to_nil ?_
      refine tn_code ?_
      refine t_seq ?_
      refine t_if rfl (fun h3 => ?_) (fun h3 => ?_)
      · try simp only [decide_eq_true_eq, decide_eq_false_iff_not, Bool.not_eq_true', Bool.not_eq_false', Int.not_lt, Int.not_le, ne_eq, Decidable.not_not] at h3
        try have h3b := inB_iff.1 h3
        obtain ⟨x, hx⟩ := some_get (xs := cs) (k := k) (by omega)
        have hxc := map_get (f := cpC) hx
        have hrx := hcs x (List.mem_of_getElem? hx)
        have hxl := hsl x (List.mem_of_getElem? hx)
        refine t_skip ?_
        refine tn_code ?_
        refine t_seq ?_
        refine t_blk ?_
        refine t_seq ?_
        refine t_reg ?_
        refine to_mv rfl rfl ?_
        first | refine to_ix rfl rfl rfl (by first | omega | decide) (by first | omega | decide) rfl ?_ | refine to_ixi rfl rfl rfl (by omega) (by omega) (by omega) rfl ?_
        first | refine to_lda rfl rfl rfl ?_ | refine to_ldea rfl (by assumption) rfl rfl ?_
        refine to_alloc rfl (fun b4 => ?_)
        refine to_as rfl rfl ?_
        first | refine to_st rfl rfl rfl rfl ?_ | refine to_ste rfl rfl (by assumption) rfl rfl ?_
        refine to_nil ?_
        refine tn_code ?_
        refine t_seq ?_
        refine t_reg ?_
        first | refine to_fa rfl rfl rfl (by simp only [Nat.reduceAdd]; rfl) rfl ?_ | refine to_fae rfl rfl rfl (by simp only [Nat.reduceAdd]; rfl) rfl ?_
        first | refine to_lds rfl rfl rfl ?_ | refine to_ldes rfl (by assumption) rfl rfl ?_
        refine to_mv rfl rfl ?_
        refine to_sub rfl rfl (by omega) rfl ?_
        refine to_max rfl rfl rfl ?_
        refine to_call0 rfl rfl (fun w s => cp_in _ _ _ w) rfl ?_
        refine to_not rfl rfl ?_
        refine to_mv rfl rfl ?_
        refine to_gs rfl rfl rfl (fun h4 => ?_) (fun h4 => ?_)
        · try simp only [decide_eq_true_eq, decide_eq_false_iff_not, Bool.not_eq_true', Bool.not_eq_false', Int.not_lt, Int.not_le, ne_eq, Decidable.not_not] at h4
          try have h4b := inB_iff.1 h4
          refine to_gf rfl rfl rfl rfl ?_
          refine to_gf rfl rfl rfl rfl ?_
          refine to_gf rfl rfl rfl rfl ?_
          refine to_gf rfl rfl rfl rfl ?_
          refine to_gf rfl rfl rfl rfl ?_
          refine to_gf rfl rfl rfl rfl ?_
          refine to_pkT rfl rfl rfl ?_
          refine to_mv rfl rfl ?_
          refine to_gf rfl rfl rfl rfl ?_
          refine to_gf rfl rfl rfl rfl ?_
          refine to_gf rfl rfl rfl rfl ?_
          refine to_pkT rfl rfl rfl ?_
          refine to_nil ?_
          refine tn_code ?_
          refine t_ifT rfl ?_
          refine t_seq ?_
          refine t_reg ?_
          refine to_as rfl rfl ?_
          refine to_nil ?_
          refine tn_code ?_
          refine t_ret1 rfl rfl (res_tmp rfl) (fun w' s => ?_)
          first | (rw [isTr_p (by assumption)]; done) | (rw [isTr_n (by assumption)]; done) | (rw [isTr_t (by assumption) (by assumption) hall]; done) | (rw [isTr_f hx (by simp_all [cpOk])]; done) | (rw [isTr_f hx (by simp [cpOk]; omega)]; done)
        · try simp only [decide_eq_true_eq, decide_eq_false_iff_not, Bool.not_eq_true', Bool.not_eq_false', Int.not_lt, Int.not_le, ne_eq, Decidable.not_not] at h4
          try have h4b := inB_iff.1 h4
          refine to_gt rfl rfl ?_
          first | refine to_fa rfl rfl rfl (by simp only [Nat.reduceAdd]; rfl) rfl ?_ | refine to_fae rfl rfl rfl (by simp only [Nat.reduceAdd]; rfl) rfl ?_
          refine to_gt rfl rfl ?_
          first | refine to_lds rfl rfl rfl ?_ | refine to_ldes rfl (by assumption) rfl rfl ?_
          refine to_gt rfl rfl ?_
          refine to_lenS rfl rfl ?_
          refine to_gt rfl rfl ?_
          first | refine to_fa rfl rfl rfl (by simp only [Nat.reduceAdd]; rfl) rfl ?_ | refine to_fae rfl rfl rfl (by simp only [Nat.reduceAdd]; rfl) rfl ?_
          refine to_gt rfl rfl ?_
          first | refine to_lds rfl rfl rfl ?_ | refine to_ldes rfl (by assumption) rfl rfl ?_
          refine to_gt rfl rfl ?_
          refine to_neq rfl rfl rfl ?_
          refine to_pkF rfl rfl rfl ?_
          refine to_mv rfl rfl ?_
          refine to_gs rfl rfl rfl (fun h5 => ?_) (fun h5 => ?_)
          · try simp only [decide_eq_true_eq, decide_eq_false_iff_not, Bool.not_eq_true', Bool.not_eq_false', Int.not_lt, Int.not_le, ne_eq, Decidable.not_not] at h5
            try have h5b := inB_iff.1 h5
            refine to_gf rfl rfl rfl rfl ?_
            refine to_gf rfl rfl rfl rfl ?_
            refine to_gf rfl rfl rfl rfl ?_
            refine to_pkT rfl rfl rfl ?_
            refine to_nil ?_
            refine tn_code ?_
            refine t_ifT rfl ?_
            refine t_seq ?_
            refine t_reg ?_
            refine to_as rfl rfl ?_
            refine to_nil ?_
            refine tn_code ?_
            refine t_ret1 rfl rfl (res_tmp rfl) (fun w' s => ?_)
            first | (rw [isTr_p (by assumption)]; done) | (rw [isTr_n (by assumption)]; done) | (rw [isTr_t (by assumption) (by assumption) hall]; done) | (rw [isTr_f hx (by simp_all [cpOk])]; done) | (rw [isTr_f hx (by simp [cpOk]; omega)]; done)
          · try simp only [decide_eq_true_eq, decide_eq_false_iff_not, Bool.not_eq_true', Bool.not_eq_false', Int.not_lt, Int.not_le, ne_eq, Decidable.not_not] at h5
            try have h5b := inB_iff.1 h5
            refine to_gt rfl rfl ?_
            first | refine to_fa rfl rfl rfl (by simp only [Nat.reduceAdd]; rfl) rfl ?_ | refine to_fae rfl rfl rfl (by simp only [Nat.reduceAdd]; rfl) rfl ?_
            refine to_gt rfl rfl ?_
            first | refine to_lds rfl rfl rfl ?_ | refine to_ldes rfl (by assumption) rfl rfl ?_
            refine to_gt rfl rfl ?_
            refine to_call0 rfl rfl (fun w s => conI x.s _ _ _ _ badS w (by haveI := hrx (by omega); exact rdw s) hxl (fun w' hb y hy => cp_tree1 y w')) rfl ?_
            refine to_pkF rfl rfl rfl ?_
            refine to_nil ?_
            refine tn_code ?_
            refine t_if rfl (fun h6 => ?_) (fun h6 => ?_)
            · try simp only [decide_eq_true_eq, decide_eq_false_iff_not, Bool.not_eq_true', Bool.not_eq_false', Int.not_lt, Int.not_le, ne_eq, Decidable.not_not] at h6
              try have h6b := inB_iff.1 h6
              refine t_seq ?_
              refine t_reg ?_
              refine to_as rfl rfl ?_
              refine to_nil ?_
              refine tn_code ?_
              refine t_ret1 rfl rfl (res_tmp rfl) (fun w' s => ?_)
              first | (rw [isTr_p (by assumption)]; done) | (rw [isTr_n (by assumption)]; done) | (rw [isTr_t (by assumption) (by assumption) hall]; done) | (rw [isTr_f hx (by simp_all [cpOk])]; done) | (rw [isTr_f hx (by simp [cpOk]; omega)]; done)
            · try simp only [decide_eq_true_eq, decide_eq_false_iff_not, Bool.not_eq_true', Bool.not_eq_false', Int.not_lt, Int.not_le, ne_eq, Decidable.not_not] at h6
              try have h6b := inB_iff.1 h6
              refine t_skip ?_
              refine tn_blk ?_
              refine tn_code ?_
              refine t_reg ?_
              refine to_add rfl rfl (by omega) rfl ?_
              refine to_mv rfl rfl ?_
              refine to_nil ?_
              exact tn_loop2 (k + 1) [.own b1 (isC (trC pl cs ca cc) 24), .snap 0 w.heap.size w] (rfl) (⟨by omega, all_succ hall (fun z hz => by rw [hx] at hz; cases hz; simp_all [cpOk])⟩) (by omega) (⟨rfl, rfl, rfl, rfl, trivial⟩)
      · try simp only [decide_eq_true_eq, decide_eq_false_iff_not, Bool.not_eq_true', Bool.not_eq_false', Int.not_lt, Int.not_le, ne_eq, Decidable.not_not] at h3
        try have h3b := inB_iff.1 h3
        have hk2 : k = cs.length := by omega
        subst hk2
        refine t_exit ?_
        refine tx_code ?_
        refine tx_inv ?_
        refine tx_blk ?_
        refine tn_code ?_
        refine t_seq ?_
        refine t_reg ?_
        refine to_as rfl rfl ?_
        refine to_nil ?_
        refine tn_code ?_
        refine t_ret1 rfl rfl (res_tmp rfl) (fun w' s => ?_)
        first | (rw [isTr_p (by assumption)]; done) | (rw [isTr_n (by assumption)]; done) | (rw [isTr_t (by assumption) (by assumption) hall]; done) | (rw [isTr_f hx (by simp_all [cpOk])]; done) | (rw [isTr_f hx (by simp [cpOk]; omega)]; done)

end Go.Proofs


namespace Go.Proofs
open Go Go.Sx Go.RowKit

theorem nat_succ {P : Nat → Prop} {k : Nat} (h : ∀ j, j < k → P j) (hk : P k) : ∀ j, j < k + 1 → P j := by
  intro j hj
  rcases Nat.lt_succ_iff_lt_or_eq.1 hj with h' | rfl
  · exact h j h'
  · exact hk
def fitB (s n : Int) : Bool := decide (s = -1) || decide (s = n)
def ptOk (x : Cp) (l : Li) (p : Nat) : Bool := match l.xs[p]?, x.s[p]? with | some n, some s => inB n 0 9 && fitB s n | _, _ => true
def ltOk (pl : Int) (x : Cp) (l : Li) : Bool := decide ((l.xs.length : Int) = pl) && (List.range l.xs.length).all (ptOk x l)
def rwOk (pl : Int) (cs : List Cp) (st : List Li) (i : Nat) : Bool := match st[i]?, cs[i]? with | some l, some x => ltOk pl x l | _, _ => true
def isSt (pl : Int) (cs : List Cp) (st : List Li) : Bool := decide (st.length = cs.length) && (List.range st.length).all (rwOk pl cs st)
theorem ptOk_at {x : Cp} {l : Li} {p : Nat} {n s : Int} (hn : l.xs[p]? = some n) (hs : x.s[p]? = some s) : ptOk x l p = (inB n 0 9 && fitB s n) := by simp [ptOk, hn, hs]
theorem rwOk_at {pl : Int} {cs : List Cp} {st : List Li} {i : Nat} {l : Li} {x : Cp} (hl : st[i]? = some l) (hx : cs[i]? = some x) : rwOk pl cs st i = ltOk pl x l := by simp [rwOk, hl, hx]
theorem ltOk_t {pl : Int} {x : Cp} {l : Li} (h1 : (l.xs.length : Int) = pl) (h : ∀ p, p < l.xs.length → ptOk x l p = true) : ltOk pl x l = true := by
  simp only [ltOk, h1, decide_true, Bool.true_and, List.all_eq_true]
  exact fun p hp => h p (List.mem_range.1 hp)
theorem ltOk_n {pl : Int} {x : Cp} {l : Li} (h1 : ¬ (l.xs.length : Int) = pl) : ltOk pl x l = false := by simp [ltOk, h1]
theorem ltOk_f {pl : Int} {x : Cp} {l : Li} {p : Nat} (hp : p < l.xs.length) (h : ptOk x l p = false) : ltOk pl x l = false := by
  have : (List.range l.xs.length).all (ptOk x l) = false := by
    rw [List.all_eq_false]
    exact ⟨p, List.mem_range.2 hp, by rw [h]; simp⟩
  simp [ltOk, this]
theorem isSt_t {pl : Int} {cs : List Cp} {st : List Li} (h1 : st.length = cs.length) (h : ∀ i, i < st.length → rwOk pl cs st i = true) : isSt pl cs st = true := by
  simp only [isSt, h1, decide_true, Bool.true_and, List.all_eq_true]
  exact fun p hp => h p (by rw [h1]; exact List.mem_range.1 hp)
theorem isSt_n {pl : Int} {cs : List Cp} {st : List Li} (h1 : ¬ st.length = cs.length) : isSt pl cs st = false := by simp [isSt, h1]
theorem isSt_f {pl : Int} {cs : List Cp} {st : List Li} {i : Nat} (hi : i < st.length) (h : rwOk pl cs st i = false) : isSt pl cs st = false := by
  have : (List.range st.length).all (rwOk pl cs st) = false := by
    rw [List.all_eq_false]
    exact ⟨i, List.mem_range.2 hi, by rw [h]; simp⟩
  simp [isSt, this]
theorem isSt_b {pl : Int} {cs : List Cp} {st : List Li} (h : isSt pl cs st = true) : st.length = cs.length ∧ ∀ (i : Nat) l x, st[i]? = some l → cs[i]? = some x → (l.xs.length : Int) = pl ∧ ∀ (p : Nat) n s, l.xs[p]? = some n → x.s[p]? = some s → (0 ≤ n ∧ n ≤ 9) ∧ fitB s n = true := by
  simp only [isSt, Bool.and_eq_true, decide_eq_true_eq, List.all_eq_true] at h
  refine ⟨h.1, fun i l x hl hx => ?_⟩
  have h2 := h.2 i (List.mem_range.2 (List.getElem?_eq_some_iff.1 hl).1)
  rw [rwOk_at hl hx] at h2
  simp only [ltOk, Bool.and_eq_true, decide_eq_true_eq, List.all_eq_true] at h2
  refine ⟨h2.1, fun p n s hn hs => ?_⟩
  have h3 := h2.2 p (List.mem_range.2 (List.getElem?_eq_some_iff.1 hn).1)
  rw [ptOk_at hn hs] at h3
  simp only [Bool.and_eq_true] at h3
  exact ⟨inB_iff.1 h3.1, h3.2⟩
theorem cpOk_t {pl : Int} {i : Nat} {x : Cp} (h1 : inB x.p 0 (max 0 ((i : Int) - 1)) = true) (h2 : (x.s.length : Int) = pl) (h3 : x.s.any badS = false) : cpOk pl i x = true := by simp [cpOk, h1, h2, h3]
theorem cpOk_a {pl : Int} {i : Nat} {x : Cp} (h3 : x.s.any badS = true) : cpOk pl i x = false := by simp [cpOk, h3]

set_option maxRecDepth 20000 in
theorem s7_Tree (pl : Int) (cs : List Cp) (ca : Option Addr) (cc : Nat) (w : World) (hct : Ro w 0 w.heap.size ca cs.length cc 2 (cs.map cpC)) (hcs : ∀ x ∈ cs, 0 < x.s.length → Ro w 0 w.heap.size x.a x.s.length x.c 1 (ints x.s)) (hcl : cs.length ≤ 1000) : Calls Tryz.prog 4 #[trV pl cs ca cc] w (RetV w (.bool (isTr pl cs))) := by
  refine calls_T0 (av := [_]) Tryz.func4 rfl rfl rfl ?_
  refine t_seq ?_
  refine t_reg ?_
  refine to_box rfl rfl (fun b1 => ?_)
  refine to_as rfl rfl ?_
  refine to_nil ?_
  refine tn_code ?_
  refine t_seq ?_
  refine t_seq ?_
  refine t_reg ?_
  first | refine to_fa rfl rfl rfl (by simp only [Nat.reduceAdd]; rfl) rfl ?_ | refine to_fae rfl rfl rfl (by simp only [Nat.reduceAdd]; rfl) rfl ?_
  first | refine to_lds rfl rfl rfl ?_ | refine to_ldes rfl (by assumption) rfl rfl ?_
  refine to_call0 rfl rfl (fun w s => s7_in _ _ _ w) rfl ?_
  refine to_not rfl rfl ?_
  refine to_mv rfl rfl ?_
  refine to_gs rfl rfl rfl (fun h1 => ?_) (fun h1 => ?_)
  · try simp only [decide_eq_true_eq, decide_eq_false_iff_not, Bool.not_eq_true', Bool.not_eq_false', Int.not_lt, Int.not_le, ne_eq, Decidable.not_not] at h1
    try have h1b := inB_iff.1 h1
    refine to_gf rfl rfl rfl rfl ?_
    refine to_gf rfl rfl rfl rfl ?_
    refine to_gf rfl rfl rfl rfl ?_
    refine to_gf rfl rfl rfl rfl ?_
    refine to_gf rfl rfl rfl rfl ?_
    refine to_pkT rfl rfl rfl ?_
    refine to_nil ?_
    refine tn_code ?_
    refine t_ifT rfl ?_
    refine t_seq ?_
    refine t_reg ?_
    refine to_as rfl rfl ?_
    refine to_nil ?_
    refine tn_code ?_
    refine t_ret1 rfl rfl (res_tmp rfl) (fun w' s => ?_)
    first | (rw [isTr_p (by assumption)]; done) | (rw [isTr_n (by assumption)]; done) | (rw [isTr_t (by assumption) (by assumption) hall]; done) | (rw [isTr_f hx (cpOk_a (any_at hn (by simp_all [badS])))]; done) | (rw [isTr_f hx (by simp_all [cpOk])]; done) | (rw [isTr_f hx (by simp [cpOk]; omega)]; done)
  · try simp only [decide_eq_true_eq, decide_eq_false_iff_not, Bool.not_eq_true', Bool.not_eq_false', Int.not_lt, Int.not_le, ne_eq, Decidable.not_not] at h1
    try have h1b := inB_iff.1 h1
    refine to_gt rfl rfl ?_
    first | refine to_fa rfl rfl rfl (by simp only [Nat.reduceAdd]; rfl) rfl ?_ | refine to_fae rfl rfl rfl (by simp only [Nat.reduceAdd]; rfl) rfl ?_
    refine to_gt rfl rfl ?_
    first | refine to_lds rfl rfl rfl ?_ | refine to_ldes rfl (by assumption) rfl rfl ?_
    refine to_gt rfl rfl ?_
    refine to_lenS rfl rfl ?_
    refine to_gt rfl rfl ?_
    refine to_call0 rfl rfl (fun w s => s7_in _ _ _ w) rfl ?_
    refine to_gt rfl rfl ?_
    refine to_not rfl rfl ?_
    refine to_pkF rfl rfl rfl ?_
    refine to_nil ?_
    refine tn_code ?_
    refine t_if rfl (fun h2 => ?_) (fun h2 => ?_)
    · try simp only [decide_eq_true_eq, decide_eq_false_iff_not, Bool.not_eq_true', Bool.not_eq_false', Int.not_lt, Int.not_le, ne_eq, Decidable.not_not] at h2
      try have h2b := inB_iff.1 h2
      refine t_seq ?_
      refine t_reg ?_
      refine to_as rfl rfl ?_
      refine to_nil ?_
      refine tn_code ?_
      refine t_ret1 rfl rfl (res_tmp rfl) (fun w' s => ?_)
      first | (rw [isTr_p (by assumption)]; done) | (rw [isTr_n (by assumption)]; done) | (rw [isTr_t (by assumption) (by assumption) hall]; done) | (rw [isTr_f hx (cpOk_a (any_at hn (by simp_all [badS])))]; done) | (rw [isTr_f hx (by simp_all [cpOk])]; done) | (rw [isTr_f hx (by simp [cpOk]; omega)]; done)
    · try simp only [decide_eq_true_eq, decide_eq_false_iff_not, Bool.not_eq_true', Bool.not_eq_false', Int.not_lt, Int.not_le, ne_eq, Decidable.not_not] at h2
      try have h2b := inB_iff.1 h2
      refine t_skip ?_
      refine tn_code ?_
      refine t_seq ?_
      refine t_seq ?_
      refine t_reg ?_
      refine to_as rfl rfl ?_
      refine to_nil ?_
      refine tn_code ?_
      refine t_blk ?_
      refine t_loop2 (ι := Nat) (fun k => k ≤ cs.length ∧ ∀ j, j < k → ∀ x, cs[j]? = some x → cpOk pl j x = true) (fun k => [(1, (.pointer (some ⟨b1, 0, none⟩))), (3, (.int .i64 (k : Int)))]) (fun k => [.own b1 (isC (trC pl cs ca cc) 24), .snap 0 w.heap.size w]) (fun k => cs.length - k) (0) [.own b1 (isC (trC pl cs ca cc) 24), .snap 0 w.heap.size w] (rfl) (⟨Nat.zero_le _, fun j hj => absurd hj (Nat.not_lt_zero _)⟩) (⟨rfl, rfl, trivial⟩) ?_
      rintro k ⟨hk, hall⟩
      show T _ _ _ ⟨_, [(1, (.pointer (some ⟨b1, 0, none⟩))), (3, (.int .i64 (k : Int)))], _⟩ [.own b1 (isC (trC pl cs ca cc) 24), .snap 0 w.heap.size w]
      refine t_seq ?_
      refine t_seq ?_
      refine t_reg ?_
      refine to_mv rfl rfl ?_
      first | refine to_fa rfl rfl rfl (by simp only [Nat.reduceAdd]; rfl) rfl ?_ | refine to_fae rfl rfl rfl (by simp only [Nat.reduceAdd]; rfl) rfl ?_
      first | refine to_lds rfl rfl rfl ?_ | refine to_ldes rfl (by assumption) rfl rfl ?_
      refine to_lenS rfl rfl ?_
      refine to_lss rfl rfl rfl ?_
      refine to_nil ?_
      refine tn_code ?_
      refine t_if rfl (fun h3 => ?_) (fun h3 => ?_)
      · try simp only [decide_eq_true_eq, decide_eq_false_iff_not, Bool.not_eq_true', Bool.not_eq_false', Int.not_lt, Int.not_le, ne_eq, Decidable.not_not] at h3
        try have h3b := inB_iff.1 h3
        obtain ⟨x, hx⟩ := some_get (xs := cs) (k := k) (by omega)
        have hxc := map_get (f := cpC) hx
        have hrx := hcs x (List.mem_of_getElem? hx)
        refine t_skip ?_
        refine tn_code ?_
        refine t_seq ?_
        refine t_blk ?_
        refine t_seq ?_
        refine t_reg ?_
        first | refine to_fa rfl rfl rfl (by simp only [Nat.reduceAdd]; rfl) rfl ?_ | refine to_fae rfl rfl rfl (by simp only [Nat.reduceAdd]; rfl) rfl ?_
        first | refine to_lds rfl rfl rfl ?_ | refine to_ldes rfl (by assumption) rfl rfl ?_
        refine to_mv rfl rfl ?_
        first | refine to_ix rfl rfl rfl (by first | omega | decide) (by first | omega | decide) rfl ?_ | refine to_ixi rfl rfl rfl (by omega) (by omega) (by omega) rfl ?_
        first | refine to_lda rfl rfl rfl ?_ | refine to_ldea rfl (by assumption) rfl rfl ?_
        refine to_alloc rfl (fun b4 => ?_)
        first | refine to_st rfl rfl rfl rfl ?_ | refine to_ste rfl rfl (by assumption) rfl rfl ?_
        refine to_nil ?_
        refine tn_code ?_
        refine t_seq ?_
        refine t_seq ?_
        refine t_reg ?_
        first | refine to_fa rfl rfl rfl (by simp only [Nat.reduceAdd]; rfl) rfl ?_ | refine to_fae rfl rfl rfl (by simp only [Nat.reduceAdd]; rfl) rfl ?_
        first | refine to_lds rfl rfl rfl ?_ | refine to_ldes rfl (by assumption) rfl rfl ?_
        refine to_mv rfl rfl ?_
        refine to_sub rfl rfl (by omega) rfl ?_
        refine to_max rfl rfl rfl ?_
        refine to_call0 rfl rfl (fun w s => s7_in _ _ _ w) rfl ?_
        refine to_not rfl rfl ?_
        refine to_mv rfl rfl ?_
        refine to_gs rfl rfl rfl (fun h4 => ?_) (fun h4 => ?_)
        · try simp only [decide_eq_true_eq, decide_eq_false_iff_not, Bool.not_eq_true', Bool.not_eq_false', Int.not_lt, Int.not_le, ne_eq, Decidable.not_not] at h4
          try have h4b := inB_iff.1 h4
          refine to_gf rfl rfl rfl rfl ?_
          refine to_gf rfl rfl rfl rfl ?_
          refine to_gf rfl rfl rfl rfl ?_
          refine to_gf rfl rfl rfl rfl ?_
          refine to_gf rfl rfl rfl rfl ?_
          refine to_gf rfl rfl rfl rfl ?_
          refine to_pkT rfl rfl rfl ?_
          refine to_nil ?_
          refine tn_code ?_
          refine t_ifT rfl ?_
          refine t_seq ?_
          refine t_reg ?_
          refine to_as rfl rfl ?_
          refine to_nil ?_
          refine tn_code ?_
          refine t_ret1 rfl rfl (res_tmp rfl) (fun w' s => ?_)
          first | (rw [isTr_p (by assumption)]; done) | (rw [isTr_n (by assumption)]; done) | (rw [isTr_t (by assumption) (by assumption) hall]; done) | (rw [isTr_f hx (cpOk_a (any_at hn (by simp_all [badS])))]; done) | (rw [isTr_f hx (by simp_all [cpOk])]; done) | (rw [isTr_f hx (by simp [cpOk]; omega)]; done)
        · try simp only [decide_eq_true_eq, decide_eq_false_iff_not, Bool.not_eq_true', Bool.not_eq_false', Int.not_lt, Int.not_le, ne_eq, Decidable.not_not] at h4
          try have h4b := inB_iff.1 h4
          refine to_gt rfl rfl ?_
          first | refine to_fa rfl rfl rfl (by simp only [Nat.reduceAdd]; rfl) rfl ?_ | refine to_fae rfl rfl rfl (by simp only [Nat.reduceAdd]; rfl) rfl ?_
          refine to_gt rfl rfl ?_
          first | refine to_lds rfl rfl rfl ?_ | refine to_ldes rfl (by assumption) rfl rfl ?_
          refine to_gt rfl rfl ?_
          refine to_lenS rfl rfl ?_
          refine to_gt rfl rfl ?_
          first | refine to_fa rfl rfl rfl (by simp only [Nat.reduceAdd]; rfl) rfl ?_ | refine to_fae rfl rfl rfl (by simp only [Nat.reduceAdd]; rfl) rfl ?_
          refine to_gt rfl rfl ?_
          first | refine to_lds rfl rfl rfl ?_ | refine to_ldes rfl (by assumption) rfl rfl ?_
          refine to_gt rfl rfl ?_
          refine to_neq rfl rfl rfl ?_
          refine to_pkF rfl rfl rfl ?_
          refine to_nil ?_
          refine tn_code ?_
          refine t_if rfl (fun h5 => ?_) (fun h5 => ?_)
          · try simp only [decide_eq_true_eq, decide_eq_false_iff_not, Bool.not_eq_true', Bool.not_eq_false', Int.not_lt, Int.not_le, ne_eq, Decidable.not_not] at h5
            try have h5b := inB_iff.1 h5
            refine t_seq ?_
            refine t_reg ?_
            refine to_as rfl rfl ?_
            refine to_nil ?_
            refine tn_code ?_
            refine t_ret1 rfl rfl (res_tmp rfl) (fun w' s => ?_)
            first | (rw [isTr_p (by assumption)]; done) | (rw [isTr_n (by assumption)]; done) | (rw [isTr_t (by assumption) (by assumption) hall]; done) | (rw [isTr_f hx (cpOk_a (any_at hn (by simp_all [badS])))]; done) | (rw [isTr_f hx (by simp_all [cpOk])]; done) | (rw [isTr_f hx (by simp [cpOk]; omega)]; done)
          · try simp only [decide_eq_true_eq, decide_eq_false_iff_not, Bool.not_eq_true', Bool.not_eq_false', Int.not_lt, Int.not_le, ne_eq, Decidable.not_not] at h5
            try have h5b := inB_iff.1 h5
            refine t_skip ?_
            refine tn_code ?_
            refine t_seq ?_
            refine t_reg ?_
            refine to_as rfl rfl ?_
            refine to_nil ?_
            refine tn_code ?_
            refine t_blk ?_
            refine t_loop2 (ι := Nat) (fun q => q ≤ x.s.length ∧ ∀ j, j < q → ∀ y, x.s[j]? = some y → badS y = false) (fun q => [(1, (.pointer (some ⟨b1, 0, none⟩))), (3, (.int .i64 (k : Int))), (4, (.pointer (some ⟨b4, 0, none⟩))), (5, (.int .i64 (q : Int)))]) (fun q => [.own b4 (isC (cpC x) 32), .own b1 (isC (trC pl cs ca cc) 24), .snap 0 w.heap.size w]) (fun q => x.s.length - q) (0) [.own b4 (isC (cpC x) 32), .own b1 (isC (trC pl cs ca cc) 24), .snap 0 w.heap.size w] (rfl) (⟨Nat.zero_le _, fun j hj => absurd hj (Nat.not_lt_zero _)⟩) (⟨rfl, rfl, rfl, rfl, trivial⟩) ?_
            rintro q ⟨hq, hany⟩
            show T _ _ _ ⟨_, [(1, (.pointer (some ⟨b1, 0, none⟩))), (3, (.int .i64 (k : Int))), (4, (.pointer (some ⟨b4, 0, none⟩))), (5, (.int .i64 (q : Int)))], _⟩ [.own b4 (isC (cpC x) 32), .own b1 (isC (trC pl cs ca cc) 24), .snap 0 w.heap.size w]
            refine t_seq ?_
            refine t_seq ?_
            refine t_reg ?_
            refine to_mv rfl rfl ?_
            first | refine to_fa rfl rfl rfl (by simp only [Nat.reduceAdd]; rfl) rfl ?_ | refine to_fae rfl rfl rfl (by simp only [Nat.reduceAdd]; rfl) rfl ?_
            first | refine to_lds rfl rfl rfl ?_ | refine to_ldes rfl (by assumption) rfl rfl ?_
            refine to_lenS rfl rfl ?_
            refine to_lss rfl rfl rfl ?_
            refine to_nil ?_
            refine tn_code ?_
            refine t_if rfl (fun h6 => ?_) (fun h6 => ?_)
            · try simp only [decide_eq_true_eq, decide_eq_false_iff_not, Bool.not_eq_true', Bool.not_eq_false', Int.not_lt, Int.not_le, ne_eq, Decidable.not_not] at h6
              try have h6b := inB_iff.1 h6
              obtain ⟨n, hn⟩ := some_get (xs := x.s) (k := q) (by omega)
              have hxn := map_get (f := intC) hn
              have hrx1 := hrx (by omega)
              refine t_skip ?_
              refine tn_code ?_
              refine t_seq ?_
              refine t_blk ?_
              refine t_seq ?_
              refine t_reg ?_
              first | refine to_fa rfl rfl rfl (by simp only [Nat.reduceAdd]; rfl) rfl ?_ | refine to_fae rfl rfl rfl (by simp only [Nat.reduceAdd]; rfl) rfl ?_
              first | refine to_lds rfl rfl rfl ?_ | refine to_ldes rfl (by assumption) rfl rfl ?_
              refine to_mv rfl rfl ?_
              first | refine to_ix rfl rfl rfl (by first | omega | decide) (by first | omega | decide) rfl ?_ | refine to_ixi rfl rfl rfl (by omega) (by omega) (by omega) rfl ?_
              first | refine to_lds rfl rfl rfl ?_ | refine to_ldes rfl (by assumption) rfl rfl ?_
              refine to_neq rfl rfl rfl ?_
              refine to_mv rfl rfl ?_
              refine to_gs rfl rfl rfl (fun h7 => ?_) (fun h7 => ?_)
              · try simp only [decide_eq_true_eq, decide_eq_false_iff_not, Bool.not_eq_true', Bool.not_eq_false', Int.not_lt, Int.not_le, ne_eq, Decidable.not_not] at h7
                try have h7b := inB_iff.1 h7
                refine to_gt rfl rfl ?_
                first | refine to_fa rfl rfl rfl (by simp only [Nat.reduceAdd]; rfl) rfl ?_ | refine to_fae rfl rfl rfl (by simp only [Nat.reduceAdd]; rfl) rfl ?_
                refine to_gt rfl rfl ?_
                first | refine to_lds rfl rfl rfl ?_ | refine to_ldes rfl (by assumption) rfl rfl ?_
                refine to_gt rfl rfl ?_
                refine to_mv rfl rfl ?_
                refine to_gt rfl rfl ?_
                first | refine to_ix rfl rfl rfl (by first | omega | decide) (by first | omega | decide) rfl ?_ | refine to_ixi rfl rfl rfl (by omega) (by omega) (by omega) rfl ?_
                refine to_gt rfl rfl ?_
                first | refine to_lds rfl rfl rfl ?_ | refine to_ldes rfl (by assumption) rfl rfl ?_
                refine to_gt rfl rfl ?_
                refine to_call0 rfl rfl (fun w s => s7_fig _ w) rfl ?_
                refine to_gt rfl rfl ?_
                refine to_not rfl rfl ?_
                refine to_pkT rfl rfl rfl ?_
                refine to_nil ?_
                refine tn_code ?_
                refine t_if rfl (fun h8 => ?_) (fun h8 => ?_)
                · try simp only [decide_eq_true_eq, decide_eq_false_iff_not, Bool.not_eq_true', Bool.not_eq_false', Int.not_lt, Int.not_le, ne_eq, Decidable.not_not] at h8
                  try have h8b := inB_iff.1 h8
                  refine t_seq ?_
                  refine t_reg ?_
                  refine to_as rfl rfl ?_
                  refine to_nil ?_
                  refine tn_code ?_
                  refine t_ret1 rfl rfl (res_tmp rfl) (fun w' s => ?_)
                  first | (rw [isTr_p (by assumption)]; done) | (rw [isTr_n (by assumption)]; done) | (rw [isTr_t (by assumption) (by assumption) hall]; done) | (rw [isTr_f hx (cpOk_a (any_at hn (by simp_all [badS])))]; done) | (rw [isTr_f hx (by simp_all [cpOk])]; done) | (rw [isTr_f hx (by simp [cpOk]; omega)]; done)
                · try simp only [decide_eq_true_eq, decide_eq_false_iff_not, Bool.not_eq_true', Bool.not_eq_false', Int.not_lt, Int.not_le, ne_eq, Decidable.not_not] at h8
                  try have h8b := inB_iff.1 h8
                  refine t_skip ?_
                  refine tn_blk ?_
                  refine tn_code ?_
                  refine t_reg ?_
                  refine to_mv rfl rfl ?_
                  refine to_add rfl rfl (by omega) rfl ?_
                  refine to_as rfl rfl ?_
                  refine to_nil ?_
                  exact tn_loop2 (q + 1) [.own b4 (isC (cpC x) 32), .own b1 (isC (trC pl cs ca cc) 24), .snap 0 w.heap.size w] (rfl) (⟨by omega, all_succ hany (fun z hz => by rw [hn] at hz; cases hz; simp_all [badS])⟩) (by omega) (⟨rfl, rfl, rfl, rfl, trivial⟩)
              · try simp only [decide_eq_true_eq, decide_eq_false_iff_not, Bool.not_eq_true', Bool.not_eq_false', Int.not_lt, Int.not_le, ne_eq, Decidable.not_not] at h7
                try have h7b := inB_iff.1 h7
                refine to_gf rfl rfl rfl rfl ?_
                refine to_gf rfl rfl rfl rfl ?_
                refine to_gf rfl rfl rfl rfl ?_
                refine to_gf rfl rfl rfl rfl ?_
                refine to_gf rfl rfl rfl rfl ?_
                refine to_gf rfl rfl rfl rfl ?_
                refine to_gf rfl rfl rfl rfl ?_
                refine to_pkF rfl rfl rfl ?_
                refine to_nil ?_
                refine tn_code ?_
                refine t_ifF rfl ?_
                refine t_skip ?_
                refine tn_blk ?_
                refine tn_code ?_
                refine t_reg ?_
                refine to_mv rfl rfl ?_
                refine to_add rfl rfl (by omega) rfl ?_
                refine to_as rfl rfl ?_
                refine to_nil ?_
                exact tn_loop2 (q + 1) [.own b4 (isC (cpC x) 32), .own b1 (isC (trC pl cs ca cc) 24), .snap 0 w.heap.size w] (rfl) (⟨by omega, all_succ hany (fun z hz => by rw [hn] at hz; cases hz; simp_all [badS])⟩) (by omega) (⟨rfl, rfl, rfl, rfl, trivial⟩)
            · try simp only [decide_eq_true_eq, decide_eq_false_iff_not, Bool.not_eq_true', Bool.not_eq_false', Int.not_lt, Int.not_le, ne_eq, Decidable.not_not] at h6
              try have h6b := inB_iff.1 h6
              have hq2 : q = x.s.length := by omega
              subst hq2
              refine t_exit ?_
              refine tx_code ?_
              refine tx_inv ?_
              refine tx_blk ?_
              refine tn_blk ?_
              refine tn_code ?_
              refine t_reg ?_
              refine to_mv rfl rfl ?_
              refine to_add rfl rfl (by omega) rfl ?_
              refine to_as rfl rfl ?_
              refine to_nil ?_
              exact tn_loop2 (k + 1) [.own b1 (isC (trC pl cs ca cc) 24), .snap 0 w.heap.size w] (rfl) (⟨by omega, all_succ hall (fun z hz => by rw [hx] at hz; cases hz; exact cpOk_t (by assumption) (by omega) (any_ext hany))⟩) (by omega) (⟨rfl, rfl, trivial⟩)
      · try simp only [decide_eq_true_eq, decide_eq_false_iff_not, Bool.not_eq_true', Bool.not_eq_false', Int.not_lt, Int.not_le, ne_eq, Decidable.not_not] at h3
        try have h3b := inB_iff.1 h3
        have hk2 : k = cs.length := by omega
        subst hk2
        refine t_exit ?_
        refine tx_code ?_
        refine tx_inv ?_
        refine tx_blk ?_
        refine tn_code ?_
        refine t_seq ?_
        refine t_reg ?_
        refine to_as rfl rfl ?_
        refine to_nil ?_
        refine tn_code ?_
        refine t_ret1 rfl rfl (res_tmp rfl) (fun w' s => ?_)
        first | (rw [isTr_p (by assumption)]; done) | (rw [isTr_n (by assumption)]; done) | (rw [isTr_t (by assumption) (by assumption) hall]; done) | (rw [isTr_f hx (cpOk_a (any_at hn (by simp_all [badS])))]; done) | (rw [isTr_f hx (by simp_all [cpOk])]; done) | (rw [isTr_f hx (by simp [cpOk]; omega)]; done)

set_option maxRecDepth 20000 in
theorem s7_Copy (pl : Int) (cs : List Cp) (ca : Option Addr) (cc : Nat) (n : Int) (w : World) (hcl : cs.length ≤ 1000) : Calls Tryz.prog 5 #[trV pl cs ca cc, (.int .i64 n)] w (RetV w (.bool (inB n 0 (cs.length - 1)))) := by
  refine calls_T0 (av := [_, _]) Tryz.func5 rfl rfl rfl ?_
  refine t_seq ?_
  refine t_reg ?_
  refine to_box rfl rfl (fun b2 => ?_)
  refine to_as rfl rfl ?_
  refine to_nil ?_
  refine tn_code ?_
  refine t_seq ?_
  refine t_reg ?_
  refine to_mv rfl rfl ?_
  first | refine to_fa rfl rfl rfl (by simp only [Nat.reduceAdd]; rfl) rfl ?_ | refine to_fae rfl rfl rfl (by simp only [Nat.reduceAdd]; rfl) rfl ?_
  first | refine to_lds rfl rfl rfl ?_ | refine to_ldes rfl (by assumption) rfl rfl ?_
  refine to_lenS rfl rfl ?_
  refine to_sub rfl rfl (by omega) rfl ?_
  refine to_call0 rfl rfl (fun w s => s7_in _ _ _ w) rfl ?_
  refine to_as rfl rfl ?_
  refine to_nil ?_
  refine tn_code ?_
  refine t_ret1 rfl rfl (res_tmp rfl) (fun w' s => ?_)
  rfl

set_option maxRecDepth 20000 in
theorem cp_fits (pl : Int) (cs : List Cp) (ca : Option Addr) (cc : Nat) (k q : Nat) (n s9 : Int) (x : Cp) (w : World) (hct : Ro w 0 w.heap.size ca cs.length cc 2 (cs.map cpC)) (hx : cs[k]? = some x) (hrx : Ro w 0 w.heap.size x.a x.s.length x.c 1 (ints x.s)) (hs9 : x.s[q]? = some s9) (hcl : cs.length ≤ 1000) (hxl : x.s.length ≤ 1000) : Calls Tryz.prog 42 #[trV pl cs ca cc, (.int .i64 (k : Int)), (.int .i64 (q : Int)), (.int .i64 n)] w (RetV w (.bool (fitB s9 n))) := by
  have hxc := map_get (f := cpC) hx
  have hxs := map_get (f := intC) hs9
  have h1 := (List.getElem?_eq_some_iff.1 hx).1
  have h2 := (List.getElem?_eq_some_iff.1 hs9).1
  refine calls_T0 (av := [_, _, _, _]) Tryz.func42 rfl rfl rfl ?_
  refine t_seq ?_
  refine t_reg ?_
  refine to_box rfl rfl (fun b4 => ?_)
  refine to_as rfl rfl ?_
  refine to_nil ?_
  refine tn_code ?_
  refine t_seq ?_
  refine t_reg ?_
  first | refine to_fa rfl rfl rfl (by simp only [Nat.reduceAdd]; rfl) rfl ?_ | refine to_fae rfl rfl rfl (by simp only [Nat.reduceAdd]; rfl) rfl ?_
  first | refine to_lds rfl rfl rfl ?_ | refine to_ldes rfl (by assumption) rfl rfl ?_
  refine to_mv rfl rfl ?_
  first | refine to_ix rfl rfl rfl (by first | omega | decide) (by first | omega | decide) rfl ?_ | refine to_ixi rfl rfl rfl (by omega) (by omega) (by omega) rfl ?_
  first | refine to_fa rfl rfl rfl (by simp only [Nat.reduceAdd]; rfl) rfl ?_ | refine to_fae rfl rfl rfl (by simp only [Nat.reduceAdd]; rfl) rfl ?_
  first | refine to_lds rfl rfl rfl ?_ | refine to_ldes rfl (by assumption) rfl rfl ?_
  refine to_mv rfl rfl ?_
  first | refine to_ix rfl rfl rfl (by first | omega | decide) (by first | omega | decide) rfl ?_ | refine to_ixi rfl rfl rfl (by omega) (by omega) (by omega) rfl ?_
  first | refine to_lds rfl rfl rfl ?_ | refine to_ldes rfl (by assumption) rfl rfl ?_
  refine to_as rfl rfl ?_
  refine to_nil ?_
  refine tn_code ?_
  refine t_seq ?_
  refine t_reg ?_
  refine to_mv rfl rfl ?_
  refine to_eql rfl rfl rfl ?_
  refine to_mv rfl rfl ?_
  refine to_gs rfl rfl rfl (fun h1 => ?_) (fun h1 => ?_)
  · try simp only [decide_eq_true_eq, decide_eq_false_iff_not, Bool.not_eq_true', Bool.not_eq_false', Int.not_lt, Int.not_le, ne_eq, Decidable.not_not] at h1
    try have h1b := inB_iff.1 h1
    refine to_gf rfl rfl rfl rfl ?_
    refine to_gf rfl rfl rfl rfl ?_
    refine to_gf rfl rfl rfl rfl ?_
    refine to_pkT rfl rfl rfl ?_
    refine to_as rfl rfl ?_
    refine to_nil ?_
    refine tn_code ?_
    refine t_ret1 rfl rfl (res_tmp rfl) (fun w' s => ?_)
    first | (simp_all [fitB]; done) | (simp [fitB]; omega)
  · try simp only [decide_eq_true_eq, decide_eq_false_iff_not, Bool.not_eq_true', Bool.not_eq_false', Int.not_lt, Int.not_le, ne_eq, Decidable.not_not] at h1
    try have h1b := inB_iff.1 h1
    refine to_gt rfl rfl ?_
    refine to_mv rfl rfl ?_
    refine to_gt rfl rfl ?_
    refine to_mv rfl rfl ?_
    refine to_gt rfl rfl ?_
    refine to_eql rfl rfl rfl ?_
    refine to_pkF rfl rfl rfl ?_
    refine to_as rfl rfl ?_
    refine to_nil ?_
    refine tn_code ?_
    refine t_ret1 rfl rfl (res_tmp rfl) (fun w' s => ?_)
    first | (simp_all [fitB]; done) | (simp [fitB]; omega)

set_option maxRecDepth 20000 in
theorem cp_isStory (pl : Int) (cs : List Cp) (ca : Option Addr) (cc : Nat) (st : List Li) (sa : Option Addr) (sc : Nat) (w : World) (hct : Ro w 0 w.heap.size ca cs.length cc 2 (cs.map cpC)) (hcs : ∀ x ∈ cs, 0 < x.s.length → Ro w 0 w.heap.size x.a x.s.length x.c 1 (ints x.s)) (hcl : cs.length ≤ 1000) (hst : Ro w 0 w.heap.size sa st.length sc 1 (st.map liC)) (hss : ∀ x ∈ st, 0 < x.xs.length → Ro w 0 w.heap.size x.a x.xs.length x.c 1 (ints x.xs)) (hsl : st.length ≤ 1000) (hT0 : isTr pl cs = true) : Calls Tryz.prog 20 #[trV pl cs ca cc, .slice sa st.length sc] w (RetV w (.bool (isSt pl cs st))) := by
  have hT := isTr_b hT0
  refine calls_T0 (av := [_, _]) Tryz.func20 rfl rfl rfl ?_
  refine t_seq ?_
  refine t_reg ?_
  refine to_box rfl rfl (fun b2 => ?_)
  refine to_as rfl rfl ?_
  refine to_nil ?_
  refine tn_code ?_
  refine t_seq ?_
  refine t_seq ?_
  refine t_reg ?_
  refine to_mv rfl rfl ?_
  refine to_lenS rfl rfl ?_
  first | refine to_fa rfl rfl rfl (by simp only [Nat.reduceAdd]; rfl) rfl ?_ | refine to_fae rfl rfl rfl (by simp only [Nat.reduceAdd]; rfl) rfl ?_
  first | refine to_lds rfl rfl rfl ?_ | refine to_ldes rfl (by assumption) rfl rfl ?_
  refine to_lenS rfl rfl ?_
  refine to_neq rfl rfl rfl ?_
  refine to_nil ?_
  refine tn_code ?_
  refine t_if rfl (fun h1 => ?_) (fun h1 => ?_)
  · try simp only [decide_eq_true_eq, decide_eq_false_iff_not, Bool.not_eq_true', Bool.not_eq_false', Int.not_lt, Int.not_le, ne_eq, Decidable.not_not] at h1
    try have h1b := inB_iff.1 h1
    refine t_seq ?_
    refine t_reg ?_
    refine to_as rfl rfl ?_
    refine to_nil ?_
    refine tn_code ?_
    refine t_ret1 rfl rfl (res_tmp rfl) (fun w' s => ?_)
    first | (rw [isSt_n (by omega)]; done) | (rw [isSt_t (by omega) hall]; done) | (rw [isSt_f (by omega) ((rwOk_at hl hx).trans (ltOk_n (by omega)))]; done) | (rw [isSt_f (by omega) ((rwOk_at hl hx).trans (ltOk_f (p := q) (by omega) (by rw [hpt]; first | (simp_all [fitB]; done) | (simp [fitB]; omega) | (simp [fitB]; intros; omega) | (simp_all [fitB]; omega))))]; done)
  · try simp only [decide_eq_true_eq, decide_eq_false_iff_not, Bool.not_eq_true', Bool.not_eq_false', Int.not_lt, Int.not_le, ne_eq, Decidable.not_not] at h1
    try have h1b := inB_iff.1 h1
    refine t_skip ?_
    refine tn_code ?_
    refine t_seq ?_
    refine t_seq ?_
    refine t_reg ?_
    refine to_mv rfl rfl ?_
    refine to_lenS rfl rfl ?_
    refine to_mv rfl rfl ?_
    refine to_nil ?_
    refine tn_code ?_
    refine t_blk ?_
    refine t_loop2 (ι := Nat) (fun k => k ≤ st.length ∧ ∀ j, j < k → rwOk pl cs st j = true) (fun k => [(2, (.pointer (some ⟨b2, 0, none⟩))), (15, .slice sa st.length sc), (16, (.int .i64 (st.length : Int))), (17, (.int .i64 (k : Int)))]) (fun k => [.own b2 (isC (trC pl cs ca cc) 24), .snap 0 w.heap.size w]) (fun k => st.length - k) (0) [.own b2 (isC (trC pl cs ca cc) 24), .snap 0 w.heap.size w] (rfl) (⟨Nat.zero_le _, fun j hj => absurd hj (Nat.not_lt_zero _)⟩) (⟨rfl, rfl, rfl, rfl, trivial⟩) ?_
    rintro k ⟨hk, hall⟩
    show T _ _ _ ⟨_, [(2, (.pointer (some ⟨b2, 0, none⟩))), (15, .slice sa st.length sc), (16, (.int .i64 (st.length : Int))), (17, (.int .i64 (k : Int)))], _⟩ [.own b2 (isC (trC pl cs ca cc) 24), .snap 0 w.heap.size w]
    refine t_seq ?_
    refine t_reg ?_
    refine to_lss rfl rfl rfl ?_
    refine to_nil ?_
    refine tn_code ?_
    refine t_seq ?_
    refine t_if rfl (fun h2 => ?_) (fun h2 => ?_)
    · try simp only [decide_eq_true_eq, decide_eq_false_iff_not, Bool.not_eq_true', Bool.not_eq_false', Int.not_lt, Int.not_le, ne_eq, Decidable.not_not] at h2
      try have h2b := inB_iff.1 h2
      obtain ⟨l, hl⟩ := some_get (xs := st) (k := k) (by omega)
      have hlc := map_get (f := liC) hl
      have hrl := hss l (List.mem_of_getElem? hl)
      obtain ⟨x, hx⟩ := some_get (xs := cs) (k := k) (by omega)
      have hxc := map_get (f := cpC) hx
      have hrx := hcs x (List.mem_of_getElem? hx)
      have hxo := cpOk_b (hT.2.2 k x hx)
      refine t_skip ?_
      refine tn_code ?_
      refine t_seq ?_
      refine t_blk ?_
      refine t_seq ?_
      refine t_reg ?_
      refine to_mv rfl rfl ?_
      first | refine to_ix rfl rfl rfl (by first | omega | decide) (by first | omega | decide) rfl ?_ | refine to_ixi rfl rfl rfl (by omega) (by omega) (by omega) rfl ?_
      first | refine to_lds rfl rfl rfl ?_ | refine to_ldes rfl (by assumption) rfl rfl ?_
      refine to_as rfl rfl ?_
      refine to_as rfl rfl ?_
      refine to_nil ?_
      refine tn_code ?_
      refine t_seq ?_
      refine t_seq ?_
      refine t_reg ?_
      refine to_mv rfl rfl ?_
      refine to_lenS rfl rfl ?_
      first | refine to_fa rfl rfl rfl (by simp only [Nat.reduceAdd]; rfl) rfl ?_ | refine to_fae rfl rfl rfl (by simp only [Nat.reduceAdd]; rfl) rfl ?_
      first | refine to_lds rfl rfl rfl ?_ | refine to_ldes rfl (by assumption) rfl rfl ?_
      refine to_neq rfl rfl rfl ?_
      refine to_nil ?_
      refine tn_code ?_
      refine t_if rfl (fun h3 => ?_) (fun h3 => ?_)
      · try simp only [decide_eq_true_eq, decide_eq_false_iff_not, Bool.not_eq_true', Bool.not_eq_false', Int.not_lt, Int.not_le, ne_eq, Decidable.not_not] at h3
        try have h3b := inB_iff.1 h3
        refine t_seq ?_
        refine t_reg ?_
        refine to_as rfl rfl ?_
        refine to_nil ?_
        refine tn_code ?_
        refine t_ret1 rfl rfl (res_tmp rfl) (fun w' s => ?_)
        first | (rw [isSt_n (by omega)]; done) | (rw [isSt_t (by omega) hall]; done) | (rw [isSt_f (by omega) ((rwOk_at hl hx).trans (ltOk_n (by omega)))]; done) | (rw [isSt_f (by omega) ((rwOk_at hl hx).trans (ltOk_f (p := q) (by omega) (by rw [hpt]; first | (simp_all [fitB]; done) | (simp [fitB]; omega) | (simp [fitB]; intros; omega) | (simp_all [fitB]; omega))))]; done)
      · try simp only [decide_eq_true_eq, decide_eq_false_iff_not, Bool.not_eq_true', Bool.not_eq_false', Int.not_lt, Int.not_le, ne_eq, Decidable.not_not] at h3
        try have h3b := inB_iff.1 h3
        refine t_skip ?_
        refine tn_code ?_
        refine t_seq ?_
        refine t_reg ?_
        refine to_mv rfl rfl ?_
        refine to_lenS rfl rfl ?_
        refine to_mv rfl rfl ?_
        refine to_nil ?_
        refine tn_code ?_
        refine t_blk ?_
        refine t_loop2 (ι := Nat) (fun q => q ≤ l.xs.length ∧ ∀ j, j < q → ptOk x l j = true) (fun q => [(2, (.pointer (some ⟨b2, 0, none⟩))), (5, (.int .i64 (k : Int))), (15, .slice sa st.length sc), (16, (.int .i64 (st.length : Int))), (17, (.int .i64 (k : Int))), (27, .slice l.a l.xs.length l.c), (28, (.int .i64 (l.xs.length : Int))), (29, (.int .i64 (q : Int)))]) (fun q => [.own b2 (isC (trC pl cs ca cc) 24), .snap 0 w.heap.size w]) (fun q => l.xs.length - q) (0) [.own b2 (isC (trC pl cs ca cc) 24), .snap 0 w.heap.size w] (rfl) (⟨Nat.zero_le _, fun j hj => absurd hj (Nat.not_lt_zero _)⟩) (⟨rfl, rfl, rfl, rfl, rfl, rfl, rfl, rfl, trivial⟩) ?_
        rintro q ⟨hq, hpq⟩
        show T _ _ _ ⟨_, [(2, (.pointer (some ⟨b2, 0, none⟩))), (5, (.int .i64 (k : Int))), (15, .slice sa st.length sc), (16, (.int .i64 (st.length : Int))), (17, (.int .i64 (k : Int))), (27, .slice l.a l.xs.length l.c), (28, (.int .i64 (l.xs.length : Int))), (29, (.int .i64 (q : Int)))], _⟩ [.own b2 (isC (trC pl cs ca cc) 24), .snap 0 w.heap.size w]
        refine t_seq ?_
        refine t_reg ?_
        refine to_lss rfl rfl rfl ?_
        refine to_nil ?_
        refine tn_code ?_
        refine t_seq ?_
        refine t_if rfl (fun h4 => ?_) (fun h4 => ?_)
        · try simp only [decide_eq_true_eq, decide_eq_false_iff_not, Bool.not_eq_true', Bool.not_eq_false', Int.not_lt, Int.not_le, ne_eq, Decidable.not_not] at h4
          try have h4b := inB_iff.1 h4
          obtain ⟨n, hn⟩ := some_get (xs := l.xs) (k := q) (by omega)
          have hxn := map_get (f := intC) hn
          obtain ⟨s9, hs9⟩ := some_get (xs := x.s) (k := q) (by omega)
          have hxs := map_get (f := intC) hs9
          have hsv := hxo.2.2 s9 (List.mem_of_getElem? hs9)
          have hpt := ptOk_at hn hs9
          have hrl1 := hrl (by omega)
          have hrx1 := hrx (by omega)
          refine t_skip ?_
          refine tn_code ?_
          refine t_seq ?_
          refine t_blk ?_
          refine t_seq ?_
          refine t_reg ?_
          refine to_mv rfl rfl ?_
          first | refine to_ix rfl rfl rfl (by first | omega | decide) (by first | omega | decide) rfl ?_ | refine to_ixi rfl rfl rfl (by omega) (by omega) (by omega) rfl ?_
          first | refine to_lds rfl rfl rfl ?_ | refine to_ldes rfl (by assumption) rfl rfl ?_
          refine to_as rfl rfl ?_
          refine to_as rfl rfl ?_
          refine to_nil ?_
          refine tn_code ?_
          refine t_seq ?_
          refine t_reg ?_
          refine to_mv rfl rfl ?_
          refine to_call0 rfl rfl (fun w s => cp_fig _ w) rfl ?_
          refine to_not rfl rfl ?_
          refine to_mv rfl rfl ?_
          refine to_gs rfl rfl rfl (fun h5 => ?_) (fun h5 => ?_)
          · try simp only [decide_eq_true_eq, decide_eq_false_iff_not, Bool.not_eq_true', Bool.not_eq_false', Int.not_lt, Int.not_le, ne_eq, Decidable.not_not] at h5
            try have h5b := inB_iff.1 h5
            refine to_gf rfl rfl rfl rfl ?_
            refine to_gf rfl rfl rfl rfl ?_
            refine to_gf rfl rfl rfl rfl ?_
            refine to_gf rfl rfl rfl rfl ?_
            refine to_gf rfl rfl rfl rfl ?_
            refine to_gf rfl rfl rfl rfl ?_
            refine to_pkT rfl rfl rfl ?_
            refine to_nil ?_
            refine tn_code ?_
            refine t_ifT rfl ?_
            refine t_seq ?_
            refine t_reg ?_
            refine to_as rfl rfl ?_
            refine to_nil ?_
            refine tn_code ?_
            refine t_ret1 rfl rfl (res_tmp rfl) (fun w' s => ?_)
            first | (rw [isSt_n (by omega)]; done) | (rw [isSt_t (by omega) hall]; done) | (rw [isSt_f (by omega) ((rwOk_at hl hx).trans (ltOk_n (by omega)))]; done) | (rw [isSt_f (by omega) ((rwOk_at hl hx).trans (ltOk_f (p := q) (by omega) (by rw [hpt]; first | (simp_all [fitB]; done) | (simp [fitB]; omega) | (simp [fitB]; intros; omega) | (simp_all [fitB]; omega))))]; done)
          · try simp only [decide_eq_true_eq, decide_eq_false_iff_not, Bool.not_eq_true', Bool.not_eq_false', Int.not_lt, Int.not_le, ne_eq, Decidable.not_not] at h5
            try have h5b := inB_iff.1 h5
            refine to_gt rfl rfl ?_
            first | refine to_lda rfl rfl rfl ?_ | refine to_ldea rfl (by assumption) rfl rfl ?_
            refine to_gt rfl rfl ?_
            refine to_mv rfl rfl ?_
            refine to_gt rfl rfl ?_
            refine to_mv rfl rfl ?_
            refine to_gt rfl rfl ?_
            refine to_mv rfl rfl ?_
            refine to_gt rfl rfl ?_
            refine to_call0 rfl rfl (fun w s => cp_fits pl cs ca cc k q n s9 x w (rdw s) hx (rdw s) hs9 hcl (by omega)) rfl ?_
            refine to_gt rfl rfl ?_
            refine to_not rfl rfl ?_
            refine to_pkF rfl rfl rfl ?_
            refine to_nil ?_
            refine tn_code ?_
            refine t_if rfl (fun h6 => ?_) (fun h6 => ?_)
            · try simp only [decide_eq_true_eq, decide_eq_false_iff_not, Bool.not_eq_true', Bool.not_eq_false', Int.not_lt, Int.not_le, ne_eq, Decidable.not_not] at h6
              try have h6b := inB_iff.1 h6
              refine t_seq ?_
              refine t_reg ?_
              refine to_as rfl rfl ?_
              refine to_nil ?_
              refine tn_code ?_
              refine t_ret1 rfl rfl (res_tmp rfl) (fun w' s => ?_)
              first | (rw [isSt_n (by omega)]; done) | (rw [isSt_t (by omega) hall]; done) | (rw [isSt_f (by omega) ((rwOk_at hl hx).trans (ltOk_n (by omega)))]; done) | (rw [isSt_f (by omega) ((rwOk_at hl hx).trans (ltOk_f (p := q) (by omega) (by rw [hpt]; first | (simp_all [fitB]; done) | (simp [fitB]; omega) | (simp [fitB]; intros; omega) | (simp_all [fitB]; omega))))]; done)
            · try simp only [decide_eq_true_eq, decide_eq_false_iff_not, Bool.not_eq_true', Bool.not_eq_false', Int.not_lt, Int.not_le, ne_eq, Decidable.not_not] at h6
              try have h6b := inB_iff.1 h6
              refine t_skip ?_
              refine tn_blk ?_
              refine tn_code ?_
              refine t_reg ?_
              refine to_add rfl rfl (by omega) rfl ?_
              refine to_mv rfl rfl ?_
              refine to_nil ?_
              exact tn_loop2 (q + 1) [.own b2 (isC (trC pl cs ca cc) 24), .snap 0 w.heap.size w] (rfl) (⟨by omega, nat_succ hpq (by rw [hpt]; simp_all)⟩) (by omega) (⟨rfl, rfl, rfl, rfl, rfl, rfl, rfl, rfl, trivial⟩)
        · try simp only [decide_eq_true_eq, decide_eq_false_iff_not, Bool.not_eq_true', Bool.not_eq_false', Int.not_lt, Int.not_le, ne_eq, Decidable.not_not] at h4
          try have h4b := inB_iff.1 h4
          have hq2 : q = l.xs.length := by omega
          subst hq2
          refine t_exit ?_
          refine tx_code ?_
          refine tx_inv ?_
          refine tx_blk ?_
          refine tn_blk ?_
          refine tn_code ?_
          refine t_reg ?_
          refine to_add rfl rfl (by omega) rfl ?_
          refine to_mv rfl rfl ?_
          refine to_nil ?_
          exact tn_loop2 (k + 1) [.own b2 (isC (trC pl cs ca cc) 24), .snap 0 w.heap.size w] (rfl) (⟨by omega, nat_succ hall ((rwOk_at hl hx).trans (ltOk_t (by omega) hpq))⟩) (by omega) (⟨rfl, rfl, rfl, rfl, trivial⟩)
    · try simp only [decide_eq_true_eq, decide_eq_false_iff_not, Bool.not_eq_true', Bool.not_eq_false', Int.not_lt, Int.not_le, ne_eq, Decidable.not_not] at h2
      try have h2b := inB_iff.1 h2
      have hk2 : k = st.length := by omega
      subst hk2
      refine t_exit ?_
      refine tx_code ?_
      refine tx_inv ?_
      refine tx_blk ?_
      refine tn_code ?_
      refine t_seq ?_
      refine t_reg ?_
      refine to_as rfl rfl ?_
      refine to_nil ?_
      refine tn_code ?_
      refine t_ret1 rfl rfl (res_tmp rfl) (fun w' s => ?_)
      first | (rw [isSt_n (by omega)]; done) | (rw [isSt_t (by omega) hall]; done) | (rw [isSt_f (by omega) ((rwOk_at hl hx).trans (ltOk_n (by omega)))]; done) | (rw [isSt_f (by omega) ((rwOk_at hl hx).trans (ltOk_f (p := q) (by omega) (by rw [hpt]; first | (simp_all [fitB]; done) | (simp [fitB]; omega) | (simp [fitB]; intros; omega) | (simp_all [fitB]; omega))))]; done)

end Go.Proofs


namespace Go.Proofs
open Go Go.Sx Go.RowKit

def lxA (st : List Li) (i p : Nat) : Int := ((st[i]?).map fun l => l.xs.getD p 0).getD 0
def parA (cs : List Cp) (i : Nat) : Nat := ((cs[i]?).map fun x => x.p.toNat).getD 0
def badA (cs : List Cp) (st : List Li) (i p : Nat) : Bool := decide (0 < i) && decide (lxA st i p ≠ lxA st (parA cs i) p)
def erR (cs : List Cp) (st : List Li) (i : Nat) : Nat → List Sp
  | 0 => []
  | p + 1 => if badA cs st i p then erR cs st i p ++ [((i : Int), (p : Int))] else erR cs st i p
def erA (cs : List Cp) (st : List Li) (m : Nat) : Nat → List Sp
  | 0 => []
  | k + 1 => erA cs st m k ++ erR cs st k m
theorem erR_t {cs : List Cp} {st : List Li} {i p : Nat} (h : badA cs st i p = true) : erR cs st i (p + 1) = erR cs st i p ++ [((i : Int), (p : Int))] := by simp [erR, h]
theorem erR_f {cs : List Cp} {st : List Li} {i p : Nat} (h : badA cs st i p = false) : erR cs st i (p + 1) = erR cs st i p := by simp [erR, h]
theorem erR_len (cs : List Cp) (st : List Li) (i : Nat) : ∀ p, (erR cs st i p).length ≤ p
  | 0 => Nat.le_refl _
  | p + 1 => by
    have := erR_len cs st i p
    simp only [erR]
    split
    · simp; omega
    · omega
theorem erA_len (cs : List Cp) (st : List Li) (m : Nat) : ∀ k, (erA cs st m k).length ≤ m * k
  | 0 => Nat.le_refl _
  | k + 1 => by
    have h1 := erA_len cs st m k
    have h2 := erR_len cs st k m
    simp only [erA, List.length_append, Nat.mul_succ]; omega
theorem bad_0 {cs : List Cp} {st : List Li} {i p : Nat} (h : ¬ 0 < i) : badA cs st i p = false := by simp [badA, h]
theorem bad_at {cs : List Cp} {st : List Li} {i p : Nat} {l lp : Li} {x : Cp} {n np : Int} (hi : 0 < i) (hl : st[i]? = some l) (hx : cs[i]? = some x) (hlp : st[x.p.toNat]? = some lp) (hn : l.xs[p]? = some n) (hnp : lp.xs[p]? = some np) : badA cs st i p = decide (n ≠ np) := by
  simp [badA, hi, lxA, parA, hl, hx, hlp, List.getD, hn, hnp]

set_option maxRecDepth 20000 in
theorem s7_Story (pl : Int) (cs : List Cp) (ca : Option Addr) (cc : Nat) (st : List Li) (sa : Option Addr) (sc : Nat) (w : World) (hct : Ro w 0 w.heap.size ca cs.length cc 2 (cs.map cpC)) (hcs : ∀ x ∈ cs, 0 < x.s.length → Ro w 0 w.heap.size x.a x.s.length x.c 1 (ints x.s)) (hcl : cs.length ≤ 1000) (hst : Ro w 0 w.heap.size sa st.length sc 1 (st.map liC)) (hss : ∀ x ∈ st, 0 < x.xs.length → Ro w 0 w.heap.size x.a x.xs.length x.c 1 (ints x.xs)) (hsl : st.length ≤ 1000) (hT0 : isTr pl cs = true) : Calls Tryz.prog 6 #[trV pl cs ca cc, .slice sa st.length sc] w (RetV w (.bool (isSt pl cs st))) := by
  have hT := isTr_b hT0
  refine calls_T0 (av := [_, _]) Tryz.func6 rfl rfl rfl ?_
  refine t_seq ?_
  refine t_reg ?_
  refine to_box rfl rfl (fun b2 => ?_)
  refine to_as rfl rfl ?_
  refine to_nil ?_
  refine tn_code ?_
  refine t_seq ?_
  refine t_seq ?_
  refine t_reg ?_
  refine to_mv rfl rfl ?_
  refine to_lenS rfl rfl ?_
  first | refine to_fa rfl rfl rfl (by simp only [Nat.reduceAdd]; rfl) rfl ?_ | refine to_fae rfl rfl rfl (by simp only [Nat.reduceAdd]; rfl) rfl ?_
  first | refine to_lds rfl rfl rfl ?_ | refine to_ldes rfl (by assumption) rfl rfl ?_
  refine to_lenS rfl rfl ?_
  refine to_neq rfl rfl rfl ?_
  refine to_nil ?_
  refine tn_code ?_
  refine t_if rfl (fun h1 => ?_) (fun h1 => ?_)
  · try simp only [decide_eq_true_eq, decide_eq_false_iff_not, Bool.not_eq_true', Bool.not_eq_false', Int.not_lt, Int.not_le, ne_eq, Decidable.not_not] at h1
    try have h1b := inB_iff.1 h1
    refine t_seq ?_
    refine t_reg ?_
    refine to_as rfl rfl ?_
    refine to_nil ?_
    refine tn_code ?_
    refine t_ret1 rfl rfl (res_tmp rfl) (fun w' s => ?_)
    first | (rw [isSt_n (by omega)]; done) | (rw [isSt_t (by omega) hall]; done) | (rw [isSt_f (by omega) ((rwOk_at hl hx).trans (ltOk_n (by omega)))]; done) | (rw [isSt_f (by omega) ((rwOk_at hl hx).trans (ltOk_f (p := q) (by omega) (by rw [hpt]; first | (simp_all [fitB]; done) | (simp [fitB]; omega) | (simp [fitB]; intros; omega) | (simp_all [fitB]; omega))))]; done)
  · try simp only [decide_eq_true_eq, decide_eq_false_iff_not, Bool.not_eq_true', Bool.not_eq_false', Int.not_lt, Int.not_le, ne_eq, Decidable.not_not] at h1
    try have h1b := inB_iff.1 h1
    refine t_skip ?_
    refine tn_code ?_
    refine t_seq ?_
    refine t_seq ?_
    refine t_reg ?_
    refine to_as rfl rfl ?_
    refine to_nil ?_
    refine tn_code ?_
    refine t_blk ?_
    refine t_loop2 (ι := Nat) (fun k => k ≤ st.length ∧ ∀ j, j < k → rwOk pl cs st j = true) (fun k => [(1, .slice sa st.length sc), (2, (.pointer (some ⟨b2, 0, none⟩))), (5, (.int .i64 (k : Int)))]) (fun k => [.own b2 (isC (trC pl cs ca cc) 24), .snap 0 w.heap.size w]) (fun k => st.length - k) (0) [.own b2 (isC (trC pl cs ca cc) 24), .snap 0 w.heap.size w] (rfl) (⟨Nat.zero_le _, fun j hj => absurd hj (Nat.not_lt_zero _)⟩) (⟨rfl, rfl, rfl, trivial⟩) ?_
    rintro k ⟨hk, hall⟩
    show T _ _ _ ⟨_, [(1, .slice sa st.length sc), (2, (.pointer (some ⟨b2, 0, none⟩))), (5, (.int .i64 (k : Int)))], _⟩ [.own b2 (isC (trC pl cs ca cc) 24), .snap 0 w.heap.size w]
    refine t_seq ?_
    refine t_seq ?_
    refine t_reg ?_
    refine to_mv rfl rfl ?_
    refine to_mv rfl rfl ?_
    refine to_lenS rfl rfl ?_
    refine to_lss rfl rfl rfl ?_
    refine to_nil ?_
    refine tn_code ?_
    refine t_if rfl (fun h2 => ?_) (fun h2 => ?_)
    · try simp only [decide_eq_true_eq, decide_eq_false_iff_not, Bool.not_eq_true', Bool.not_eq_false', Int.not_lt, Int.not_le, ne_eq, Decidable.not_not] at h2
      try have h2b := inB_iff.1 h2
      obtain ⟨l, hl⟩ := some_get (xs := st) (k := k) (by omega)
      have hlc := map_get (f := liC) hl
      have hrl := hss l (List.mem_of_getElem? hl)
      obtain ⟨x, hx⟩ := some_get (xs := cs) (k := k) (by omega)
      have hxc := map_get (f := cpC) hx
      have hrx := hcs x (List.mem_of_getElem? hx)
      have hxo := cpOk_b (hT.2.2 k x hx)
      refine t_skip ?_
      refine tn_code ?_
      refine t_seq ?_
      refine t_blk ?_
      refine t_seq ?_
      refine t_seq ?_
      refine t_regD rfl (by kernel_rfl) (by kernel_rfl) ?_
      refine to_mv rfl rfl ?_
      refine to_mv rfl rfl ?_
      first | refine to_ix rfl rfl rfl (by first | omega | decide) (by first | omega | decide) rfl ?_ | refine to_ixi rfl rfl rfl (by omega) (by omega) (by omega) rfl ?_
      first | refine to_lds rfl rfl rfl ?_ | refine to_ldes rfl (by assumption) rfl rfl ?_
      refine to_lenS rfl rfl ?_
      first | refine to_fa rfl rfl rfl (by simp only [Nat.reduceAdd]; rfl) rfl ?_ | refine to_fae rfl rfl rfl (by simp only [Nat.reduceAdd]; rfl) rfl ?_
      first | refine to_lds rfl rfl rfl ?_ | refine to_ldes rfl (by assumption) rfl rfl ?_
      refine to_neq rfl rfl rfl ?_
      refine to_nil ?_
      refine tn_code ?_
      refine t_if rfl (fun h3 => ?_) (fun h3 => ?_)
      · try simp only [decide_eq_true_eq, decide_eq_false_iff_not, Bool.not_eq_true', Bool.not_eq_false', Int.not_lt, Int.not_le, ne_eq, Decidable.not_not] at h3
        try have h3b := inB_iff.1 h3
        refine t_seq ?_
        refine t_reg ?_
        refine to_as rfl rfl ?_
        refine to_nil ?_
        refine tn_code ?_
        refine t_ret1 rfl rfl (res_tmp rfl) (fun w' s => ?_)
        first | (rw [isSt_n (by omega)]; done) | (rw [isSt_t (by omega) hall]; done) | (rw [isSt_f (by omega) ((rwOk_at hl hx).trans (ltOk_n (by omega)))]; done) | (rw [isSt_f (by omega) ((rwOk_at hl hx).trans (ltOk_f (p := q) (by omega) (by rw [hpt]; first | (simp_all [fitB]; done) | (simp [fitB]; omega) | (simp [fitB]; intros; omega) | (simp_all [fitB]; omega))))]; done)
      · try simp only [decide_eq_true_eq, decide_eq_false_iff_not, Bool.not_eq_true', Bool.not_eq_false', Int.not_lt, Int.not_le, ne_eq, Decidable.not_not] at h3
        try have h3b := inB_iff.1 h3
        refine t_skip ?_
        refine tn_code ?_
        refine t_seq ?_
        refine t_reg ?_
        refine to_as rfl rfl ?_
        refine to_nil ?_
        refine tn_code ?_
        refine t_blk ?_
        refine t_loop2 (ι := Nat) (fun q => q ≤ l.xs.length ∧ ∀ j, j < q → ptOk x l j = true) (fun q => [(1, .slice sa st.length sc), (2, (.pointer (some ⟨b2, 0, none⟩))), (5, (.int .i64 (k : Int))), (6, (.int .i64 (q : Int)))]) (fun q => [.own b2 (isC (trC pl cs ca cc) 24), .snap 0 w.heap.size w]) (fun q => l.xs.length - q) (0) [.own b2 (isC (trC pl cs ca cc) 24), .snap 0 w.heap.size w] (rfl) (⟨Nat.zero_le _, fun j hj => absurd hj (Nat.not_lt_zero _)⟩) (⟨rfl, rfl, rfl, rfl, trivial⟩) ?_
        rintro q ⟨hq, hpq⟩
        show T _ _ _ ⟨_, [(1, .slice sa st.length sc), (2, (.pointer (some ⟨b2, 0, none⟩))), (5, (.int .i64 (k : Int))), (6, (.int .i64 (q : Int)))], _⟩ [.own b2 (isC (trC pl cs ca cc) 24), .snap 0 w.heap.size w]
        refine t_seq ?_
        refine t_seq ?_
        refine t_reg ?_
        refine to_mv rfl rfl ?_
        first | refine to_fa rfl rfl rfl (by simp only [Nat.reduceAdd]; rfl) rfl ?_ | refine to_fae rfl rfl rfl (by simp only [Nat.reduceAdd]; rfl) rfl ?_
        first | refine to_lds rfl rfl rfl ?_ | refine to_ldes rfl (by assumption) rfl rfl ?_
        refine to_lss rfl rfl rfl ?_
        refine to_nil ?_
        refine tn_code ?_
        refine t_if rfl (fun h4 => ?_) (fun h4 => ?_)
        · try simp only [decide_eq_true_eq, decide_eq_false_iff_not, Bool.not_eq_true', Bool.not_eq_false', Int.not_lt, Int.not_le, ne_eq, Decidable.not_not] at h4
          try have h4b := inB_iff.1 h4
          obtain ⟨n, hn⟩ := some_get (xs := l.xs) (k := q) (by omega)
          have hxn := map_get (f := intC) hn
          obtain ⟨s9, hs9⟩ := some_get (xs := x.s) (k := q) (by omega)
          have hxs := map_get (f := intC) hs9
          have hsv := hxo.2.2 s9 (List.mem_of_getElem? hs9)
          have hpt := ptOk_at hn hs9
          have hrl1 := hrl (by omega)
          have hrx1 := hrx (by omega)
          refine t_skip ?_
          refine tn_code ?_
          refine t_seq ?_
          refine t_blk ?_
          refine t_seq ?_
          refine t_regD rfl (by kernel_rfl) (by kernel_rfl) ?_
          refine to_mv rfl rfl ?_
          refine to_mv rfl rfl ?_
          first | refine to_ix rfl rfl rfl (by first | omega | decide) (by first | omega | decide) rfl ?_ | refine to_ixi rfl rfl rfl (by omega) (by omega) (by omega) rfl ?_
          first | refine to_lds rfl rfl rfl ?_ | refine to_ldes rfl (by assumption) rfl rfl ?_
          refine to_mv rfl rfl ?_
          first | refine to_ix rfl rfl rfl (by first | omega | decide) (by first | omega | decide) rfl ?_ | refine to_ixi rfl rfl rfl (by omega) (by omega) (by omega) rfl ?_
          first | refine to_lds rfl rfl rfl ?_ | refine to_ldes rfl (by assumption) rfl rfl ?_
          refine to_call0 rfl rfl (fun w s => s7_fig _ w) rfl ?_
          refine to_not rfl rfl ?_
          refine to_mv rfl rfl ?_
          refine to_gs rfl rfl rfl (fun h5 => ?_) (fun h5 => ?_)
          · try simp only [decide_eq_true_eq, decide_eq_false_iff_not, Bool.not_eq_true', Bool.not_eq_false', Int.not_lt, Int.not_le, ne_eq, Decidable.not_not] at h5
            try have h5b := inB_iff.1 h5
            refine to_gf rfl rfl rfl rfl ?_
            refine to_gf rfl rfl rfl rfl ?_
            refine to_gf rfl rfl rfl rfl ?_
            refine to_gf rfl rfl rfl rfl ?_
            refine to_gf rfl rfl rfl rfl ?_
            refine to_gf rfl rfl rfl rfl ?_
            refine to_gf rfl rfl rfl rfl ?_
            refine to_gf rfl rfl rfl rfl ?_
            refine to_gf rfl rfl rfl rfl ?_
            refine to_gf rfl rfl rfl rfl ?_
            refine to_gf rfl rfl rfl rfl ?_
            refine to_gf rfl rfl rfl rfl ?_
            refine to_gf rfl rfl rfl rfl ?_
            refine to_gf rfl rfl rfl rfl ?_
            refine to_gf rfl rfl rfl rfl ?_
            refine to_gf rfl rfl rfl rfl ?_
            refine to_gf rfl rfl rfl rfl ?_
            refine to_gf rfl rfl rfl rfl ?_
            refine to_gf rfl rfl rfl rfl ?_
            refine to_gf rfl rfl rfl rfl ?_
            refine to_gf rfl rfl rfl rfl ?_
            refine to_gf rfl rfl rfl rfl ?_
            refine to_gf rfl rfl rfl rfl ?_
            refine to_gf rfl rfl rfl rfl ?_
            refine to_gf rfl rfl rfl rfl ?_
            refine to_gf rfl rfl rfl rfl ?_
            refine to_gf rfl rfl rfl rfl ?_
            refine to_gf rfl rfl rfl rfl ?_
            refine to_gf rfl rfl rfl rfl ?_
            refine to_pkT rfl rfl rfl ?_
            refine to_nil ?_
            refine tn_code ?_
            refine t_ifT rfl ?_
            refine t_seq ?_
            refine t_reg ?_
            refine to_as rfl rfl ?_
            refine to_nil ?_
            refine tn_code ?_
            refine t_ret1 rfl rfl (res_tmp rfl) (fun w' s => ?_)
            first | (rw [isSt_n (by omega)]; done) | (rw [isSt_t (by omega) hall]; done) | (rw [isSt_f (by omega) ((rwOk_at hl hx).trans (ltOk_n (by omega)))]; done) | (rw [isSt_f (by omega) ((rwOk_at hl hx).trans (ltOk_f (p := q) (by omega) (by rw [hpt]; first | (simp_all [fitB]; done) | (simp [fitB]; omega) | (simp [fitB]; intros; omega) | (simp_all [fitB]; omega))))]; done)
          · try simp only [decide_eq_true_eq, decide_eq_false_iff_not, Bool.not_eq_true', Bool.not_eq_false', Int.not_lt, Int.not_le, ne_eq, Decidable.not_not] at h5
            try have h5b := inB_iff.1 h5
            refine to_gt rfl rfl ?_
            first | refine to_fa rfl rfl rfl (by simp only [Nat.reduceAdd]; rfl) rfl ?_ | refine to_fae rfl rfl rfl (by simp only [Nat.reduceAdd]; rfl) rfl ?_
            refine to_gt rfl rfl ?_
            first | refine to_lds rfl rfl rfl ?_ | refine to_ldes rfl (by assumption) rfl rfl ?_
            refine to_gt rfl rfl ?_
            refine to_mv rfl rfl ?_
            refine to_gt rfl rfl ?_
            first | refine to_ix rfl rfl rfl (by first | omega | decide) (by first | omega | decide) rfl ?_ | refine to_ixi rfl rfl rfl (by omega) (by omega) (by omega) rfl ?_
            refine to_gt rfl rfl ?_
            first | refine to_fa rfl rfl rfl (by simp only [Nat.reduceAdd]; rfl) rfl ?_ | refine to_fae rfl rfl rfl (by simp only [Nat.reduceAdd]; rfl) rfl ?_
            refine to_gt rfl rfl ?_
            first | refine to_lds rfl rfl rfl ?_ | refine to_ldes rfl (by assumption) rfl rfl ?_
            refine to_gt rfl rfl ?_
            refine to_mv rfl rfl ?_
            refine to_gt rfl rfl ?_
            first | refine to_ix rfl rfl rfl (by first | omega | decide) (by first | omega | decide) rfl ?_ | refine to_ixi rfl rfl rfl (by omega) (by omega) (by omega) rfl ?_
            refine to_gt rfl rfl ?_
            first | refine to_lds rfl rfl rfl ?_ | refine to_ldes rfl (by assumption) rfl rfl ?_
            refine to_gt rfl rfl ?_
            refine to_geq rfl rfl rfl ?_
            refine to_gt rfl rfl ?_
            refine to_mv rfl rfl ?_
            refine to_gs rfl rfl rfl (fun h6 => ?_) (fun h6 => ?_)
            · try simp only [decide_eq_true_eq, decide_eq_false_iff_not, Bool.not_eq_true', Bool.not_eq_false', Int.not_lt, Int.not_le, ne_eq, Decidable.not_not] at h6
              try have h6b := inB_iff.1 h6
              refine to_gt rfl rfl ?_
              refine to_mv rfl rfl ?_
              refine to_gt rfl rfl ?_
              refine to_mv rfl rfl ?_
              refine to_gt rfl rfl ?_
              first | refine to_ix rfl rfl rfl (by first | omega | decide) (by first | omega | decide) rfl ?_ | refine to_ixi rfl rfl rfl (by omega) (by omega) (by omega) rfl ?_
              refine to_gt rfl rfl ?_
              first | refine to_lds rfl rfl rfl ?_ | refine to_ldes rfl (by assumption) rfl rfl ?_
              refine to_gt rfl rfl ?_
              refine to_mv rfl rfl ?_
              refine to_gt rfl rfl ?_
              first | refine to_ix rfl rfl rfl (by first | omega | decide) (by first | omega | decide) rfl ?_ | refine to_ixi rfl rfl rfl (by omega) (by omega) (by omega) rfl ?_
              refine to_gt rfl rfl ?_
              first | refine to_lds rfl rfl rfl ?_ | refine to_ldes rfl (by assumption) rfl rfl ?_
              refine to_gt rfl rfl ?_
              first | refine to_fa rfl rfl rfl (by simp only [Nat.reduceAdd]; rfl) rfl ?_ | refine to_fae rfl rfl rfl (by simp only [Nat.reduceAdd]; rfl) rfl ?_
              refine to_gt rfl rfl ?_
              first | refine to_lds rfl rfl rfl ?_ | refine to_ldes rfl (by assumption) rfl rfl ?_
              refine to_gt rfl rfl ?_
              refine to_mv rfl rfl ?_
              refine to_gt rfl rfl ?_
              first | refine to_ix rfl rfl rfl (by first | omega | decide) (by first | omega | decide) rfl ?_ | refine to_ixi rfl rfl rfl (by omega) (by omega) (by omega) rfl ?_
              refine to_gt rfl rfl ?_
              first | refine to_fa rfl rfl rfl (by simp only [Nat.reduceAdd]; rfl) rfl ?_ | refine to_fae rfl rfl rfl (by simp only [Nat.reduceAdd]; rfl) rfl ?_
              refine to_gt rfl rfl ?_
              first | refine to_lds rfl rfl rfl ?_ | refine to_ldes rfl (by assumption) rfl rfl ?_
              refine to_gt rfl rfl ?_
              refine to_mv rfl rfl ?_
              refine to_gt rfl rfl ?_
              first | refine to_ix rfl rfl rfl (by first | omega | decide) (by first | omega | decide) rfl ?_ | refine to_ixi rfl rfl rfl (by omega) (by omega) (by omega) rfl ?_
              refine to_gt rfl rfl ?_
              first | refine to_lds rfl rfl rfl ?_ | refine to_ldes rfl (by assumption) rfl rfl ?_
              refine to_gt rfl rfl ?_
              refine to_neq rfl rfl rfl ?_
              refine to_gt rfl rfl ?_
              refine to_pkT rfl rfl rfl ?_
              refine to_pkF rfl rfl rfl ?_
              refine to_nil ?_
              refine tn_code ?_
              refine t_if rfl (fun h7 => ?_) (fun h7 => ?_)
              · try simp only [decide_eq_true_eq, decide_eq_false_iff_not, Bool.not_eq_true', Bool.not_eq_false', Int.not_lt, Int.not_le, ne_eq, Decidable.not_not] at h7
                try have h7b := inB_iff.1 h7
                refine t_seq ?_
                refine t_reg ?_
                refine to_as rfl rfl ?_
                refine to_nil ?_
                refine tn_code ?_
                refine t_ret1 rfl rfl (res_tmp rfl) (fun w' s => ?_)
                first | (rw [isSt_n (by omega)]; done) | (rw [isSt_t (by omega) hall]; done) | (rw [isSt_f (by omega) ((rwOk_at hl hx).trans (ltOk_n (by omega)))]; done) | (rw [isSt_f (by omega) ((rwOk_at hl hx).trans (ltOk_f (p := q) (by omega) (by rw [hpt]; first | (simp_all [fitB]; done) | (simp [fitB]; omega) | (simp [fitB]; intros; omega) | (simp_all [fitB]; omega))))]; done)
              · try simp only [decide_eq_true_eq, decide_eq_false_iff_not, Bool.not_eq_true', Bool.not_eq_false', Int.not_lt, Int.not_le, ne_eq, Decidable.not_not] at h7
                try have h7b := inB_iff.1 h7
                refine t_skip ?_
                refine tn_blk ?_
                refine tn_code ?_
                refine t_reg ?_
                refine to_mv rfl rfl ?_
                refine to_add rfl rfl (by omega) rfl ?_
                refine to_as rfl rfl ?_
                refine to_nil ?_
                exact tn_loop2 (q + 1) [.own b2 (isC (trC pl cs ca cc) 24), .snap 0 w.heap.size w] (rfl) (⟨by omega, nat_succ hpq (by rw [hpt]; first | (simp_all [fitB]; done) | (simp_all [fitB]; omega))⟩) (by omega) (⟨rfl, rfl, rfl, rfl, trivial⟩)
            · try simp only [decide_eq_true_eq, decide_eq_false_iff_not, Bool.not_eq_true', Bool.not_eq_false', Int.not_lt, Int.not_le, ne_eq, Decidable.not_not] at h6
              try have h6b := inB_iff.1 h6
              refine to_gf rfl rfl rfl rfl ?_
              refine to_gf rfl rfl rfl rfl ?_
              refine to_gf rfl rfl rfl rfl ?_
              refine to_gf rfl rfl rfl rfl ?_
              refine to_gf rfl rfl rfl rfl ?_
              refine to_gf rfl rfl rfl rfl ?_
              refine to_gf rfl rfl rfl rfl ?_
              refine to_gf rfl rfl rfl rfl ?_
              refine to_gf rfl rfl rfl rfl ?_
              refine to_gf rfl rfl rfl rfl ?_
              refine to_gf rfl rfl rfl rfl ?_
              refine to_gf rfl rfl rfl rfl ?_
              refine to_gf rfl rfl rfl rfl ?_
              refine to_gf rfl rfl rfl rfl ?_
              refine to_gf rfl rfl rfl rfl ?_
              refine to_gf rfl rfl rfl rfl ?_
              refine to_gf rfl rfl rfl rfl ?_
              refine to_gt rfl rfl ?_
              refine to_pkF rfl rfl rfl ?_
              refine to_pkF rfl rfl rfl ?_
              refine to_nil ?_
              refine tn_code ?_
              refine t_ifF rfl ?_
              refine t_skip ?_
              refine tn_blk ?_
              refine tn_code ?_
              refine t_reg ?_
              refine to_mv rfl rfl ?_
              refine to_add rfl rfl (by omega) rfl ?_
              refine to_as rfl rfl ?_
              refine to_nil ?_
              exact tn_loop2 (q + 1) [.own b2 (isC (trC pl cs ca cc) 24), .snap 0 w.heap.size w] (rfl) (⟨by omega, nat_succ hpq (by rw [hpt]; first | (simp_all [fitB]; done) | (simp_all [fitB]; omega))⟩) (by omega) (⟨rfl, rfl, rfl, rfl, trivial⟩)
        · try simp only [decide_eq_true_eq, decide_eq_false_iff_not, Bool.not_eq_true', Bool.not_eq_false', Int.not_lt, Int.not_le, ne_eq, Decidable.not_not] at h4
          try have h4b := inB_iff.1 h4
          have hq2 : q = l.xs.length := by omega
          subst hq2
          refine t_exit ?_
          refine tx_code ?_
          refine tx_inv ?_
          refine tx_blk ?_
          refine tn_blk ?_
          refine tn_code ?_
          refine t_reg ?_
          refine to_mv rfl rfl ?_
          refine to_add rfl rfl (by omega) rfl ?_
          refine to_as rfl rfl ?_
          refine to_nil ?_
          exact tn_loop2 (k + 1) [.own b2 (isC (trC pl cs ca cc) 24), .snap 0 w.heap.size w] (rfl) (⟨by omega, nat_succ hall ((rwOk_at hl hx).trans (ltOk_t (by omega) hpq))⟩) (by omega) (⟨rfl, rfl, rfl, trivial⟩)
    · try simp only [decide_eq_true_eq, decide_eq_false_iff_not, Bool.not_eq_true', Bool.not_eq_false', Int.not_lt, Int.not_le, ne_eq, Decidable.not_not] at h2
      try have h2b := inB_iff.1 h2
      have hk2 : k = st.length := by omega
      subst hk2
      refine t_exit ?_
      refine tx_code ?_
      refine tx_inv ?_
      refine tx_blk ?_
      refine tn_code ?_
      refine t_seq ?_
      refine t_reg ?_
      refine to_as rfl rfl ?_
      refine to_nil ?_
      refine tn_code ?_
      refine t_ret1 rfl rfl (res_tmp rfl) (fun w' s => ?_)
      first | (rw [isSt_n (by omega)]; done) | (rw [isSt_t (by omega) hall]; done) | (rw [isSt_f (by omega) ((rwOk_at hl hx).trans (ltOk_n (by omega)))]; done) | (rw [isSt_f (by omega) ((rwOk_at hl hx).trans (ltOk_f (p := q) (by omega) (by rw [hpt]; first | (simp_all [fitB]; done) | (simp [fitB]; omega) | (simp [fitB]; intros; omega) | (simp_all [fitB]; omega))))]; done)

set_option maxRecDepth 20000 in
theorem cp_Errors (pl : Int) (cs : List Cp) (ca : Option Addr) (cc : Nat) (st : List Li) (sa : Option Addr) (sc : Nat) (m : Nat) (w : World) (hct : Ro w 0 w.heap.size ca cs.length cc 2 (cs.map cpC)) (hcs : ∀ x ∈ cs, 0 < x.s.length → Ro w 0 w.heap.size x.a x.s.length x.c 1 (ints x.s)) (hcl : cs.length ≤ 1000) (hst : Ro w 0 w.heap.size sa st.length sc 1 (st.map liC)) (hss : ∀ x ∈ st, 0 < x.xs.length → Ro w 0 w.heap.size x.a x.xs.length x.c 1 (ints x.xs)) (hsl : st.length ≤ 1000) (hT0 : isTr pl cs = true) (hS0 : isSt pl cs st = true) (hm : (m : Int) = pl) (hxl : ∀ x ∈ cs, x.s.length ≤ 1000000) : Calls Tryz.prog 8 #[trV pl cs ca cc, .slice sa st.length sc] w (Ret w (fun lo w1 v => ∃ a1 c1, v = .tuple #[.slice a1 (erA cs st m st.length).length c1, .int .i64 0] ∧ Ro w1 lo w1.heap.size a1 (erA cs st m st.length).length c1 2 (spans (erA cs st m st.length)))) := by
  have hT := isTr_b hT0
  have hS := isSt_b hS0
  have hmb : m ≤ 3 := by omega
  refine calls_T (av := [_, _]) Tryz.func8 rfl rfl rfl ?_
  refine t_seq ?_
  refine t_reg ?_
  refine to_box rfl rfl (fun b2 => ?_)
  refine to_as rfl rfl ?_
  refine to_as rfl rfl ?_
  refine to_nil ?_
  refine tn_code ?_
  refine t_seq ?_
  refine t_seq ?_
  refine t_reg ?_
  first | refine to_lda rfl rfl rfl ?_ | refine to_ldea rfl (by assumption) rfl rfl ?_
  refine to_call0 rfl rfl (fun w s => cp_isTree pl cs ca cc w (rdw s) (fun x hx h0 => by haveI := hcs x hx h0; exact rdw s) hcl hxl) rfl ?_
  refine to_fix (s := 12) (b' := true) rfl (hT0) ?_
  refine to_not rfl rfl ?_
  refine to_mv rfl rfl ?_
  refine to_gt rfl rfl ?_
  first | refine to_lda rfl rfl rfl ?_ | refine to_ldea rfl (by assumption) rfl rfl ?_
  refine to_gt rfl rfl ?_
  refine to_mv rfl rfl ?_
  refine to_gt rfl rfl ?_
  refine to_call0 rfl rfl (fun w s => cp_isStory pl cs ca cc st sa sc w (rdw s) (fun x hx h0 => by haveI := hcs x hx h0; exact rdw s) hcl (rdw s) (fun x hx h0 => by haveI := hss x hx h0; exact rdw s) hsl hT0) rfl ?_
  refine to_fix (s := 17) (b' := true) rfl (hS0) ?_
  refine to_gt rfl rfl ?_
  refine to_not rfl rfl ?_
  refine to_pkF rfl rfl rfl ?_
  refine to_nil ?_
  refine tn_code ?_
  refine t_ifF rfl ?_
  refine t_skip ?_
  refine tn_code ?_
  refine t_seq ?_
  refine t_reg ?_
  refine to_as rfl rfl ?_
  refine to_nil ?_
  refine tn_code ?_
  refine t_seq ?_
  refine t_seq ?_
  refine t_reg ?_
  refine to_mv rfl rfl ?_
  refine to_lenS rfl rfl ?_
  refine to_mv rfl rfl ?_
  refine to_nil ?_
  refine tn_code ?_
  refine t_blk ?_
  refine t_nilrow 41 2 ?_
  refine t_loop2 (ι := Nat × Option Addr × Nat) (fun ((k, a', c') : Nat × Option Addr × Nat) => k ≤ st.length) (fun ((k, a', c') : Nat × Option Addr × Nat) => [(1, .slice sa st.length sc), (2, (.pointer (some ⟨b2, 0, none⟩))), (6, .slice a' (erA cs st m k).length c'), (20, .slice sa st.length sc), (21, (.int .i64 (st.length : Int))), (22, (.int .i64 (k : Int)))]) (fun ((k, a', c') : Nat × Option Addr × Nat) => [.row a' (erA cs st m k).length c' 41 2 (spans (erA cs st m k)), .own b2 (isC (trC pl cs ca cc) 24), .snap 0 w.heap.size w]) (fun ((k, a', c') : Nat × Option Addr × Nat) => st.length - k) ((0, none, 0)) [.row none 0 0 41 2 [], .own b2 (isC (trC pl cs ca cc) 24), .snap 0 w.heap.size w] (rfl) (Nat.zero_le _) (⟨rfl, rfl, rfl, rfl, rfl, rfl, trivial⟩) ?_
  rintro ⟨k, a', c'⟩ hk
  try dsimp only at hk
  show T _ _ _ ⟨_, [(1, .slice sa st.length sc), (2, (.pointer (some ⟨b2, 0, none⟩))), (6, .slice a' (erA cs st m k).length c'), (20, .slice sa st.length sc), (21, (.int .i64 (st.length : Int))), (22, (.int .i64 (k : Int)))], _⟩ [.row a' (erA cs st m k).length c' 41 2 (spans (erA cs st m k)), .own b2 (isC (trC pl cs ca cc) 24), .snap 0 w.heap.size w]
  refine t_seq ?_
  refine t_reg ?_
  refine to_lss rfl rfl rfl ?_
  refine to_nil ?_
  refine tn_code ?_
  refine t_seq ?_
  refine t_if rfl (fun h1 => ?_) (fun h1 => ?_)
  · try simp only [decide_eq_true_eq, decide_eq_false_iff_not, Bool.not_eq_true', Bool.not_eq_false', Int.not_lt, Int.not_le, ne_eq, Decidable.not_not] at h1
    try have h1b := inB_iff.1 h1
    obtain ⟨l, hl⟩ := some_get (xs := st) (k := k) (by omega)
    have hlc := map_get (f := liC) hl
    have hrl := hss l (List.mem_of_getElem? hl)
    obtain ⟨x, hx⟩ := some_get (xs := cs) (k := k) (by omega)
    have hxc := map_get (f := cpC) hx
    have hrx := hcs x (List.mem_of_getElem? hx)
    have hxo := cpOk_b (hT.2.2 k x hx)
    have hll := (hS.2 k l x hl hx).1
    refine t_skip ?_
    refine tn_code ?_
    refine t_seq ?_
    refine t_blk ?_
    refine t_seq ?_
    refine t_reg ?_
    refine to_mv rfl rfl ?_
    first | refine to_ix rfl rfl rfl (by first | omega | decide) (by first | omega | decide) rfl ?_ | refine to_ixi rfl rfl rfl (by omega) (by omega) (by omega) rfl ?_
    first | refine to_lds rfl rfl rfl ?_ | refine to_ldes rfl (by assumption) rfl rfl ?_
    refine to_as rfl rfl ?_
    refine to_as rfl rfl ?_
    refine to_nil ?_
    refine tn_code ?_
    refine t_seq ?_
    refine t_reg ?_
    refine to_mv rfl rfl ?_
    refine to_lenS rfl rfl ?_
    refine to_mv rfl rfl ?_
    refine to_nil ?_
    refine tn_code ?_
    refine t_blk ?_
    refine t_loop2 (ι := Nat × Option Addr × Nat) (fun ((q, a', c') : Nat × Option Addr × Nat) => q ≤ m) (fun ((q, a', c') : Nat × Option Addr × Nat) => [(1, .slice sa st.length sc), (2, (.pointer (some ⟨b2, 0, none⟩))), (6, .slice a' (erA cs st m k ++ erR cs st k q).length c'), (20, .slice sa st.length sc), (21, (.int .i64 (st.length : Int))), (22, (.int .i64 (k : Int))), (7, (.int .i64 (k : Int))), (27, .slice l.a l.xs.length l.c), (28, (.int .i64 (l.xs.length : Int))), (29, (.int .i64 (q : Int)))]) (fun ((q, a', c') : Nat × Option Addr × Nat) => [.row a' (erA cs st m k ++ erR cs st k q).length c' 41 2 (spans (erA cs st m k ++ erR cs st k q)), .own b2 (isC (trC pl cs ca cc) 24), .snap 0 w.heap.size w]) (fun ((q, a', c') : Nat × Option Addr × Nat) => m - q) ((0, a', c')) [.row a' (erA cs st m k).length c' 41 2 (spans (erA cs st m k)), .own b2 (isC (trC pl cs ca cc) 24), .snap 0 w.heap.size w] (by simp [erR]) (Nat.zero_le _) (⟨rfl, rfl, congrArg some (by simp [erR]), rfl, rfl, rfl, rfl, rfl, rfl, rfl, trivial⟩) ?_
    rintro ⟨q, a', c'⟩ hk
    try dsimp only at hk
    show T _ _ _ ⟨_, [(1, .slice sa st.length sc), (2, (.pointer (some ⟨b2, 0, none⟩))), (6, .slice a' (erA cs st m k ++ erR cs st k q).length c'), (20, .slice sa st.length sc), (21, (.int .i64 (st.length : Int))), (22, (.int .i64 (k : Int))), (7, (.int .i64 (k : Int))), (27, .slice l.a l.xs.length l.c), (28, (.int .i64 (l.xs.length : Int))), (29, (.int .i64 (q : Int)))], _⟩ [.row a' (erA cs st m k ++ erR cs st k q).length c' 41 2 (spans (erA cs st m k ++ erR cs st k q)), .own b2 (isC (trC pl cs ca cc) 24), .snap 0 w.heap.size w]
    refine t_seq ?_
    refine t_reg ?_
    refine to_lss rfl rfl rfl ?_
    refine to_nil ?_
    refine tn_code ?_
    refine t_seq ?_
    refine t_if rfl (fun h2 => ?_) (fun h2 => ?_)
    · try simp only [decide_eq_true_eq, decide_eq_false_iff_not, Bool.not_eq_true', Bool.not_eq_false', Int.not_lt, Int.not_le, ne_eq, Decidable.not_not] at h2
      try have h2b := inB_iff.1 h2
      obtain ⟨n, hn⟩ := some_get (xs := l.xs) (k := q) (by omega)
      have hxn := map_get (f := intC) hn
      have hrl1 := hrl (by omega)
      have hel := erA_len cs st m k
      have hel2 := erR_len cs st k q
      have hmk : m * k ≤ 3 * 8 := Nat.mul_le_mul hmb (by omega)
      have hal : (erA cs st m k ++ erR cs st k q).length ≤ 100 := by rw [List.length_append]; omega
      refine t_skip ?_
      refine tn_code ?_
      refine t_seq ?_
      refine t_blk ?_
      refine t_seq ?_
      refine t_reg ?_
      refine to_mv rfl rfl ?_
      first | refine to_ix rfl rfl rfl (by first | omega | decide) (by first | omega | decide) rfl ?_ | refine to_ixi rfl rfl rfl (by omega) (by omega) (by omega) rfl ?_
      first | refine to_lds rfl rfl rfl ?_ | refine to_ldes rfl (by assumption) rfl rfl ?_
      refine to_as rfl rfl ?_
      refine to_as rfl rfl ?_
      refine to_nil ?_
      refine tn_code ?_
      refine t_seq ?_
      refine t_reg ?_
      refine to_mv rfl rfl ?_
      refine to_gtr rfl rfl rfl ?_
      refine to_mv rfl rfl ?_
      refine to_gs rfl rfl rfl (fun h3 => ?_) (fun h3 => ?_)
      · try simp only [decide_eq_true_eq, decide_eq_false_iff_not, Bool.not_eq_true', Bool.not_eq_false', Int.not_lt, Int.not_le, ne_eq, Decidable.not_not] at h3
        try have h3b := inB_iff.1 h3
        obtain ⟨lp, hlp⟩ := some_get (xs := st) (k := x.p.toNat) (by omega)
        have hlpc := map_get (f := liC) hlp
        obtain ⟨xp, hxp⟩ := some_get (xs := cs) (k := x.p.toNat) (by omega)
        have hlpl := (hS.2 _ lp xp hlp hxp).1
        obtain ⟨np, hnp⟩ := some_get (xs := lp.xs) (k := q) (by omega)
        have hxnp := map_get (f := intC) hnp
        have hrlp := hss lp (List.mem_of_getElem? hlp) (by omega)
        have hbq := bad_at (by omega) hl hx hlp hn hnp
        refine to_gt rfl rfl ?_
        refine to_mv rfl rfl ?_
        refine to_gt rfl rfl ?_
        refine to_mv rfl rfl ?_
        refine to_gt rfl rfl ?_
        first | refine to_fa rfl rfl rfl (by simp only [Nat.reduceAdd]; rfl) rfl ?_ | refine to_fae rfl rfl rfl (by simp only [Nat.reduceAdd]; rfl) rfl ?_
        refine to_gt rfl rfl ?_
        first | refine to_lds rfl rfl rfl ?_ | refine to_ldes rfl (by assumption) rfl rfl ?_
        refine to_gt rfl rfl ?_
        refine to_mv rfl rfl ?_
        refine to_gt rfl rfl ?_
        first | refine to_ix rfl rfl rfl (by first | omega | decide) (by first | omega | decide) rfl ?_ | refine to_ixi rfl rfl rfl (by omega) (by omega) (by omega) rfl ?_
        refine to_gt rfl rfl ?_
        first | refine to_fa rfl rfl rfl (by simp only [Nat.reduceAdd]; rfl) rfl ?_ | refine to_fae rfl rfl rfl (by simp only [Nat.reduceAdd]; rfl) rfl ?_
        refine to_gt rfl rfl ?_
        first | refine to_lds rfl rfl rfl ?_ | refine to_ldes rfl (by assumption) rfl rfl ?_
        refine to_gt rfl rfl ?_
        first | refine to_ix rfl rfl rfl (by first | omega | decide) (by first | omega | decide) rfl ?_ | refine to_ixi rfl rfl rfl (by omega) (by omega) (by omega) rfl ?_
        refine to_gt rfl rfl ?_
        first | refine to_lds rfl rfl rfl ?_ | refine to_ldes rfl (by assumption) rfl rfl ?_
        refine to_gt rfl rfl ?_
        refine to_mv rfl rfl ?_
        refine to_gt rfl rfl ?_
        first | refine to_ix rfl rfl rfl (by first | omega | decide) (by first | omega | decide) rfl ?_ | refine to_ixi rfl rfl rfl (by omega) (by omega) (by omega) rfl ?_
        refine to_gt rfl rfl ?_
        first | refine to_lds rfl rfl rfl ?_ | refine to_ldes rfl (by assumption) rfl rfl ?_
        refine to_gt rfl rfl ?_
        refine to_neq rfl rfl rfl ?_
        refine to_pkT rfl rfl rfl ?_
        refine to_nil ?_
        refine tn_code ?_
        refine t_if rfl (fun h4 => ?_) (fun h4 => ?_)
        · try simp only [decide_eq_true_eq, decide_eq_false_iff_not, Bool.not_eq_true', Bool.not_eq_false', Int.not_lt, Int.not_le, ne_eq, Decidable.not_not] at h4
          try have h4b := inB_iff.1 h4
          have hne := h4
          refine t_reg ?_
          refine to_mv rfl rfl ?_
          refine to_mv rfl rfl ?_
          refine to_mv rfl rfl ?_
          refine to_bs rfl rfl ?_
          refine to_bsl rfl rfl rfl rfl (fun a56 => ?_)
          refine to_app rfl rfl rfl (by simp [scals, scal]) (by decide) (by omega) (by decide) rfl (fun a57 c57 => ?_)
          refine to_as rfl rfl ?_
          refine to_nil ?_
          refine tn_blk ?_
          refine tn_code ?_
          refine t_reg ?_
          refine to_add rfl rfl (by omega) rfl ?_
          refine to_mv rfl rfl ?_
          refine to_nil ?_
          exact tn_loop2 ((q + 1, a57, c57)) [.row a57 ((erA cs st m k ++ erR cs st k q).length + 1) c57 41 2 (spans (erA cs st m k ++ erR cs st k q) ++ [[.int .i64 (k : Int), .int .i64 (q : Int)]]), .own b2 (isC (trC pl cs ca cc) 24), .snap 0 w.heap.size w] (by dsimp only; rw [erR_t (by rw [hbq]; simpa using hne)]; simp [Nat.add_assoc]) (by dsimp only; omega) (by dsimp only; omega) (⟨rfl, rfl, congrArg some (by rw [erR_t (by rw [hbq]; simpa using hne)]; simp [Nat.add_assoc]), rfl, rfl, rfl, rfl, rfl, rfl, rfl, trivial⟩)
        · try simp only [decide_eq_true_eq, decide_eq_false_iff_not, Bool.not_eq_true', Bool.not_eq_false', Int.not_lt, Int.not_le, ne_eq, Decidable.not_not] at h4
          try have h4b := inB_iff.1 h4
          have hne := h4
          refine t_skip ?_
          refine tn_blk ?_
          refine tn_code ?_
          refine t_reg ?_
          refine to_add rfl rfl (by omega) rfl ?_
          refine to_mv rfl rfl ?_
          refine to_nil ?_
          exact tn_loop2 ((q + 1, a', c')) [.row a' (erA cs st m k ++ erR cs st k q).length c' 41 2 (spans (erA cs st m k ++ erR cs st k q)), .own b2 (isC (trC pl cs ca cc) 24), .snap 0 w.heap.size w] (by dsimp only; rw [erR_f (by rw [hbq]; simpa using hne)]) (by dsimp only; omega) (by dsimp only; omega) (⟨rfl, rfl, congrArg some (by rw [erR_f (by rw [hbq]; simpa using hne)]), rfl, rfl, rfl, rfl, rfl, rfl, rfl, trivial⟩)
      · try simp only [decide_eq_true_eq, decide_eq_false_iff_not, Bool.not_eq_true', Bool.not_eq_false', Int.not_lt, Int.not_le, ne_eq, Decidable.not_not] at h3
        try have h3b := inB_iff.1 h3
        refine to_gf rfl rfl rfl rfl ?_
        refine to_gf rfl rfl rfl rfl ?_
        refine to_gf rfl rfl rfl rfl ?_
        refine to_gf rfl rfl rfl rfl ?_
        refine to_gf rfl rfl rfl rfl ?_
        refine to_gf rfl rfl rfl rfl ?_
        refine to_gf rfl rfl rfl rfl ?_
        refine to_gf rfl rfl rfl rfl ?_
        refine to_gf rfl rfl rfl rfl ?_
        refine to_gf rfl rfl rfl rfl ?_
        refine to_gf rfl rfl rfl rfl ?_
        refine to_gf rfl rfl rfl rfl ?_
        refine to_gf rfl rfl rfl rfl ?_
        refine to_gf rfl rfl rfl rfl ?_
        refine to_pkF rfl rfl rfl ?_
        refine to_nil ?_
        refine tn_code ?_
        refine t_ifF rfl ?_
        refine t_skip ?_
        refine tn_blk ?_
        refine tn_code ?_
        refine t_reg ?_
        refine to_add rfl rfl (by omega) rfl ?_
        refine to_mv rfl rfl ?_
        refine to_nil ?_
        exact tn_loop2 ((q + 1, a', c')) [.row a' (erA cs st m k ++ erR cs st k q).length c' 41 2 (spans (erA cs st m k ++ erR cs st k q)), .own b2 (isC (trC pl cs ca cc) 24), .snap 0 w.heap.size w] (by dsimp only; rw [erR_f (bad_0 (by omega))]) (by dsimp only; omega) (by dsimp only; omega) (⟨rfl, rfl, congrArg some (by rw [erR_f (bad_0 (by omega))]), rfl, rfl, rfl, rfl, rfl, rfl, rfl, trivial⟩)
    · try simp only [decide_eq_true_eq, decide_eq_false_iff_not, Bool.not_eq_true', Bool.not_eq_false', Int.not_lt, Int.not_le, ne_eq, Decidable.not_not] at h2
      try have h2b := inB_iff.1 h2
      have hq2 : m = q := by omega
      subst hq2
      refine t_exit ?_
      refine tx_code ?_
      refine tx_inv ?_
      refine tx_blk ?_
      refine tn_blk ?_
      refine tn_code ?_
      refine t_reg ?_
      refine to_add rfl rfl (by omega) rfl ?_
      refine to_mv rfl rfl ?_
      refine to_nil ?_
      exact tn_loop2 ((k + 1, a', c')) [.row a' (erA cs st m k ++ erR cs st k m).length c' 41 2 (spans (erA cs st m k ++ erR cs st k m)), .own b2 (isC (trC pl cs ca cc) 24), .snap 0 w.heap.size w] (rfl) (by dsimp only; omega) (by dsimp only; omega) (⟨rfl, rfl, rfl, rfl, rfl, rfl, trivial⟩)
  · try simp only [decide_eq_true_eq, decide_eq_false_iff_not, Bool.not_eq_true', Bool.not_eq_false', Int.not_lt, Int.not_le, ne_eq, Decidable.not_not] at h1
    try have h1b := inB_iff.1 h1
    have hk2 : k = st.length := by omega
    subst hk2
    refine t_exit ?_
    refine tx_code ?_
    refine tx_inv ?_
    refine tx_blk ?_
    refine tn_code ?_
    refine t_seq ?_
    refine t_reg ?_
    refine to_mv rfl rfl ?_
    refine to_as rfl rfl ?_
    refine to_as rfl rfl ?_
    refine to_nil ?_
    refine tn_code ?_
    refine t_ret2 rfl rfl (res_tmp rfl) (res_tmp rfl) (fun w' s => ?_)
    exact ⟨a', c', rfl, ro_row s⟩

end Go.Proofs

