/- RoundNearest: for every input the law returns true, and each argument reads behind the call as it read before. Conditions: the package-level variables that the row lists hold what the program's text lays (tied by the card). -/
import Derived.Test.YtebellbkmioadaaGreatDoorOwnC
import Derived.Test.YtebellbkmioadaaGreatDoorOwnF
import Derived.LaidOnce
import Derived.SevenTiedAt
import Derived.Test.YtebellbkmioadaaGreatDoorTie
import Derived.Test.YtebellbkmioadaaGreatDoorCards
set_option linter.unusedVariables false
set_option linter.unusedSimpArgs false
namespace Go.Proofs
open Go Go.Sx

/-! # Plain laws of round: rounding -/

theorem toF_step {u r v : Int} (hu : 1 ≤ u) : toF u r (v + 1) ≤ toF u r v + 1 := by
  have hu0 : 0 < u := by omega
  have hne : u ≠ 0 := by omega
  have e1 : (v + u) / u = v / u + 1 := by
    have := Int.add_mul_ediv_right v 1 hne
    rwa [Int.one_mul] at this
  have e2 : (-(v + 1) + u) / u = -(v + 1) / u + 1 := by
    have := Int.add_mul_ediv_right (-(v + 1)) 1 hne
    rwa [Int.one_mul] at this
  have e3 : (2 * v + u + 2 * u) / (2 * u) = (2 * v + u) / (2 * u) + 1 := by
    have := Int.add_mul_ediv_right (2 * v + u) 1 (show 2 * u ≠ 0 by omega)
    rwa [Int.one_mul] at this
  have h1 := ediv_mono hu0 (show v + 1 ≤ v + u by omega)
  have h2 := ediv_mono hu0 (show -v ≤ -(v + 1) + u by omega)
  have h3 := ediv_mono (show 0 < 2 * u by omega) (show 2 * (v + 1) + u ≤ 2 * v + u + 2 * u by omega)
  unfold toF
  split
  · omega
  split
  · omega
  split
  · omega
  have hb := ediv_bd (2 * v + u) (show 0 < 2 * u by omega)
  have hb2 := ediv_bd (2 * (v + 1) + u) (show 0 < 2 * u by omega)
  generalize (2 * v + u) / (2 * u) = p at *
  generalize (2 * (v + 1) + u) / (2 * u) = q at *
  rw [e3] at h3
  by_cases ht : 2 * v + u = 2 * u * p ∧ p % 2 ≠ 0
  · rw [if_pos ht]
    have hpu : p * (2 * u) = 2 * u * p := Int.mul_comm _ _
    by_cases hq : q ≤ p
    · split <;> omega
    · have e5 : q = p + 1 := by omega
      subst e5
      have e4 : (p + 1) * (2 * u) = 2 * u * p + 2 * u := by rw [Int.add_mul, hpu, Int.one_mul]
      have hu1 : u = 1 := by omega
      subst hu1
      omega
  · rw [if_neg ht]
    split <;> omega
theorem toF_hit {u r a : Int} (hu : 1 ≤ u) : ∀ (n : Nat) {y : Int}, toF u r a ≤ y → y ≤ toF u r (a + n) → ∃ k : Nat, k ≤ n ∧ toF u r (a + k) = y
  | 0, y, h1, h2 => ⟨0, Nat.le_refl _, by
    have h3 : a + ((0 : Nat) : Int) = a := by omega
    rw [h3] at h2 ⊢; omega⟩
  | n + 1, y, h1, h2 => by
    by_cases h : y ≤ toF u r (a + n)
    · obtain ⟨k, hk, he⟩ := toF_hit hu n h1 h
      exact ⟨k, by omega, he⟩
    · have h3 := toF_step (r := r) (v := a + n) hu
      have e : a + ((n + 1 : Nat) : Int) = a + n + 1 := by omega
      rw [e] at h2
      exact ⟨n + 1, Nat.le_refl _, by rw [e]; omega⟩
theorem toF_mul {u r : Int} (k : Int) (hu : 1 ≤ u) : toF u r (k * u) = k := by
  have hne : u ≠ 0 := by omega
  have e1 : k * u / u = k := Int.mul_ediv_cancel _ hne
  have e2 : -(k * u) / u = -k := by rw [← Int.neg_mul]; exact Int.mul_ediv_cancel _ hne
  have e4 : k * (2 * u) = 2 * (k * u) := by rw [Int.mul_left_comm]
  have e3 : (2 * (k * u) + u) / (2 * u) = k := ediv_uniq (by omega) (by omega) (by omega)
  unfold toF
  rw [e1, e2, e3]
  have e5 : 2 * u * k = 2 * (k * u) := by rw [Int.mul_assoc, Int.mul_comm u k]
  split
  · rfl
  split
  · omega
  split
  · rfl
  · rw [if_neg]; omega
theorem toF_bB {u r v B : Int} (hu : 1 ≤ u) (hB : 0 ≤ B) (hv : -B ≤ v ∧ v ≤ B) : -B ≤ toF u r v ∧ toF u r v ≤ B := by
  have h1 : B * 1 ≤ B * u := Int.mul_le_mul_of_nonneg_left hu hB
  have h2 := toF_mono (r := r) hu (show v ≤ B * u by omega)
  have h3 := toF_mono (r := r) hu (show -B * u ≤ v by rw [Int.neg_mul]; omega)
  rw [toF_mul _ hu] at h2 h3
  exact ⟨h3, h2⟩

/-- How far a rounded value is away. -/
theorem far_down {u v : Int} (hu : 1 ≤ u) : 0 ≤ v - toF u 1 v * u ∧ v - toF u 1 v * u < u := by
  have := ediv_bd v (u := u) (by omega)
  simp only [toF, if_true]; omega
theorem far_up {u v : Int} (hu : 1 ≤ u) : v - toF u 2 v * u ≤ 0 ∧ -u < v - toF u 2 v * u := by
  have := ediv_bd (-v) (u := u) (by omega)
  simp only [toF, show ¬ ((2 : Int) = 1) from by decide, if_false, if_true, Int.neg_mul]; omega
theorem far_near {u v : Int} (hu : 1 ≤ u) : -u ≤ 2 * (v - toF u 3 v * u) ∧ 2 * (v - toF u 3 v * u) < u := by
  have h := ediv_bd (2 * v + u) (u := 2 * u) (by omega)
  have e : (2 * v + u) / (2 * u) * (2 * u) = 2 * ((2 * v + u) / (2 * u) * u) := by rw [Int.mul_left_comm]
  simp only [toF, show ¬ ((3 : Int) = 1) from by decide, show ¬ ((3 : Int) = 2) from by decide, if_false, if_true]; omega
theorem far_even {u v : Int} (hu : 1 ≤ u) : (-u ≤ 2 * (v - toF u 4 v * u) ∧ 2 * (v - toF u 4 v * u) ≤ u) ∧ (2 * (v - toF u 4 v * u) = u ∨ -(2 * (v - toF u 4 v * u)) = u → toF u 4 v % 2 = 0) := by
  have h := ediv_bd (2 * v + u) (u := 2 * u) (by omega)
  have e : (2 * v + u) / (2 * u) * (2 * u) = 2 * ((2 * v + u) / (2 * u) * u) := by rw [Int.mul_left_comm]
  have e2 : 2 * u * ((2 * v + u) / (2 * u)) = 2 * ((2 * v + u) / (2 * u) * u) := by rw [Int.mul_comm, e]
  have e3 : ((2 * v + u) / (2 * u) - 1) * u = (2 * v + u) / (2 * u) * u - u := by rw [Int.sub_mul, Int.one_mul]
  simp only [toF, show ¬ ((4 : Int) = 1) from by decide, show ¬ ((4 : Int) = 2) from by decide, show ¬ ((4 : Int) = 3) from by decide, if_false]
  split
  · rename_i hc
    rw [e3]
    rw [e2] at hc
    generalize (2 * v + u) / (2 * u) = p at *
    omega
  · rename_i hc
    rw [e2] at hc
    generalize (2 * v + u) / (2 * u) = p at *
    omega

/-! ## Numbers behind a figure -/

theorem fig_mono {sh : Sh} {v w : Int} (hs : isSh sh = true) (h : v ≤ w) : fig sh v ≤ fig sh w := toF_mono (isSh_b hs).1.1 h
theorem fig_hit {sh : Sh} (hs : isSh sh = true) {a b y : Int} (hab : a ≤ b) (h1 : fig sh a ≤ y) (h2 : y ≤ fig sh b) : ∃ n, a ≤ n ∧ n ≤ b ∧ fig sh n = y := by
  obtain ⟨k, hk⟩ := Int.eq_ofNat_of_zero_le (show 0 ≤ b - a by omega)
  have e : b = a + k := by omega
  subst e
  obtain ⟨j, hj, he⟩ := toF_hit (r := sh.rule) (isSh_b hs).1.1 k h1 h2
  exact ⟨a + j, by omega, by omega, he⟩

/-! ## Lists that lie on a map from one place on -/

def SeqOk (L : List Sp) (lo : Int) (G : Int → Option Sp) : Prop := ∀ k, G k = if lo ≤ k ∧ k < lo + L.length then L[(k - lo).toNat]? else none
theorem seq_in {L : List Sp} {lo : Int} {G : Int → Option Sp} (h : SeqOk L lo G) {j : Nat} {v : Sp} (hj : L[j]? = some v) : G (lo + j) = some v := by
  have := (List.getElem?_eq_some_iff.1 hj).1
  rw [h, if_pos (by omega), show (lo + (j : Int) - lo).toNat = j by omega, hj]
theorem seq_some {L : List Sp} {lo : Int} {G : Int → Option Sp} (h : SeqOk L lo G) {k : Int} {v : Sp} (hk : G k = some v) : ∃ j : Nat, k = lo + j ∧ L[j]? = some v := by
  rw [h] at hk
  split at hk
  · exact ⟨(k - lo).toNat, by omega, hk⟩
  · cases hk
theorem mgO_isSome (a b : Option Sp) : (mgO a b).isSome = (a.isSome || b.isSome) := by cases a <;> cases b <;> rfl
theorem shO_isSome (a : Option Sp) (f : Int) : (shO a f).isSome = a.isSome := by cases a <;> rfl
theorem stepO_some {F : Int → Int} {G : Int → Option Sp} {k : Int} : ∀ {P : List Int}, (stepO F G P k).isSome = P.any fun n => (G (k - n)).isSome := by
  have key : ∀ (P : List Int) (o : Option Sp), (P.foldl (fun o n => mgO o (shO (G (k - n)) (F n))) o).isSome = (o.isSome || P.any fun n => (G (k - n)).isSome) := by
    intro P
    induction P with
    | nil => intro o; simp
    | cons n P ih => intro o; rw [List.foldl_cons, ih, mgO_isSome, shO_isSome, List.any_cons, Bool.or_assoc]
  intro P
  rw [stepO, key]; rfl
theorem seq_isSome {L : List Sp} {lo : Int} {G : Int → Option Sp} (h : SeqOk L lo G) (k : Int) : (G k).isSome = decide (lo ≤ k ∧ k < lo + L.length) := by
  rw [h]
  by_cases hc : lo ≤ k ∧ k < lo + L.length
  · rw [if_pos hc, decide_eq_true hc]
    obtain ⟨v, hv⟩ := some_get (xs := L) (k := (k - lo).toNat) (by omega)
    rw [hv]; rfl
  · rw [if_neg hc, decide_eq_false hc]; rfl
/-- One more row of sums. -/
theorem seq_step {F : Int → Int} {e r : Int} (he : 0 ≤ e) {L L2 : List Sp} {lo : Int} {G : Int → Option Sp} (h : SeqOk L lo G) (h1 : 1 ≤ L.length) (hl : (L2.length : Int) = L.length + 2 * e)
    (hall : ∀ j : Nat, j < L2.length → L2[j]? = stepO F G (exL e r) (lo + (r - e) + j)) : SeqOk L2 (lo + (r - e)) (stepO F G (exL e r)) := by
  intro k
  by_cases hc : lo + (r - e) ≤ k ∧ k < lo + (r - e) + L2.length
  · rw [if_pos hc, hall _ (by omega)]
    congr 1; omega
  · rw [if_neg hc]
    have h2 : (stepO F G (exL e r) k).isSome = false := by
      rw [stepO_some, List.any_eq_false]
      intro n hn
      have := (mem_exL he).1 hn
      rw [seq_isSome h]
      simp only [decide_eq_true_eq]
      omega
    cases hq : stepO F G (exL e r) k with
    | none => rfl
    | some v => rw [hq] at h2; cases h2
theorem seq_full {F : Int → Int} {e r : Int} (he : 0 ≤ e) {L : List Sp} {lo : Int} {G : Int → Option Sp} (h : SeqOk L lo G) (h1 : 1 ≤ L.length) {j : Nat} (hj : (j : Int) < L.length + 2 * e) : ∃ v, stepO F G (exL e r) (lo + (r - e) + j) = some v := by
  refine Option.isSome_iff_exists.1 ?_
  rw [stepO_some, List.any_eq_true]
  by_cases hc : (j : Int) ≤ 2 * e
  · refine ⟨r - e + j, (mem_exL he).2 (by omega), ?_⟩
    rw [seq_isSome h]; simp only [decide_eq_true_eq]; omega
  · refine ⟨r + e, (mem_exL he).2 (by omega), ?_⟩
    rw [seq_isSome h]; simp only [decide_eq_true_eq]; omega
theorem mgO_sh (a b : Option Sp) (f : Int) : mgO (shO a f) (shO b f) = shO (mgO a b) f := by
  cases a <;> cases b <;> simp only [shO, mgO, Option.map_some, Option.map_none] <;> congr 1
  apply Prod.ext <;> simp only <;> omega
theorem shO_shO (a : Option Sp) (f g : Int) : shO (shO a f) g = shO a (f + g) := by
  cases a <;> simp only [shO, Option.map_some, Option.map_none]
  congr 1; apply Prod.ext <;> simp only <;> omega
/-- A map that is shifted. -/
def shM (G : Int → Option Sp) (c f : Int) : Int → Option Sp := fun k => shO (G (k - c)) f
theorem stepO_shM (F : Int → Int) (G : Int → Option Sp) (c f : Int) (P : List Int) : stepO F (shM G c f) P = shM (stepO F G P) c f := by
  funext k
  have key : ∀ (P : List Int) (o : Option Sp), P.foldl (fun o n => mgO o (shO (shM G c f (k - n)) (F n))) (shO o f) = shO (P.foldl (fun o n => mgO o (shO (G (k - c - n)) (F n))) o) f := by
    intro P
    induction P with
    | nil => intro o; rfl
    | cons n P ih =>
      intro o
      rw [List.foldl_cons, List.foldl_cons, ← ih]
      congr 1
      simp only [shM]
      rw [show k - n - c = k - c - n by omega, shO_shO, Int.add_comm f, ← shO_shO, mgO_sh]
  exact key P none
/-- What the reference's sums lie on: truths that begin with some numbers. -/
def sumP (F : Int → Int) (e : Int) (now rows : List Int) : Int → Option Sp := shM (sumO F e rows) (sumI now) (figO F now)
theorem sumP_snoc (F : Int → Int) (e : Int) (now rows : List Int) (r : Int) : sumP F e now (rows ++ [r]) = stepO F (sumP F e now rows) (exL e r) := by
  rw [sumP, sumO_snoc, sumP, stepO_shM]
theorem sumP_nil (F : Int → Int) (e : Int) (now : List Int) : SeqOk [(figO F now, figO F now)] (sumI now) (sumP F e now []) := by
  intro k
  show shO (O0 (k - sumI now)) (figO F now) = _
  by_cases hc : k = sumI now
  · subst hc
    rw [if_pos (by simp; omega)]
    simp [O0, shO]
  · rw [if_neg (by simp; omega), O0, if_neg (by omega)]; rfl
theorem sumP_isE {F : Int → Int} {e : Int} (he : 0 ≤ e) (now rows : List Int) (k : Int) : IsE (fun x => ∃ t, truK e rows t = true ∧ sumI (now ++ t) = k ∧ figO F (now ++ t) = x) (sumP F e now rows k) := by
  refine isE_congr (isE_sh (figO F now) (sumO_isE (F := F) he rows (k - sumI now))) fun x => ?_
  constructor
  · rintro ⟨t, h1, h2, h3⟩
    exact ⟨t, h1, by rw [sumI_app]; omega, by rw [figO_app]; omega⟩
  · rintro ⟨t, h1, h2, h3⟩
    rw [sumI_app] at h2; rw [figO_app] at h3
    exact ⟨t, h1, by omega, by omega⟩
/-- What a total's difference can be, by truths that begin with some numbers. -/
theorem sumP_ends {F : Int → Int} {e : Int} (he : 0 ≤ e) (now rows : List Int) (of : Int → Int → Int) (hm : ∀ k a b, a ≤ b → of k a ≤ of k b) {L : List Sp} {lo : Int} (hL : SeqOk L lo (sumP F e now rows)) {z : Sp}
    (hz : IsE (fun x => ∃ (j : Nat) (v : Sp), L[j]? = some v ∧ (x = of (lo + j) v.1 ∨ x = of (lo + j) v.2)) (some z)) : IsE (fun x => ∃ t, truK e rows t = true ∧ of (sumI (now ++ t)) (figO F (now ++ t)) = x) (some z) := by
  have hG := sumP_isE (F := F) he now rows
  have at_ : ∀ t, truK e rows t = true → ∃ (j : Nat) (v : Sp), L[j]? = some v ∧ sumI (now ++ t) = lo + j ∧ v.1 ≤ figO F (now ++ t) ∧ figO F (now ++ t) ≤ v.2 := fun t ht => by
    have := hG (sumI (now ++ t))
    cases hq : sumP F e now rows (sumI (now ++ t)) with
    | none => rw [hq] at this; exact absurd ⟨t, ht, rfl, rfl⟩ (this _)
    | some v =>
      rw [hq] at this
      obtain ⟨j, h1, h2⟩ := seq_some hL hq
      exact ⟨j, v, h2, h1, this.2.2 _ ⟨t, ht, rfl, rfl⟩⟩
  have tr_ : ∀ (j : Nat) (v : Sp), L[j]? = some v → (∃ t, truK e rows t = true ∧ of (sumI (now ++ t)) (figO F (now ++ t)) = of (lo + j) v.1) ∧ (∃ t, truK e rows t = true ∧ of (sumI (now ++ t)) (figO F (now ++ t)) = of (lo + j) v.2) := fun j v hj => by
    have := hG (lo + j)
    rw [seq_in hL hj] at this
    obtain ⟨⟨t1, c1, c2, c3⟩, ⟨t2, d1, d2, d3⟩, _⟩ := this
    exact ⟨⟨t1, c1, by rw [c2, c3]⟩, ⟨t2, d1, by rw [d2, d3]⟩⟩
  obtain ⟨⟨j1, v1, a1, a2⟩, ⟨j2, v2, b1, b2⟩, h3⟩ := hz
  refine ⟨?_, ?_, ?_⟩
  · rcases a2 with a2 | a2
    · obtain ⟨t, h1, h2⟩ := (tr_ _ _ a1).1; exact ⟨t, h1, h2.trans a2.symm⟩
    · obtain ⟨t, h1, h2⟩ := (tr_ _ _ a1).2; exact ⟨t, h1, h2.trans a2.symm⟩
  · rcases b2 with b2 | b2
    · obtain ⟨t, h1, h2⟩ := (tr_ _ _ b1).1; exact ⟨t, h1, h2.trans b2.symm⟩
    · obtain ⟨t, h1, h2⟩ := (tr_ _ _ b1).2; exact ⟨t, h1, h2.trans b2.symm⟩
  · rintro x ⟨t, ht, rfl⟩
    obtain ⟨j, v, h1, h2, h4, h5⟩ := at_ t ht
    rw [h2]
    have e1 := h3 _ ⟨j, v, h1, .inl rfl⟩
    have e2 := h3 _ ⟨j, v, h1, .inr rfl⟩
    have e3 := hm (lo + j) _ _ h4
    have e4 := hm (lo + j) _ _ h5
    omega
/-- The least and the greatest of pairs, walked. -/
def accK (A : Nat → Sp) : Nat → Sp
  | 0 => A 0
  | k + 1 => (min (accK A k).1 (A k).1, max (accK A k).2 (A k).2)
theorem accK_ends {A : Nat → Sp} (hA : ∀ j, (A j).1 ≤ (A j).2) : ∀ {n : Nat}, 1 ≤ n → IsE (fun x => ∃ j : Nat, j < n ∧ (x = (A j).1 ∨ x = (A j).2)) (some (accK A n))
  | 0, h => absurd h (by decide)
  | 1, _ => by
    have h0 : accK A 1 = A 0 := by
      simp only [accK]; apply Prod.ext <;> simp
    rw [h0]
    refine ⟨⟨0, by decide, .inl rfl⟩, ⟨0, by decide, .inr rfl⟩, ?_⟩
    rintro x ⟨j, hj, hx⟩
    have : j = 0 := by omega
    subst this
    have := hA 0
    omega
  | n + 2, _ => by
    have ih := accK_ends hA (n := n + 1) (by omega)
    generalize hz : accK A (n + 1) = z at ih
    have e : accK A (n + 2) = (min z.1 (A (n + 1)).1, max z.2 (A (n + 1)).2) := by rw [← hz]; rfl
    rw [e]
    obtain ⟨⟨j1, a1, a2⟩, ⟨j2, b1, b2⟩, h3⟩ := ih
    have hA1 := hA (n + 1)
    refine ⟨?_, ?_, ?_⟩
    · by_cases hc : z.1 ≤ (A (n + 1)).1
      · exact ⟨j1, by omega, by simp only [Int.min_eq_left hc]; exact a2⟩
      · exact ⟨n + 1, by omega, .inl (by simp only; omega)⟩
    · by_cases hc : (A (n + 1)).2 ≤ z.2
      · exact ⟨j2, by omega, by simp only [Int.max_eq_left hc]; exact b2⟩
      · exact ⟨n + 1, by omega, .inr (by simp only; omega)⟩
    · rintro x ⟨j, hj, hx⟩
      by_cases hjn : j = n + 1
      · subst hjn; simp only; omega
      · have := h3 x ⟨j, by omega, hx⟩
        simp only; omega
end Go.Proofs


namespace Go.Proofs
open Go Go.Sx Go.RowKit

theorem fine_b {v u r : Int} (h : fineV v u r = true) : (1 ≤ u ∧ u ≤ 1048576) ∧ (-1099511627776 ≤ v ∧ v ≤ 1099511627776) ∧ (1 ≤ r ∧ r ≤ 4) := by
  simp only [fineV, Bool.and_eq_true] at h
  have h3 := inB_iff.1 h.1.1
  have h4 := inB_iff.1 h.1.2
  have h5 := inB_iff.1 h.2
  omega
theorem c_To_t {v u r : Int} (h : fineV v u r = true) (w : World) : Calls Tryz.prog 15 #[.int .i64 v, .int .i64 u, .int .i64 r] w (RetV w (.tuple #[.int .i64 (toF u r v), .int .i64 0])) := by
  have := r_To v u r w
  rw [show rTo v u r = (toF u r v, 0) by simp [rTo, h]] at this
  exact this
theorem c_To_f {v u r : Int} (h : fineV v u r = false) (w : World) : Calls Tryz.prog 15 #[.int .i64 v, .int .i64 u, .int .i64 r] w (RetV w (.tuple #[.int .i64 0, .int .i64 2])) := by
  have := r_To v u r w
  rw [show rTo v u r = (0, 2) by simp [rTo, h]] at this
  exact this

end Go.Proofs


namespace Go.Proofs
open Go Go.Sx Go.RowKit

def dl (v u : Int) : Nat → List Int
  | 0 => []
  | k + 1 => dl v u k ++ [v - toF u ((k : Int) + 1) v * u]
theorem dl_len (v u : Int) : ∀ k, (dl v u k).length = k
  | 0 => rfl
  | k + 1 => by rw [dl, List.length_append, dl_len v u k]; rfl
theorem far_any {u v r : Int} (hu : 1 ≤ u) (hr : 1 ≤ r ∧ r ≤ 4) : -u ≤ v - toF u r v * u ∧ v - toF u r v * u ≤ u := by
  have h1 := far_down (v := v) hu
  have h2 := far_up (v := v) hu
  have h3 := far_near (v := v) hu
  have h4 := far_even (v := v) hu
  obtain rfl | rfl | rfl | rfl : r = 1 ∨ r = 2 ∨ r = 3 ∨ r = 4 := by omega
  all_goals omega
theorem fine_r {v u r r' : Int} (h : fineV v u r = true) (hr : 1 ≤ r' ∧ r' ≤ 4) : fineV v u r' = true := by
  have := fine_b h
  simp only [fineV, Bool.and_eq_true]
  exact ⟨⟨inB_iff.2 this.2.1, inB_iff.2 this.1⟩, inB_iff.2 hr⟩
theorem fine_v {v u r v' : Int} (h : fineV v u r = true) (hv : inB v' (-1099511627776) 1099511627776 = true) : fineV v' u r = true := by
  have := fine_b h
  simp only [fineV, Bool.and_eq_true]
  exact ⟨⟨hv, inB_iff.2 this.1⟩, inB_iff.2 this.2.2⟩

set_option maxRecDepth 20000 in
theorem w_RoundNearest_f (v u r o : Int) (w : World)  (h : fineV v u r = false) (hg : Gl w) : Calls Tryz.prog 4 #[(.int .i64 v), (.int .i64 u), (.int .i64 r), (.int .i64 o)] w (RetV w (.bool true)) := by
  refine calls_T0 (av := [_, _, _, _]) Tryz.func4 rfl rfl rfl ?_
  refine t_seq ?_
  refine t_reg ?_
  refine to_as rfl rfl ?_
  refine to_nil ?_
  refine tn_code ?_
  refine t_seq ?_
  refine t_seq ?_
  refine t_reg ?_
  refine to_mv rfl rfl ?_
  refine to_mv rfl rfl ?_
  refine to_mv rfl rfl ?_
  refine to_call0 rfl rfl (fun w s => law_fine _ _ _ w) rfl ?_
  refine to_fix (s := 26) (b' := false) rfl (h) ?_
  refine to_not rfl rfl ?_
  refine to_mv rfl rfl ?_
  refine to_gf rfl rfl rfl rfl ?_
  refine to_gf rfl rfl rfl rfl ?_
  refine to_gf rfl rfl rfl rfl ?_
  refine to_pkT rfl rfl rfl ?_
  refine to_nil ?_
  refine tn_code ?_
  refine t_ifT rfl ?_
  refine t_seq ?_
  refine t_reg ?_
  refine to_call0 rfl rfl (fun w s => law_known w (gl_up hg (belowH_of s))) rfl ?_
  refine to_as rfl rfl ?_
  refine to_nil ?_
  refine tn_code ?_
  refine t_ret1 rfl rfl (res_tmp rfl) (fun w' s => ?_)
  rfl

set_option maxRecDepth 20000 in
theorem w_RoundNearest_o (v u r o : Int) (w : World)  (h : fineV v u r = true) (ho : inB o (-1099511627776) 1099511627776 = false) (hg : Gl w) : Calls Tryz.prog 4 #[(.int .i64 v), (.int .i64 u), (.int .i64 r), (.int .i64 o)] w (RetV w (.bool true)) := by
  refine calls_T0 (av := [_, _, _, _]) Tryz.func4 rfl rfl rfl ?_
  refine t_seq ?_
  refine t_reg ?_
  refine to_as rfl rfl ?_
  refine to_nil ?_
  refine tn_code ?_
  refine t_seq ?_
  refine t_seq ?_
  refine t_reg ?_
  refine to_mv rfl rfl ?_
  refine to_mv rfl rfl ?_
  refine to_mv rfl rfl ?_
  refine to_call0 rfl rfl (fun w s => law_fine _ _ _ w) rfl ?_
  refine to_fix (s := 26) (b' := true) rfl (h) ?_
  refine to_not rfl rfl ?_
  refine to_mv rfl rfl ?_
  refine to_gt rfl rfl ?_
  refine to_mv rfl rfl ?_
  refine to_gt rfl rfl ?_
  refine to_call0 rfl rfl (fun w s => ref_Value _ w) rfl ?_
  refine to_fix (s := 30) (b' := false) rfl (ho) ?_
  refine to_gt rfl rfl ?_
  refine to_not rfl rfl ?_
  refine to_pkF rfl rfl rfl ?_
  refine to_nil ?_
  refine tn_code ?_
  refine t_ifT rfl ?_
  refine t_seq ?_
  refine t_reg ?_
  refine to_call0 rfl rfl (fun w s => law_known w (gl_up hg (belowH_of s))) rfl ?_
  refine to_as rfl rfl ?_
  refine to_nil ?_
  refine tn_code ?_
  refine t_ret1 rfl rfl (res_tmp rfl) (fun w' s => ?_)
  rfl

set_option maxRecDepth 20000 in
theorem w_RoundNearest_ok (v u r o : Int) (w : World)  (h : fineV v u r = true) (ho : inB o (-1099511627776) 1099511627776 = true) (hg : Gl w) : Calls Tryz.prog 4 #[(.int .i64 v), (.int .i64 u), (.int .i64 r), (.int .i64 o)] w (RetV w (.bool true)) := by
  have hb := fine_b h
  have hob := inB_iff.1 ho
  have hF1 := far_down (v := v) hb.1.1
  have hF2 := far_up (v := v) hb.1.1
  have hF3 := far_near (v := v) hb.1.1
  have hF4 := far_even (v := v) hb.1.1
  have hev := tmod2 (toF u 4 v)
  refine calls_T0 (av := [_, _, _, _]) Tryz.func4 rfl rfl rfl ?_
  refine t_seq ?_
  refine t_reg ?_
  refine to_as rfl rfl ?_
  refine to_nil ?_
  refine tn_code ?_
  refine t_seq ?_
  refine t_seq ?_
  refine t_reg ?_
  refine to_mv rfl rfl ?_
  refine to_mv rfl rfl ?_
  refine to_mv rfl rfl ?_
  refine to_call0 rfl rfl (fun w s => law_fine _ _ _ w) rfl ?_
  refine to_fix (s := 26) (b' := true) rfl (h) ?_
  refine to_not rfl rfl ?_
  refine to_mv rfl rfl ?_
  refine to_gt rfl rfl ?_
  refine to_mv rfl rfl ?_
  refine to_gt rfl rfl ?_
  refine to_call0 rfl rfl (fun w s => ref_Value _ w) rfl ?_
  refine to_fix (s := 30) (b' := true) rfl (ho) ?_
  refine to_gt rfl rfl ?_
  refine to_not rfl rfl ?_
  refine to_pkF rfl rfl rfl ?_
  refine to_nil ?_
  refine tn_code ?_
  refine t_ifF rfl ?_
  refine t_skip ?_
  refine tn_code ?_
  refine t_seq ?_
  refine t_reg ?_
  refine to_as rfl rfl ?_
  refine to_nil ?_
  refine tn_code ?_
  refine t_seq ?_
  refine t_seq ?_
  refine t_reg ?_
  refine to_as rfl rfl ?_
  refine to_nil ?_
  refine tn_code ?_
  refine t_blk ?_
  refine t_nilrow 3 1 ?_
  refine t_loop2 (ι := Nat × Option Addr × Nat) (fun ((k, a', c') : Nat × Option Addr × Nat) => k ≤ 4) (fun ((k, a', c') : Nat × Option Addr × Nat) => [(0, (.int .i64 v)), (1, (.int .i64 u)), (2, (.int .i64 r)), (3, (.int .i64 o)), (9, .slice a' k c'), (10, (.int .i64 ((k : Int) + 1)))]) (fun ((k, a', c') : Nat × Option Addr × Nat) => [.row a' k c' 3 1 (ints (dl v u k)), .snap 0 w.heap.size w]) (fun ((k, a', c') : Nat × Option Addr × Nat) => 4 - k) ((0, none, 0)) [.row none 0 0 3 1 [], .snap 0 w.heap.size w] (rfl) (Nat.zero_le _) (⟨rfl, rfl, rfl, rfl, rfl, rfl, trivial⟩) ?_
  rintro ⟨k, a', c'⟩ hk
  try dsimp only at hk
  show T _ _ _ ⟨_, [(0, (.int .i64 v)), (1, (.int .i64 u)), (2, (.int .i64 r)), (3, (.int .i64 o)), (9, .slice a' k c'), (10, (.int .i64 ((k : Int) + 1)))], _⟩ [.row a' k c' 3 1 (ints (dl v u k)), .snap 0 w.heap.size w]
  refine t_seq ?_
  refine t_seq ?_
  refine t_reg ?_
  refine to_mv rfl rfl ?_
  refine to_leq rfl rfl rfl ?_
  refine to_nil ?_
  refine tn_code ?_
  refine t_if rfl (fun h1 => ?_) (fun h1 => ?_)
  · try simp only [decide_eq_true_eq, decide_eq_false_iff_not, Bool.not_eq_true', Bool.not_eq_false', Int.not_lt, Int.not_le, ne_eq, Decidable.not_not] at h1
    try have h1b := inB_iff.1 h1
    have hfb := toF_bB (u := u) (r := (k : Int) + 1) (v := v) (B := 1099511627776) hb.1.1 (by decide) (by omega)
    have hfa := far_any (v := v) hb.1.1 (r := (k : Int) + 1) (by omega)
    refine t_skip ?_
    refine tn_code ?_
    refine t_seq ?_
    refine t_blk ?_
    refine t_seq ?_
    refine t_reg ?_
    refine to_mv rfl rfl ?_
    refine to_mv rfl rfl ?_
    refine to_mv rfl rfl ?_
    refine to_call0 rfl rfl (fun w s => c_To_t (fine_r (r' := (k : Int) + 1) h (by omega)) w) rfl ?_
    refine to_mv rfl rfl ?_
    refine to_ex rfl rfl rfl ?_
    refine to_ex rfl rfl rfl ?_
    refine to_as rfl rfl ?_
    refine to_as rfl rfl ?_
    refine to_nil ?_
    refine tn_code ?_
    refine t_seq ?_
    refine t_seq ?_
    refine t_reg ?_
    refine to_mv rfl rfl ?_
    refine to_neq rfl rfl rfl ?_
    refine to_fix (s := 46) (b' := false) rfl (rfl) ?_
    refine to_mv rfl rfl ?_
    refine to_gt rfl rfl ?_
    refine to_mv rfl rfl ?_
    refine to_gt rfl rfl ?_
    refine to_lss rfl rfl rfl ?_
    refine to_fix (s := 49) (b' := false) rfl (decide_eq_false (by omega)) ?_
    refine to_pkF rfl rfl rfl ?_
    refine to_mv rfl rfl ?_
    refine to_gt rfl rfl ?_
    refine to_mv rfl rfl ?_
    refine to_gt rfl rfl ?_
    refine to_gtr rfl rfl rfl ?_
    refine to_fix (s := 53) (b' := false) rfl (decide_eq_false (by omega)) ?_
    refine to_pkF rfl rfl rfl ?_
    refine to_nil ?_
    refine tn_code ?_
    refine t_ifF rfl ?_
    refine t_skip ?_
    refine tn_code ?_
    refine t_reg ?_
    refine to_mv rfl rfl ?_
    refine to_mv rfl rfl ?_
    refine to_mv rfl rfl ?_
    refine to_mv rfl rfl ?_
    refine to_mul rfl rfl (by first | omega | exact mul_ok (by omega) (by omega) (by omega) (by omega)) rfl ?_
    refine to_sub rfl rfl (by omega) rfl ?_
    refine to_bsl rfl rfl rfl rfl (fun a61 => ?_)
    refine to_app rfl rfl rfl (by simp [scals, scal]) (by decide) (by omega) (by decide) rfl (fun a62 c62 => ?_)
    refine to_as rfl rfl ?_
    refine to_nil ?_
    refine tn_blk ?_
    refine tn_code ?_
    refine t_reg ?_
    refine to_mv rfl rfl ?_
    refine to_add rfl rfl (by omega) rfl ?_
    refine to_as rfl rfl ?_
    refine to_nil ?_
    exact tn_loop2 ((k + 1, a62, c62)) [.row a62 (k + 1) c62 3 1 (ints (dl v u k) ++ [[Value.int .i64 (v - toF u ((k : Int) + 1) v * u)]]), .snap 0 w.heap.size w] (by dsimp only; rw [dl, ints_snoc]) (by dsimp only; omega) (by dsimp only; omega) (⟨rfl, rfl, rfl, rfl, rfl, rfl, trivial⟩)
  · try simp only [decide_eq_true_eq, decide_eq_false_iff_not, Bool.not_eq_true', Bool.not_eq_false', Int.not_lt, Int.not_le, ne_eq, Decidable.not_not] at h1
    try have h1b := inB_iff.1 h1
    have hk4 : k = 4 := by omega
    subst hk4
    have hq0 : (ints (dl v u 4))[0]? = some (intC (v - toF u 1 v * u)) := rfl
    have hq1 : (ints (dl v u 4))[1]? = some (intC (v - toF u 2 v * u)) := rfl
    have hq2 : (ints (dl v u 4))[2]? = some (intC (v - toF u 3 v * u)) := rfl
    have hq3 : (ints (dl v u 4))[3]? = some (intC (v - toF u 4 v * u)) := rfl
    refine t_exit ?_
    refine tx_code ?_
    refine tx_inv ?_
    refine tx_blk ?_
    refine tn_code ?_
    refine t_seq ?_
    refine t_regD rfl (by kernel_rfl) (by kernel_rfl) ?_
    refine to_mv rfl rfl ?_
    first | refine to_ix rfl rfl rfl (by first | omega | decide) (by first | omega | decide) rfl ?_ | refine to_ixi rfl rfl rfl (by omega) (by omega) (by omega) rfl ?_
    first | refine to_lds rfl rfl rfl ?_ | refine to_ldes rfl (by assumption) rfl rfl ?_
    refine to_mv rfl rfl ?_
    first | refine to_ix rfl rfl rfl (by first | omega | decide) (by first | omega | decide) rfl ?_ | refine to_ixi rfl rfl rfl (by omega) (by omega) (by omega) rfl ?_
    first | refine to_lds rfl rfl rfl ?_ | refine to_ldes rfl (by assumption) rfl rfl ?_
    refine to_mv rfl rfl ?_
    first | refine to_ix rfl rfl rfl (by first | omega | decide) (by first | omega | decide) rfl ?_ | refine to_ixi rfl rfl rfl (by omega) (by omega) (by omega) rfl ?_
    first | refine to_lds rfl rfl rfl ?_ | refine to_ldes rfl (by assumption) rfl rfl ?_
    refine to_mv rfl rfl ?_
    first | refine to_ix rfl rfl rfl (by first | omega | decide) (by first | omega | decide) rfl ?_ | refine to_ixi rfl rfl rfl (by omega) (by omega) (by omega) rfl ?_
    first | refine to_lds rfl rfl rfl ?_ | refine to_ldes rfl (by assumption) rfl rfl ?_
    refine to_as rfl rfl ?_
    refine to_as rfl rfl ?_
    refine to_as rfl rfl ?_
    refine to_as rfl rfl ?_
    refine to_nil ?_
    refine tn_code ?_
    refine t_seq ?_
    refine t_seq ?_
    refine t_reg ?_
    refine to_mv rfl rfl ?_
    refine to_lss rfl rfl rfl ?_
    refine to_fix (s := 76) (b' := false) rfl (decide_eq_false (by omega)) ?_
    refine to_mv rfl rfl ?_
    refine to_gt rfl rfl ?_
    refine to_mv rfl rfl ?_
    refine to_gt rfl rfl ?_
    refine to_mv rfl rfl ?_
    refine to_gt rfl rfl ?_
    refine to_geq rfl rfl rfl ?_
    refine to_fix (s := 80) (b' := false) rfl (decide_eq_false (by omega)) ?_
    refine to_pkF rfl rfl rfl ?_
    refine to_mv rfl rfl ?_
    refine to_gt rfl rfl ?_
    refine to_mv rfl rfl ?_
    refine to_gt rfl rfl ?_
    refine to_gtr rfl rfl rfl ?_
    refine to_fix (s := 84) (b' := false) rfl (decide_eq_false (by omega)) ?_
    refine to_pkF rfl rfl rfl ?_
    refine to_mv rfl rfl ?_
    refine to_gt rfl rfl ?_
    refine to_mv rfl rfl ?_
    refine to_gt rfl rfl ?_
    refine to_mv rfl rfl ?_
    refine to_gt rfl rfl ?_
    refine to_neg rfl (by omega) rfl ?_
    refine to_gt rfl rfl ?_
    refine to_leq rfl rfl rfl ?_
    refine to_fix (s := 90) (b' := false) rfl (decide_eq_false (by omega)) ?_
    refine to_pkF rfl rfl rfl ?_
    refine to_mv rfl rfl ?_
    refine to_gt rfl rfl ?_
    refine to_mv rfl rfl ?_
    refine to_gt rfl rfl ?_
    refine to_mul rfl rfl (by first | omega | exact mul_ok (by omega) (by omega) (by omega) (by omega)) rfl ?_
    refine to_gt rfl rfl ?_
    refine to_mv rfl rfl ?_
    refine to_gt rfl rfl ?_
    refine to_neg rfl (by omega) rfl ?_
    refine to_gt rfl rfl ?_
    refine to_lss rfl rfl rfl ?_
    refine to_fix (s := 97) (b' := false) rfl (decide_eq_false (by omega)) ?_
    refine to_pkF rfl rfl rfl ?_
    refine to_mv rfl rfl ?_
    refine to_gt rfl rfl ?_
    refine to_mv rfl rfl ?_
    refine to_gt rfl rfl ?_
    refine to_mul rfl rfl (by first | omega | exact mul_ok (by omega) (by omega) (by omega) (by omega)) rfl ?_
    refine to_gt rfl rfl ?_
    refine to_mv rfl rfl ?_
    refine to_gt rfl rfl ?_
    refine to_geq rfl rfl rfl ?_
    refine to_fix (s := 103) (b' := false) rfl (decide_eq_false (by omega)) ?_
    refine to_pkF rfl rfl rfl ?_
    refine to_mv rfl rfl ?_
    refine to_gt rfl rfl ?_
    refine to_mv rfl rfl ?_
    refine to_gt rfl rfl ?_
    refine to_mul rfl rfl (by first | omega | exact mul_ok (by omega) (by omega) (by omega) (by omega)) rfl ?_
    refine to_gt rfl rfl ?_
    refine to_mv rfl rfl ?_
    refine to_gt rfl rfl ?_
    refine to_neg rfl (by omega) rfl ?_
    refine to_gt rfl rfl ?_
    refine to_lss rfl rfl rfl ?_
    refine to_fix (s := 110) (b' := false) rfl (decide_eq_false (by omega)) ?_
    refine to_pkF rfl rfl rfl ?_
    refine to_mv rfl rfl ?_
    refine to_gt rfl rfl ?_
    refine to_mv rfl rfl ?_
    refine to_gt rfl rfl ?_
    refine to_mul rfl rfl (by first | omega | exact mul_ok (by omega) (by omega) (by omega) (by omega)) rfl ?_
    refine to_gt rfl rfl ?_
    refine to_mv rfl rfl ?_
    refine to_gt rfl rfl ?_
    refine to_gtr rfl rfl rfl ?_
    refine to_fix (s := 116) (b' := false) rfl (decide_eq_false (by omega)) ?_
    refine to_pkF rfl rfl rfl ?_
    refine to_nil ?_
    refine tn_code ?_
    refine t_ifF rfl ?_
    refine t_skip ?_
    refine tn_code ?_
    refine t_seq ?_
    refine t_reg ?_
    refine to_mv rfl rfl ?_
    refine to_mv rfl rfl ?_
    refine to_mv rfl rfl ?_
    refine to_call0 rfl rfl (fun w s => c_To_t h w) rfl ?_
    refine to_mv rfl rfl ?_
    refine to_ex rfl rfl rfl ?_
    refine to_ex rfl rfl rfl ?_
    refine to_as rfl rfl ?_
    refine to_as rfl rfl ?_
    refine to_nil ?_
    refine tn_code ?_
    refine t_seq ?_
    refine t_reg ?_
    refine to_mv rfl rfl ?_
    refine to_mv rfl rfl ?_
    refine to_mv rfl rfl ?_
    refine to_call0 rfl rfl (fun w s => c_To_t (fine_v h ho) w) rfl ?_
    refine to_mv rfl rfl ?_
    refine to_ex rfl rfl rfl ?_
    refine to_ex rfl rfl rfl ?_
    refine to_as rfl rfl ?_
    refine to_as rfl rfl ?_
    refine to_nil ?_
    refine tn_code ?_
    refine t_seq ?_
    refine t_reg ?_
    refine to_mv rfl rfl ?_
    refine to_mv rfl rfl ?_
    refine to_call0 rfl rfl (fun w s => c_To_t (fine_r (r' := 4) h (by omega)) w) rfl ?_
    refine to_mv rfl rfl ?_
    refine to_ex rfl rfl rfl ?_
    refine to_ex rfl rfl rfl ?_
    refine to_as rfl rfl ?_
    refine to_as rfl rfl ?_
    refine to_nil ?_
    refine tn_code ?_
    refine t_seq ?_
    refine t_seq ?_
    refine t_reg ?_
    refine to_mv rfl rfl ?_
    refine to_neq rfl rfl rfl ?_
    refine to_fix (s := 139) (b' := false) rfl (rfl) ?_
    refine to_mv rfl rfl ?_
    refine to_gt rfl rfl ?_
    refine to_mv rfl rfl ?_
    refine to_gt rfl rfl ?_
    refine to_neq rfl rfl rfl ?_
    refine to_fix (s := 142) (b' := false) rfl (rfl) ?_
    refine to_pkF rfl rfl rfl ?_
    refine to_mv rfl rfl ?_
    refine to_gt rfl rfl ?_
    refine to_mv rfl rfl ?_
    refine to_gt rfl rfl ?_
    refine to_neq rfl rfl rfl ?_
    refine to_fix (s := 146) (b' := false) rfl (rfl) ?_
    refine to_pkF rfl rfl rfl ?_
    refine to_mv rfl rfl ?_
    refine to_gt rfl rfl ?_
    refine to_mv rfl rfl ?_
    refine to_gt rfl rfl ?_
    refine to_mul rfl rfl (by first | omega | exact mul_ok (by omega) (by omega) (by omega) (by omega)) rfl ?_
    refine to_gt rfl rfl ?_
    refine to_mv rfl rfl ?_
    refine to_gt rfl rfl ?_
    refine to_mul rfl rfl (by first | omega | exact mul_ok (by omega) (by omega) (by omega) (by omega)) rfl ?_
    refine to_gt rfl rfl ?_
    refine to_max rfl rfl rfl ?_
    refine to_gt rfl rfl ?_
    refine to_mv rfl rfl ?_
    refine to_gt rfl rfl ?_
    refine to_eql rfl rfl rfl ?_
    refine to_gt rfl rfl ?_
    refine to_mv rfl rfl ?_
    refine to_gs rfl rfl rfl (fun h2 => ?_) (fun h2 => ?_)
    · try simp only [decide_eq_true_eq, decide_eq_false_iff_not, Bool.not_eq_true', Bool.not_eq_false', Int.not_lt, Int.not_le, ne_eq, Decidable.not_not] at h2
      try have h2b := inB_iff.1 h2
      refine to_gt rfl rfl ?_
      refine to_mv rfl rfl ?_
      refine to_gt rfl rfl ?_
      refine to_remw rfl rfl (by decide) rfl ?_
      refine to_gt rfl rfl ?_
      refine to_neq rfl rfl rfl ?_
      refine to_fix (s := 159) (b' := false) rfl (decide_eq_false (fun e => by have h9 := hF4.2 (by omega); exact (hev.1 e) h9)) ?_
      refine to_gt rfl rfl ?_
      refine to_pkT rfl rfl rfl ?_
      refine to_pkF rfl rfl rfl ?_
      refine to_nil ?_
      refine tn_code ?_
      refine t_ifF rfl ?_
      refine t_skip ?_
      refine tn_code ?_
      refine t_seq ?_
      refine t_reg ?_
      refine to_mv rfl rfl ?_
      refine to_mv rfl rfl ?_
      refine to_lss rfl rfl rfl ?_
      refine to_mv rfl rfl ?_
      refine to_gs rfl rfl rfl (fun h3 => ?_) (fun h3 => ?_)
      · try simp only [decide_eq_true_eq, decide_eq_false_iff_not, Bool.not_eq_true', Bool.not_eq_false', Int.not_lt, Int.not_le, ne_eq, Decidable.not_not] at h3
        try have h3b := inB_iff.1 h3
        refine to_gf rfl rfl rfl rfl ?_
        refine to_gf rfl rfl rfl rfl ?_
        refine to_gf rfl rfl rfl rfl ?_
        refine to_pkT rfl rfl rfl ?_
        refine to_mv rfl rfl ?_
        refine to_gt rfl rfl ?_
        refine to_mv rfl rfl ?_
        refine to_gt rfl rfl ?_
        refine to_mv rfl rfl ?_
        refine to_gt rfl rfl ?_
        refine to_gtr rfl rfl rfl ?_
        refine to_gt rfl rfl ?_
        refine to_mv rfl rfl ?_
        refine to_gs rfl rfl rfl (fun h4 => ?_) (fun h4 => ?_)
        · try simp only [decide_eq_true_eq, decide_eq_false_iff_not, Bool.not_eq_true', Bool.not_eq_false', Int.not_lt, Int.not_le, ne_eq, Decidable.not_not] at h4
          try have h4b := inB_iff.1 h4
          refine to_gf rfl rfl rfl rfl ?_
          refine to_gf rfl rfl rfl rfl ?_
          refine to_gf rfl rfl rfl rfl ?_
          refine to_gt rfl rfl ?_
          refine to_pkT rfl rfl rfl ?_
          refine to_pkT rfl rfl rfl ?_
          refine to_mv rfl rfl ?_
          refine to_gt rfl rfl ?_
          refine to_call0 rfl rfl (fun w s => law_known w (gl_up hg (belowH_of s))) rfl ?_
          refine to_pkT rfl rfl rfl ?_
          refine to_as rfl rfl ?_
          refine to_nil ?_
          refine tn_code ?_
          refine t_ret1 rfl rfl (res_tmp rfl) (fun w' s => ?_)
          rfl
        · try simp only [decide_eq_true_eq, decide_eq_false_iff_not, Bool.not_eq_true', Bool.not_eq_false', Int.not_lt, Int.not_le, ne_eq, Decidable.not_not] at h4
          try have h4b := inB_iff.1 h4
          refine to_gt rfl rfl ?_
          refine to_mv rfl rfl ?_
          refine to_gt rfl rfl ?_
          refine to_mv rfl rfl ?_
          refine to_gt rfl rfl ?_
          refine to_leq rfl rfl rfl ?_
          refine to_fix (s := 177) (b' := true) rfl (decide_eq_true (toF_mono hb.1.1 (by omega))) ?_
          refine to_gt rfl rfl ?_
          refine to_pkF rfl rfl rfl ?_
          refine to_pkT rfl rfl rfl ?_
          refine to_mv rfl rfl ?_
          refine to_gt rfl rfl ?_
          refine to_call0 rfl rfl (fun w s => law_known w (gl_up hg (belowH_of s))) rfl ?_
          refine to_pkT rfl rfl rfl ?_
          refine to_as rfl rfl ?_
          refine to_nil ?_
          refine tn_code ?_
          refine t_ret1 rfl rfl (res_tmp rfl) (fun w' s => ?_)
          rfl
      · try simp only [decide_eq_true_eq, decide_eq_false_iff_not, Bool.not_eq_true', Bool.not_eq_false', Int.not_lt, Int.not_le, ne_eq, Decidable.not_not] at h3
        try have h3b := inB_iff.1 h3
        refine to_gt rfl rfl ?_
        refine to_mv rfl rfl ?_
        refine to_gt rfl rfl ?_
        refine to_mv rfl rfl ?_
        refine to_gt rfl rfl ?_
        refine to_geq rfl rfl rfl ?_
        refine to_fix (s := 168) (b' := true) rfl (decide_eq_true (toF_mono hb.1.1 (by omega))) ?_
        refine to_pkF rfl rfl rfl ?_
        refine to_mv rfl rfl ?_
        refine to_gt rfl rfl ?_
        refine to_mv rfl rfl ?_
        refine to_gt rfl rfl ?_
        refine to_mv rfl rfl ?_
        refine to_gt rfl rfl ?_
        refine to_gtr rfl rfl rfl ?_
        refine to_gt rfl rfl ?_
        refine to_mv rfl rfl ?_
        refine to_gs rfl rfl rfl (fun h5 => ?_) (fun h5 => ?_)
        · try simp only [decide_eq_true_eq, decide_eq_false_iff_not, Bool.not_eq_true', Bool.not_eq_false', Int.not_lt, Int.not_le, ne_eq, Decidable.not_not] at h5
          try have h5b := inB_iff.1 h5
          refine to_gf rfl rfl rfl rfl ?_
          refine to_gf rfl rfl rfl rfl ?_
          refine to_gf rfl rfl rfl rfl ?_
          refine to_gt rfl rfl ?_
          refine to_pkT rfl rfl rfl ?_
          refine to_pkT rfl rfl rfl ?_
          refine to_mv rfl rfl ?_
          refine to_gt rfl rfl ?_
          refine to_call0 rfl rfl (fun w s => law_known w (gl_up hg (belowH_of s))) rfl ?_
          refine to_pkT rfl rfl rfl ?_
          refine to_as rfl rfl ?_
          refine to_nil ?_
          refine tn_code ?_
          refine t_ret1 rfl rfl (res_tmp rfl) (fun w' s => ?_)
          rfl
        · try simp only [decide_eq_true_eq, decide_eq_false_iff_not, Bool.not_eq_true', Bool.not_eq_false', Int.not_lt, Int.not_le, ne_eq, Decidable.not_not] at h5
          try have h5b := inB_iff.1 h5
          refine to_gt rfl rfl ?_
          refine to_mv rfl rfl ?_
          refine to_gt rfl rfl ?_
          refine to_mv rfl rfl ?_
          refine to_gt rfl rfl ?_
          refine to_leq rfl rfl rfl ?_
          refine to_fix (s := 177) (b' := true) rfl (decide_eq_true (toF_mono hb.1.1 (by omega))) ?_
          refine to_gt rfl rfl ?_
          refine to_pkF rfl rfl rfl ?_
          refine to_pkT rfl rfl rfl ?_
          refine to_mv rfl rfl ?_
          refine to_gt rfl rfl ?_
          refine to_call0 rfl rfl (fun w s => law_known w (gl_up hg (belowH_of s))) rfl ?_
          refine to_pkT rfl rfl rfl ?_
          refine to_as rfl rfl ?_
          refine to_nil ?_
          refine tn_code ?_
          refine t_ret1 rfl rfl (res_tmp rfl) (fun w' s => ?_)
          rfl
    · try simp only [decide_eq_true_eq, decide_eq_false_iff_not, Bool.not_eq_true', Bool.not_eq_false', Int.not_lt, Int.not_le, ne_eq, Decidable.not_not] at h2
      try have h2b := inB_iff.1 h2
      refine to_gf rfl rfl rfl rfl ?_
      refine to_gf rfl rfl rfl rfl ?_
      refine to_gf rfl rfl rfl rfl ?_
      refine to_gt rfl rfl ?_
      refine to_pkF rfl rfl rfl ?_
      refine to_pkF rfl rfl rfl ?_
      refine to_nil ?_
      refine tn_code ?_
      refine t_ifF rfl ?_
      refine t_skip ?_
      refine tn_code ?_
      refine t_seq ?_
      refine t_reg ?_
      refine to_mv rfl rfl ?_
      refine to_mv rfl rfl ?_
      refine to_lss rfl rfl rfl ?_
      refine to_mv rfl rfl ?_
      refine to_gs rfl rfl rfl (fun h6 => ?_) (fun h6 => ?_)
      · try simp only [decide_eq_true_eq, decide_eq_false_iff_not, Bool.not_eq_true', Bool.not_eq_false', Int.not_lt, Int.not_le, ne_eq, Decidable.not_not] at h6
        try have h6b := inB_iff.1 h6
        refine to_gf rfl rfl rfl rfl ?_
        refine to_gf rfl rfl rfl rfl ?_
        refine to_gf rfl rfl rfl rfl ?_
        refine to_pkT rfl rfl rfl ?_
        refine to_mv rfl rfl ?_
        refine to_gt rfl rfl ?_
        refine to_mv rfl rfl ?_
        refine to_gt rfl rfl ?_
        refine to_mv rfl rfl ?_
        refine to_gt rfl rfl ?_
        refine to_gtr rfl rfl rfl ?_
        refine to_gt rfl rfl ?_
        refine to_mv rfl rfl ?_
        refine to_gs rfl rfl rfl (fun h7 => ?_) (fun h7 => ?_)
        · try simp only [decide_eq_true_eq, decide_eq_false_iff_not, Bool.not_eq_true', Bool.not_eq_false', Int.not_lt, Int.not_le, ne_eq, Decidable.not_not] at h7
          try have h7b := inB_iff.1 h7
          refine to_gf rfl rfl rfl rfl ?_
          refine to_gf rfl rfl rfl rfl ?_
          refine to_gf rfl rfl rfl rfl ?_
          refine to_gt rfl rfl ?_
          refine to_pkT rfl rfl rfl ?_
          refine to_pkT rfl rfl rfl ?_
          refine to_mv rfl rfl ?_
          refine to_gt rfl rfl ?_
          refine to_call0 rfl rfl (fun w s => law_known w (gl_up hg (belowH_of s))) rfl ?_
          refine to_pkT rfl rfl rfl ?_
          refine to_as rfl rfl ?_
          refine to_nil ?_
          refine tn_code ?_
          refine t_ret1 rfl rfl (res_tmp rfl) (fun w' s => ?_)
          rfl
        · try simp only [decide_eq_true_eq, decide_eq_false_iff_not, Bool.not_eq_true', Bool.not_eq_false', Int.not_lt, Int.not_le, ne_eq, Decidable.not_not] at h7
          try have h7b := inB_iff.1 h7
          refine to_gt rfl rfl ?_
          refine to_mv rfl rfl ?_
          refine to_gt rfl rfl ?_
          refine to_mv rfl rfl ?_
          refine to_gt rfl rfl ?_
          refine to_leq rfl rfl rfl ?_
          refine to_fix (s := 177) (b' := true) rfl (decide_eq_true (toF_mono hb.1.1 (by omega))) ?_
          refine to_gt rfl rfl ?_
          refine to_pkF rfl rfl rfl ?_
          refine to_pkT rfl rfl rfl ?_
          refine to_mv rfl rfl ?_
          refine to_gt rfl rfl ?_
          refine to_call0 rfl rfl (fun w s => law_known w (gl_up hg (belowH_of s))) rfl ?_
          refine to_pkT rfl rfl rfl ?_
          refine to_as rfl rfl ?_
          refine to_nil ?_
          refine tn_code ?_
          refine t_ret1 rfl rfl (res_tmp rfl) (fun w' s => ?_)
          rfl
      · try simp only [decide_eq_true_eq, decide_eq_false_iff_not, Bool.not_eq_true', Bool.not_eq_false', Int.not_lt, Int.not_le, ne_eq, Decidable.not_not] at h6
        try have h6b := inB_iff.1 h6
        refine to_gt rfl rfl ?_
        refine to_mv rfl rfl ?_
        refine to_gt rfl rfl ?_
        refine to_mv rfl rfl ?_
        refine to_gt rfl rfl ?_
        refine to_geq rfl rfl rfl ?_
        refine to_fix (s := 168) (b' := true) rfl (decide_eq_true (toF_mono hb.1.1 (by omega))) ?_
        refine to_pkF rfl rfl rfl ?_
        refine to_mv rfl rfl ?_
        refine to_gt rfl rfl ?_
        refine to_mv rfl rfl ?_
        refine to_gt rfl rfl ?_
        refine to_mv rfl rfl ?_
        refine to_gt rfl rfl ?_
        refine to_gtr rfl rfl rfl ?_
        refine to_gt rfl rfl ?_
        refine to_mv rfl rfl ?_
        refine to_gs rfl rfl rfl (fun h8 => ?_) (fun h8 => ?_)
        · try simp only [decide_eq_true_eq, decide_eq_false_iff_not, Bool.not_eq_true', Bool.not_eq_false', Int.not_lt, Int.not_le, ne_eq, Decidable.not_not] at h8
          try have h8b := inB_iff.1 h8
          refine to_gf rfl rfl rfl rfl ?_
          refine to_gf rfl rfl rfl rfl ?_
          refine to_gf rfl rfl rfl rfl ?_
          refine to_gt rfl rfl ?_
          refine to_pkT rfl rfl rfl ?_
          refine to_pkT rfl rfl rfl ?_
          refine to_mv rfl rfl ?_
          refine to_gt rfl rfl ?_
          refine to_call0 rfl rfl (fun w s => law_known w (gl_up hg (belowH_of s))) rfl ?_
          refine to_pkT rfl rfl rfl ?_
          refine to_as rfl rfl ?_
          refine to_nil ?_
          refine tn_code ?_
          refine t_ret1 rfl rfl (res_tmp rfl) (fun w' s => ?_)
          rfl
        · try simp only [decide_eq_true_eq, decide_eq_false_iff_not, Bool.not_eq_true', Bool.not_eq_false', Int.not_lt, Int.not_le, ne_eq, Decidable.not_not] at h8
          try have h8b := inB_iff.1 h8
          refine to_gt rfl rfl ?_
          refine to_mv rfl rfl ?_
          refine to_gt rfl rfl ?_
          refine to_mv rfl rfl ?_
          refine to_gt rfl rfl ?_
          refine to_leq rfl rfl rfl ?_
          refine to_fix (s := 177) (b' := true) rfl (decide_eq_true (toF_mono hb.1.1 (by omega))) ?_
          refine to_gt rfl rfl ?_
          refine to_pkF rfl rfl rfl ?_
          refine to_pkT rfl rfl rfl ?_
          refine to_mv rfl rfl ?_
          refine to_gt rfl rfl ?_
          refine to_call0 rfl rfl (fun w s => law_known w (gl_up hg (belowH_of s))) rfl ?_
          refine to_pkT rfl rfl rfl ?_
          refine to_as rfl rfl ?_
          refine to_nil ?_
          refine tn_code ?_
          refine t_ret1 rfl rfl (res_tmp rfl) (fun w' s => ?_)
          rfl

theorem w_RoundNearest (v u r o : Int) (w : World) (hg : Gl w) : Calls Tryz.prog 4 #[.int .i64 v, .int .i64 u, .int .i64 r, .int .i64 o] w (RetV w (.bool true)) := by
  rcases bool_tf (fineV v u r) with h | h
  · rcases bool_tf (inB o (-1099511627776) 1099511627776) with ho | ho
    · exact w_RoundNearest_ok v u r o w h ho hg
    · exact w_RoundNearest_o v u r o w h ho hg
  · exact w_RoundNearest_f v u r o w h hg

end Go.Proofs


namespace Go.Proofs.YtebellbkmioadaaGreatDoor
open Go Go.Sx Go.RowKit Go.WideShapes Go.ChangeShapes

section
variable {H : Type} {enc : TypeId × Value → H}
set_option maxRecDepth 100000 in
theorem roundNearest_law (W : World) (base : Nat) (args : Array Value) (ds : List (DataW H)) (p : List MemPlace) (hval : ∀ (j : Nat) t v, Tryz.f4.params[j]? = some t → args[j]? = some v → Value.okWide Tryz.prog W .any base t v)
    (hA : DataW.TrodAll enc Tryz.prog W 0 (fun _ => true) true Tryz.f4.params.toList args.toList ds p) (hg : Gl W) : Calls Tryz.prog 4 args W (RetV W (.bool true)) := by
  obtain ⟨l⟩ := args
  rw [Tryz.params4] at hA hval
  obtain ⟨v0, l0, d0, e0, p0, q0, hl0, rfl, h0, hA0⟩ := trodAll_cons hA
  have hl0' : l = v0 :: l0 := hl0
  subst hl0'
  obtain ⟨v1, l1, d1, e1, p1, q1, hl1, rfl, h1, hA1⟩ := trodAll_cons hA0
  subst hl1
  obtain ⟨v2, l2, d2, e2, p2, q2, hl2, rfl, h2, hA2⟩ := trodAll_cons hA1
  subst hl2
  obtain ⟨v3, l3, d3, e3, p3, q3, hl3, rfl, h3, hA3⟩ := trodAll_cons hA2
  subst hl3
  obtain rfl := trodAll_nil hA3
  obtain ⟨n0, rfl, _⟩ := open_i u3 (hval 0 3 v0 rfl rfl) h0
  obtain ⟨n1, rfl, _⟩ := open_i u3 (hval 1 3 v1 rfl rfl) h1
  obtain ⟨n2, rfl, _⟩ := open_i uRu (hval 2 22 v2 rfl rfl) h2
  obtain ⟨n3, rfl, _⟩ := open_i u3 (hval 3 3 v3 rfl rfl) h3
  exact w_RoundNearest n0 n1 n2 n3 W hg
end

set_option maxRecDepth 100000 in
theorem roundNearest_lifted (os : Os) (started : os.Started) (H : Type) (enc : TypeId × Value → H) :
    ReturnsInHanded {} Tryz.checked os 4 .any (fun w args => (Rows.roundNearestSpec.pre enc Tryz.prog Tryz.f4 [] false w args ∧ laidMetH Tryz.prog laidL w) ∧ sizedMet enc Tryz.prog Tryz.f4 (OpenSpec.ofChange Rows.roundNearestSpec) false w args)
      (Rows.roundNearestSpec.post enc Tryz.prog Tryz.f4 false true false false) :=
  law_lifted started (by kernel_rfl) Tryz.func4 rfl rfl (by kernel_rfl) (fun ds h => by
      match ds, h with
      | [_, _, _, _], _ => rfl)
    (ChangeSpec.witness_shaped (enc := enc) (C := Tryz.checked) (os := os) (X := fun w _ => laidMetH Tryz.prog laidL w) false (World.laidAll Tryz.prog os laidL) #[.int .i64 0, .int .i64 0, .int .i64 0, .int .i64 0] 8 (World.laidAll_os _ _ _)
      (World.shaped_of_ZipB (by kernel_rfl) (by kernel_rfl)) (by kernel_rfl) (by kernel_rfl) (by kernel_rfl)
      (by rw [MakeChecks.laidMetH_plain _ _ _ (by kernel_rfl)]; exact laidMet_laidAll _ (by kernel_rfl) (by kernel_rfl)))
    (fun W base args ds p hval hA hg => roundNearest_law W base args ds p hval hA hg)

theorem roundNearest_holds : Rows.RoundNearestSaid :=
  OpenClaim.holds_of_wide 4 Tryz.f4 rfl rfl rfl rfl rfl rfl rfl ⟨rfl, rfl, rfl, rfl, rfl⟩ rfl rfl rfl rfl rfl (by kernel_rfl) Tryz.func4 (by kernel_rfl)
    (of_decide_eq_true (by kernel_rfl)) (by unfold Func.isWrapper; first | (rw [if_pos (by decide +kernel)]; kernel_rfl) | (rw [if_neg (by decide +kernel)]; exact ⟨rfl, rfl⟩))
    (fun os started H enc _ => roundNearest_lifted os started H enc)

theorem roundNearest_card : Rows.RoundNearestCardSaid :=
  Claim7.holds_tied_plain_at .later [] [.data, .data, .data, .data, .pinned] true (true, "96da020e9171284ac76ac3c82595ce7ceccbab9aed8a1f73712d8b3a4229c7e5") true
    roundNearest_holds (fun _ h => by cases h) (by kernel_rfl) (fun _ h => by cases h) roundNearest_row_tie rfl ⟨rfl, rfl⟩ (by kernel_rfl) rfl
    (fun f fn hf hfn => by
      obtain rfl : f = 4 := Option.some.inj ((show Tryz.prog.funcNamed "ephemerist/ephemeristlaw04.RoundNearest" = some 4 by kernel_rfl).symm.trans hf) |>.symm
      obtain rfl : fn = Tryz.f4 := (Option.some.inj (Tryz.func4.symm.trans hfn)).symm
      exact ⟨by kernel_rfl, fun j t ht => by
        rw [Tryz.params4] at ht
        have hm : t ∈ [3, 3, 22, 3] := by simpa using Array.mem_of_getElem? ht
        have hall : ([3, 3, 22, 3].all fun u => !Tryz.prog.wantsStandIn u) = true := by kernel_rfl
        exact (show Tryz.prog.wantsStandIn t = false by simpa using List.all_eq_true.1 hall t hm)⟩)
    (by kernel_rfl)
end Go.Proofs.YtebellbkmioadaaGreatDoor

