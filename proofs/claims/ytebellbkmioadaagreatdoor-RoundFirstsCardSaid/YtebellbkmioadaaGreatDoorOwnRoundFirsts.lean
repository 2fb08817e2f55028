/- RoundFirsts: for every input the law returns true, and each argument reads behind the call as it read before. Conditions: the package-level variables that the row lists hold what the program's text lays (tied by the card). -/
import Derived.Test.YtebellbkmioadaaGreatDoorOwnC
import Derived.Test.YtebellbkmioadaaGreatDoorOwnE
import Derived.Test.YtebellbkmioadaaGreatDoorOwnF
import Derived.LaidOnce
import Derived.SevenTiedAt
import Derived.Test.YtebellbkmioadaaGreatDoorTie
import Derived.Test.YtebellbkmioadaaGreatDoorCards
set_option linter.unusedVariables false
set_option linter.unusedSimpArgs false
namespace Go.Proofs
open Go Go.Sx

/-! # Plain laws of round: rounding -/

/-! ## Numbers behind a figure -/

/-! ## Lists that lie on a map from one place on -/

def SeqOk (L : List Sp) (lo : Int) (G : Int → Option Sp) : Prop := ∀ k, G k = if lo ≤ k ∧ k < lo + L.length then L[(k - lo).toNat]? else none
theorem seq_in {L : List Sp} {lo : Int} {G : Int → Option Sp} (h : SeqOk L lo G) {j : Nat} {v : Sp} (hj : L[j]? = some v) : G (lo + j) = some v := by
  have := (List.getElem?_eq_some_iff.1 hj).1
  rw [h, if_pos (by omega), show (lo + (j : Int) - lo).toNat = j by omega, hj]
theorem seq_some {L : List Sp} {lo : Int} {G : Int → Option Sp} (h : SeqOk L lo G) {k : Int} {v : Sp} (hk : G k = some v) : ∃ j : Nat, k = lo + j ∧ L[j]? = some v := by
  rw [h] at hk
  split at hk
  · exact ⟨(k - lo).toNat, by omega, hk⟩
  · cases hk
theorem mgO_isSome (a b : Option Sp) : (mgO a b).isSome = (a.isSome || b.isSome) := by cases a <;> cases b <;> rfl
theorem shO_isSome (a : Option Sp) (f : Int) : (shO a f).isSome = a.isSome := by cases a <;> rfl
theorem stepO_some {F : Int → Int} {G : Int → Option Sp} {k : Int} : ∀ {P : List Int}, (stepO F G P k).isSome = P.any fun n => (G (k - n)).isSome := by
  have key : ∀ (P : List Int) (o : Option Sp), (P.foldl (fun o n => mgO o (shO (G (k - n)) (F n))) o).isSome = (o.isSome || P.any fun n => (G (k - n)).isSome) := by
    intro P
    induction P with
    | nil => intro o; simp
    | cons n P ih => intro o; rw [List.foldl_cons, ih, mgO_isSome, shO_isSome, List.any_cons, Bool.or_assoc]
  intro P
  rw [stepO, key]; rfl
theorem seq_isSome {L : List Sp} {lo : Int} {G : Int → Option Sp} (h : SeqOk L lo G) (k : Int) : (G k).isSome = decide (lo ≤ k ∧ k < lo + L.length) := by
  rw [h]
  by_cases hc : lo ≤ k ∧ k < lo + L.length
  · rw [if_pos hc, decide_eq_true hc]
    obtain ⟨v, hv⟩ := some_get (xs := L) (k := (k - lo).toNat) (by omega)
    rw [hv]; rfl
  · rw [if_neg hc, decide_eq_false hc]; rfl
/-- One more row of sums. -/
theorem seq_step {F : Int → Int} {e r : Int} (he : 0 ≤ e) {L L2 : List Sp} {lo : Int} {G : Int → Option Sp} (h : SeqOk L lo G) (h1 : 1 ≤ L.length) (hl : (L2.length : Int) = L.length + 2 * e)
    (hall : ∀ j : Nat, j < L2.length → L2[j]? = stepO F G (exL e r) (lo + (r - e) + j)) : SeqOk L2 (lo + (r - e)) (stepO F G (exL e r)) := by
  intro k
  by_cases hc : lo + (r - e) ≤ k ∧ k < lo + (r - e) + L2.length
  · rw [if_pos hc, hall _ (by omega)]
    congr 1; omega
  · rw [if_neg hc]
    have h2 : (stepO F G (exL e r) k).isSome = false := by
      rw [stepO_some, List.any_eq_false]
      intro n hn
      have := (mem_exL he).1 hn
      rw [seq_isSome h]
      simp only [decide_eq_true_eq]
      omega
    cases hq : stepO F G (exL e r) k with
    | none => rfl
    | some v => rw [hq] at h2; cases h2
theorem seq_full {F : Int → Int} {e r : Int} (he : 0 ≤ e) {L : List Sp} {lo : Int} {G : Int → Option Sp} (h : SeqOk L lo G) (h1 : 1 ≤ L.length) {j : Nat} (hj : (j : Int) < L.length + 2 * e) : ∃ v, stepO F G (exL e r) (lo + (r - e) + j) = some v := by
  refine Option.isSome_iff_exists.1 ?_
  rw [stepO_some, List.any_eq_true]
  by_cases hc : (j : Int) ≤ 2 * e
  · refine ⟨r - e + j, (mem_exL he).2 (by omega), ?_⟩
    rw [seq_isSome h]; simp only [decide_eq_true_eq]; omega
  · refine ⟨r + e, (mem_exL he).2 (by omega), ?_⟩
    rw [seq_isSome h]; simp only [decide_eq_true_eq]; omega
theorem mgO_sh (a b : Option Sp) (f : Int) : mgO (shO a f) (shO b f) = shO (mgO a b) f := by
  cases a <;> cases b <;> simp only [shO, mgO, Option.map_some, Option.map_none] <;> congr 1
  apply Prod.ext <;> simp only <;> omega
theorem shO_shO (a : Option Sp) (f g : Int) : shO (shO a f) g = shO a (f + g) := by
  cases a <;> simp only [shO, Option.map_some, Option.map_none]
  congr 1; apply Prod.ext <;> simp only <;> omega
/-- A map that is shifted. -/
def shM (G : Int → Option Sp) (c f : Int) : Int → Option Sp := fun k => shO (G (k - c)) f
theorem stepO_shM (F : Int → Int) (G : Int → Option Sp) (c f : Int) (P : List Int) : stepO F (shM G c f) P = shM (stepO F G P) c f := by
  funext k
  have key : ∀ (P : List Int) (o : Option Sp), P.foldl (fun o n => mgO o (shO (shM G c f (k - n)) (F n))) (shO o f) = shO (P.foldl (fun o n => mgO o (shO (G (k - c - n)) (F n))) o) f := by
    intro P
    induction P with
    | nil => intro o; rfl
    | cons n P ih =>
      intro o
      rw [List.foldl_cons, List.foldl_cons, ← ih]
      congr 1
      simp only [shM]
      rw [show k - n - c = k - c - n by omega, shO_shO, Int.add_comm f, ← shO_shO, mgO_sh]
  exact key P none
/-- What the reference's sums lie on: truths that begin with some numbers. -/
def sumP (F : Int → Int) (e : Int) (now rows : List Int) : Int → Option Sp := shM (sumO F e rows) (sumI now) (figO F now)
theorem sumP_snoc (F : Int → Int) (e : Int) (now rows : List Int) (r : Int) : sumP F e now (rows ++ [r]) = stepO F (sumP F e now rows) (exL e r) := by
  rw [sumP, sumO_snoc, sumP, stepO_shM]
theorem sumP_nil (F : Int → Int) (e : Int) (now : List Int) : SeqOk [(figO F now, figO F now)] (sumI now) (sumP F e now []) := by
  intro k
  show shO (O0 (k - sumI now)) (figO F now) = _
  by_cases hc : k = sumI now
  · subst hc
    rw [if_pos (by simp; omega)]
    simp [O0, shO]
  · rw [if_neg (by simp; omega), O0, if_neg (by omega)]; rfl
theorem sumP_isE {F : Int → Int} {e : Int} (he : 0 ≤ e) (now rows : List Int) (k : Int) : IsE (fun x => ∃ t, truK e rows t = true ∧ sumI (now ++ t) = k ∧ figO F (now ++ t) = x) (sumP F e now rows k) := by
  refine isE_congr (isE_sh (figO F now) (sumO_isE (F := F) he rows (k - sumI now))) fun x => ?_
  constructor
  · rintro ⟨t, h1, h2, h3⟩
    exact ⟨t, h1, by rw [sumI_app]; omega, by rw [figO_app]; omega⟩
  · rintro ⟨t, h1, h2, h3⟩
    rw [sumI_app] at h2; rw [figO_app] at h3
    exact ⟨t, h1, by omega, by omega⟩
/-- What a total's difference can be, by truths that begin with some numbers. -/
theorem sumP_ends {F : Int → Int} {e : Int} (he : 0 ≤ e) (now rows : List Int) (of : Int → Int → Int) (hm : ∀ k a b, a ≤ b → of k a ≤ of k b) {L : List Sp} {lo : Int} (hL : SeqOk L lo (sumP F e now rows)) {z : Sp}
    (hz : IsE (fun x => ∃ (j : Nat) (v : Sp), L[j]? = some v ∧ (x = of (lo + j) v.1 ∨ x = of (lo + j) v.2)) (some z)) : IsE (fun x => ∃ t, truK e rows t = true ∧ of (sumI (now ++ t)) (figO F (now ++ t)) = x) (some z) := by
  have hG := sumP_isE (F := F) he now rows
  have at_ : ∀ t, truK e rows t = true → ∃ (j : Nat) (v : Sp), L[j]? = some v ∧ sumI (now ++ t) = lo + j ∧ v.1 ≤ figO F (now ++ t) ∧ figO F (now ++ t) ≤ v.2 := fun t ht => by
    have := hG (sumI (now ++ t))
    cases hq : sumP F e now rows (sumI (now ++ t)) with
    | none => rw [hq] at this; exact absurd ⟨t, ht, rfl, rfl⟩ (this _)
    | some v =>
      rw [hq] at this
      obtain ⟨j, h1, h2⟩ := seq_some hL hq
      exact ⟨j, v, h2, h1, this.2.2 _ ⟨t, ht, rfl, rfl⟩⟩
  have tr_ : ∀ (j : Nat) (v : Sp), L[j]? = some v → (∃ t, truK e rows t = true ∧ of (sumI (now ++ t)) (figO F (now ++ t)) = of (lo + j) v.1) ∧ (∃ t, truK e rows t = true ∧ of (sumI (now ++ t)) (figO F (now ++ t)) = of (lo + j) v.2) := fun j v hj => by
    have := hG (lo + j)
    rw [seq_in hL hj] at this
    obtain ⟨⟨t1, c1, c2, c3⟩, ⟨t2, d1, d2, d3⟩, _⟩ := this
    exact ⟨⟨t1, c1, by rw [c2, c3]⟩, ⟨t2, d1, by rw [d2, d3]⟩⟩
  obtain ⟨⟨j1, v1, a1, a2⟩, ⟨j2, v2, b1, b2⟩, h3⟩ := hz
  refine ⟨?_, ?_, ?_⟩
  · rcases a2 with a2 | a2
    · obtain ⟨t, h1, h2⟩ := (tr_ _ _ a1).1; exact ⟨t, h1, h2.trans a2.symm⟩
    · obtain ⟨t, h1, h2⟩ := (tr_ _ _ a1).2; exact ⟨t, h1, h2.trans a2.symm⟩
  · rcases b2 with b2 | b2
    · obtain ⟨t, h1, h2⟩ := (tr_ _ _ b1).1; exact ⟨t, h1, h2.trans b2.symm⟩
    · obtain ⟨t, h1, h2⟩ := (tr_ _ _ b1).2; exact ⟨t, h1, h2.trans b2.symm⟩
  · rintro x ⟨t, ht, rfl⟩
    obtain ⟨j, v, h1, h2, h4, h5⟩ := at_ t ht
    rw [h2]
    have e1 := h3 _ ⟨j, v, h1, .inl rfl⟩
    have e2 := h3 _ ⟨j, v, h1, .inr rfl⟩
    have e3 := hm (lo + j) _ _ h4
    have e4 := hm (lo + j) _ _ h5
    omega
/-- The least and the greatest of pairs, walked. -/
def accK (A : Nat → Sp) : Nat → Sp
  | 0 => A 0
  | k + 1 => (min (accK A k).1 (A k).1, max (accK A k).2 (A k).2)
theorem accK_ends {A : Nat → Sp} (hA : ∀ j, (A j).1 ≤ (A j).2) : ∀ {n : Nat}, 1 ≤ n → IsE (fun x => ∃ j : Nat, j < n ∧ (x = (A j).1 ∨ x = (A j).2)) (some (accK A n))
  | 0, h => absurd h (by decide)
  | 1, _ => by
    have h0 : accK A 1 = A 0 := by
      simp only [accK]; apply Prod.ext <;> simp
    rw [h0]
    refine ⟨⟨0, by decide, .inl rfl⟩, ⟨0, by decide, .inr rfl⟩, ?_⟩
    rintro x ⟨j, hj, hx⟩
    have : j = 0 := by omega
    subst this
    have := hA 0
    omega
  | n + 2, _ => by
    have ih := accK_ends hA (n := n + 1) (by omega)
    generalize hz : accK A (n + 1) = z at ih
    have e : accK A (n + 2) = (min z.1 (A (n + 1)).1, max z.2 (A (n + 1)).2) := by rw [← hz]; rfl
    rw [e]
    obtain ⟨⟨j1, a1, a2⟩, ⟨j2, b1, b2⟩, h3⟩ := ih
    have hA1 := hA (n + 1)
    refine ⟨?_, ?_, ?_⟩
    · by_cases hc : z.1 ≤ (A (n + 1)).1
      · exact ⟨j1, by omega, by simp only [Int.min_eq_left hc]; exact a2⟩
      · exact ⟨n + 1, by omega, .inl (by simp only; omega)⟩
    · by_cases hc : (A (n + 1)).2 ≤ z.2
      · exact ⟨j2, by omega, by simp only [Int.max_eq_left hc]; exact b2⟩
      · exact ⟨n + 1, by omega, .inr (by simp only; omega)⟩
    · rintro x ⟨j, hj, hx⟩
      by_cases hjn : j = n + 1
      · subst hjn; simp only; omega
      · have := h3 x ⟨j, by omega, hx⟩
        simp only; omega
end Go.Proofs


namespace Go.Proofs
open Go Go.Sx

/-! # Plain laws of round: what is sure -/

/-! ## More guard figures -/

theorem endT_E {F : Int → Int} {e : Int} (he : 0 ≤ e) (rows : List Int) (of : Int → Int → Int) : IsE (fun x => ∃ t, truK e rows t = true ∧ of (sumI t) (figO F t) = x) (some ((endT F e rows of).getD (0, 0))) := by
  have := endT_isE (F := F) he rows of
  rwa [endT_some he] at this
/-! ## Totals of truths -/

/-! ## The other sign -/

end Go.Proofs


namespace Go.Proofs
open Go Go.Sx

/-! # Plain laws of round: totals that fail -/

theorem failT_iff {sh : Sh} {t : List Int} : failT sh t = true ↔ figO (fig sh) t - fig sh (sumI t) ≠ 0 := by
  simp only [failT, decide_eq_true_eq]; omega
/-- No difference: nothing fails. -/
theorem fir_none {sh : Sh} {e : Int} {now : List Int} {z : Sp} (he : 0 ≤ e) (hz : IsE (fun x => ∃ t, truK e (sh.rows.drop now.length) t = true ∧ figO (fig sh) (now ++ t) - fig sh (sumI (now ++ t)) = x) (some z)) : firF sh e now = none ↔ z = (0, 0) := by
  rw [firF, List.find?_eq_none]
  constructor
  · intro h
    have key : ∀ x, (∃ t, truK e (sh.rows.drop now.length) t = true ∧ figO (fig sh) (now ++ t) - fig sh (sumI (now ++ t)) = x) → x = 0 := by
      rintro x ⟨t, ht, rfl⟩
      have h1 := h (now ++ t) (List.mem_map.2 ⟨t, (mem_truR he).2 ht, rfl⟩)
      have h2 : ¬ (figO (fig sh) (now ++ t) - fig sh (sumI (now ++ t)) ≠ 0) := fun hh => h1 (failT_iff.2 hh)
      omega
    exact Prod.ext (key _ hz.1) (key _ hz.2.1)
  · rintro rfl t ht hf
    obtain ⟨u, hu, rfl⟩ := List.mem_map.1 ht
    have h1 := hz.2.2 _ ⟨u, (mem_truR he).1 hu, rfl⟩
    have h2 := failT_iff.1 hf
    simp only at h1; omega
theorem dif_E {sh : Sh} {e : Int} (he : 0 ≤ e) : IsE (fun x => ∃ t, truK e sh.rows t = true ∧ figO (fig sh) t - fig sh (sumI t) = x) (some (rDif sh e)) := endT_E he sh.rows (fun k a => a - fig sh k)
theorem fir_dif {sh : Sh} {e : Int} (he : 0 ≤ e) : firF sh e [] = none ↔ rDif sh e = (0, 0) := fir_none he (by simpa using dif_E (sh := sh) he)
theorem befI_irr : ∀ a : List Int, befI a a = false
  | [] => rfl
  | x :: a => by simp [befI, befI_irr a]
theorem befI_asy : ∀ {a b : List Int}, befI a b = true → befI b a = false
  | [], _ :: _, _ => rfl
  | x :: a, [], h => by simp [befI] at h
  | [], [], h => by simp [befI] at h
  | x :: a, y :: b, h => by
    simp only [befI] at h ⊢
    by_cases hxy : x = y
    · subst hxy
      simp only [if_true] at h ⊢
      exact befI_asy h
    · rw [if_neg hxy] at h
      rw [if_neg (fun hh => hxy hh.symm)]
      have := of_decide_eq_true h
      exact decide_eq_false (by omega)
theorem rng_pair : ∀ (n : Nat) (lo : Int), (rngN lo n).Pairwise (· < ·)
  | 0, _ => List.Pairwise.nil
  | n + 1, lo => List.Pairwise.cons (fun x hx => by have := mem_rngN.1 hx; omega) (rng_pair n (lo + 1))
theorem truR_pair (e : Int) : ∀ rs : List Int, (truR e rs).Pairwise (fun a b => befI a b = true)
  | [] => by simp [truR]
  | r :: rs => by
    rw [truR, List.pairwise_flatMap]
    refine ⟨fun n _ => ?_, ?_⟩
    · rw [List.pairwise_map]
      exact (truR_pair e rs).imp (fun h => by simpa [befI] using h)
    · refine (rng_pair _ _).imp ?_
      intro n m hnm x hx y hy
      obtain ⟨x', _, rfl⟩ := List.mem_map.1 hx
      obtain ⟨y', _, rfl⟩ := List.mem_map.1 hy
      simp only [befI]
      rw [if_neg (by omega)]
      exact decide_eq_true hnm
theorem fir_def {sh : Sh} {e : Int} : firF sh e [] = (truR e sh.rows).find? (failT sh) := by simp [firF]
/-- The first truth that fails. -/
theorem fir_some {sh : Sh} {e : Int} (he : 0 ≤ e) {x : List Int} (h : firF sh e [] = some x) : truK e sh.rows x = true ∧ failT sh x = true ∧ ∀ t, truK e sh.rows t = true → failT sh t = true → befI t x = false := by
  rw [fir_def] at h
  refine ⟨(mem_truR he).1 (List.mem_of_find?_eq_some h), List.find?_some h, fun t ht hf => ?_⟩
  obtain ⟨hp, pre, suf, hl, ha⟩ := List.find?_eq_some_iff_append.1 h
  have hm := (mem_truR he).2 ht
  have hpw := truR_pair e sh.rows
  rw [hl] at hm hpw
  rcases List.mem_append.1 hm with hm | hm
  · have := ha t hm
    rw [hf] at this; cases this
  · rcases List.mem_cons.1 hm with rfl | hm
    · exact befI_irr _
    · exact befI_asy ((List.pairwise_cons.1 (List.pairwise_append.1 hpw).2.1).1 t hm)
theorem rFst_cases (sh : Sh) (e : Int) : (∃ k : Nat, k < sh.rows.length ∧ rFst sh e = ((k : Int), 0) ∧ rDif (untS sh k) e ≠ (0, 0) ∧ ∀ j, j < k → rDif (untS sh j) e = (0, 0)) ∨ (rFst sh e = (0, 5) ∧ ∀ k, k < sh.rows.length → rDif (untS sh k) e = (0, 0)) := by
  by_cases hn : ∃ j : Nat, j < sh.rows.length ∧ rDif (untS sh j) e ≠ (0, 0)
  · have hex : ∃ j : Nat, (j < sh.rows.length ∧ rDif (untS sh j) e ≠ (0, 0)) ∧ ∀ i, i < j → rDif (untS sh i) e = (0, 0) := by
      obtain ⟨j, hj⟩ := hn
      induction j using Nat.strongRecOn with
      | _ j ih =>
        by_cases hc : ∃ i, i < j ∧ rDif (untS sh i) e ≠ (0, 0)
        · obtain ⟨i, h1, h2⟩ := hc
          exact ih i h1 ⟨by omega, h2⟩
        · refine ⟨j, hj, fun i hi => ?_⟩
          by_cases hq : rDif (untS sh i) e = (0, 0)
          · exact hq
          · exact absurd ⟨i, hi, hq⟩ hc
    obtain ⟨j, ⟨h1, h2⟩, h3⟩ := hex
    exact .inl ⟨j, h1, rFst_some h1 h3 h2, h2, h3⟩
  · have hall : ∀ k, k < sh.rows.length → rDif (untS sh k) e = (0, 0) := fun k hk => by
      by_cases hq : rDif (untS sh k) e = (0, 0)
      · exact hq
      · exact absurd ⟨k, hk, hq⟩ hn
    exact .inr ⟨rFst_none hall, hall⟩
/-- The reference's search: one more number of the first truth. -/
theorem fir_next {sh : Sh} {e r n : Int} {now : List Int} (he : 0 ≤ e) (hr : sh.rows[now.length]? = some r) (h1 : r - e ≤ n) (h2 : n ≤ r + e) (hall : ∀ m, r - e ≤ m → m < n → firF sh e (now ++ [m]) = none) (h : firF sh e (now ++ [n]) ≠ none) : firF sh e now = firF sh e (now ++ [n]) := by
  obtain ⟨t, ht⟩ := Option.ne_none_iff_exists'.1 h
  rw [ht]
  have hn : n ∈ exL e r := (mem_exL he).2 ⟨h1, h2⟩
  have hN : (n - (r - e)).toNat < (2 * e + 1).toNat := by omega
  have hj : r - e + ((n - (r - e)).toNat : Int) = n := by omega
  have hc := rng_cons (lo := r - e) hN
  rw [hj] at hc
  have hsf : rngN n ((2 * e + 1).toNat - (n - (r - e)).toNat) <:+ exL e r := by
    have := rng_sfx (r - e) (2 * e + 1).toNat (n - (r - e)).toNat
    rwa [hj] at this
  rw [hc] at hsf
  refine firF_some hr hsf (fun m hm => ?_) ht
  rw [pfxL] at hm
  have hlen : ∀ (k : Nat) (lo : Int), (rngN lo k).length = k := by
    intro k
    induction k with
    | zero => intro lo; rfl
    | succ k ih => intro lo; simp [rngN, ih]
  rw [← hc, exL, hlen, hlen, show (2 * e + 1).toNat - ((2 * e + 1).toNat - (n - (r - e)).toNat) = (n - (r - e)).toNat by omega] at hm
  obtain ⟨q, hq⟩ := List.mem_iff_getElem?.1 hm
  rw [List.getElem?_take] at hq
  split at hq
  · rename_i hlt
    have h3 : ∀ (k : Nat) (lo : Int) (q : Nat) (v : Int), (rngN lo k)[q]? = some v → v = lo + q := by
      intro k
      induction k with
      | zero => intro lo q v hh; simp [rngN] at hh
      | succ k ih =>
        intro lo q v hh
        cases q with
        | zero => simp [rngN] at hh; omega
        | succ q =>
          have := ih (lo + 1) q v (by simpa [rngN] using hh)
          omega
    have h4 := h3 _ _ _ _ hq
    exact hall m (by omega) (by omega)
  · cases hq
theorem fir_ex {sh : Sh} {e r : Int} {now : List Int} (hr : sh.rows[now.length]? = some r) (h : firF sh e now ≠ none) : ∃ n ∈ exL e r, firF sh e (now ++ [n]) ≠ none := by
  rw [firF_step hr] at h
  obtain ⟨t, ht⟩ := Option.ne_none_iff_exists'.1 h
  obtain ⟨n, hn, h2⟩ := List.exists_of_findSome?_eq_some ht
  exact ⟨n, hn, by rw [h2]; simp⟩
theorem fir_done {sh : Sh} {e : Int} {now : List Int} (hl : now.length = sh.rows.length) (h : firF sh e now ≠ none) : firF sh e now = some now := by
  have hd : sh.rows.drop now.length = [] := by rw [hl]; simp
  simp only [firF, hd, truR, List.map_cons, List.map_nil, List.append_nil, List.find?_cons, List.find?_nil] at h ⊢
  split <;> rename_i hf
  · rfl
  · rw [hf] at h; exact absurd rfl h

/-! ## What is behind figures -/

end Go.Proofs


namespace Go.Proofs
open Go Go.Sx Go.RowKit

theorem toF_q {u v q : Int} (hu : 1 ≤ u) (h1 : q * u ≤ v) (h2 : v < q * u + u) : toF u 1 v = q ∧ (toF u 2 v = if v - q * u > 0 then q + 1 else q) ∧ (toF u 3 v = if 2 * (v - q * u) ≥ u then q + 1 else q) ∧ (toF u 4 v = if 2 * (v - q * u) > u ∨ 2 * (v - q * u) = u ∧ q % 2 ≠ 0 then q + 1 else q) := by
  have e1 : v / u = q := ediv_uniq (by omega) h1 h2
  have e2 := near_eq v (u := u) (by omega)
  rw [e1] at e2
  refine ⟨?_, ?_, ?_, ?_⟩
  · simp only [toF, if_true]; exact e1
  · simp only [toF, show ¬ ((2 : Int) = 1) from by decide, if_false, if_true]
    split
    · have : (-v) / u = -(q + 1) := ediv_uniq (by omega) (by rw [Int.neg_mul, Int.add_mul, Int.one_mul]; omega) (by rw [Int.neg_mul, Int.add_mul, Int.one_mul]; omega)
      omega
    · have : (-v) / u = -q := ediv_uniq (by omega) (by rw [Int.neg_mul]; omega) (by rw [Int.neg_mul]; omega)
      omega
  · simp only [toF, show ¬ ((3 : Int) = 1) from by decide, show ¬ ((3 : Int) = 2) from by decide, if_false, if_true]
    exact e2
  · simp only [toF, show ¬ ((4 : Int) = 1) from by decide, show ¬ ((4 : Int) = 2) from by decide, show ¬ ((4 : Int) = 3) from by decide, if_false]
    have e3 : 2 * u * q = 2 * (q * u) := by rw [Int.mul_assoc, Int.mul_comm u q]
    have e4 : 2 * u * (q + 1) = 2 * (q * u) + 2 * u := by rw [Int.mul_add, e3, Int.mul_one]
    by_cases hc : u ≤ 2 * (v - q * u)
    · rw [if_pos hc] at e2
      rw [e2, e4]
      split <;> split <;> omega
    · rw [if_neg hc] at e2
      rw [e2, e3]
      split <;> split <;> omega

set_option maxRecDepth 20000 in
theorem ref_To1 (v u : Int) (w : World) (hu : 1 ≤ u ∧ u ≤ 1048576) (hv : -1099511627776 ≤ v ∧ v ≤ 1099511627776) : Calls Tryz.prog 18 #[(.int .i64 v), (.int .i64 u), (.int .i64 1)] w (RetV w (.int .i64 (toF u 1 v))) := by
  have hu0 : 0 < u := by omega
  have hb := tdiv_bd v (B := 1099511627776) hu0 (by omega) (by omega)
  have hc := tdiv_cases v hu0
  have he := ediv_bd v hu0
  have hm : (v.tdiv u - 1) * u = v.tdiv u * u - u := by rw [Int.sub_mul, Int.one_mul]
  refine calls_T0 (av := [_, _, _]) Tryz.func18 rfl rfl rfl ?_
  refine t_seq ?_
  refine t_reg ?_
  refine to_as rfl rfl ?_
  refine to_nil ?_
  refine tn_code ?_
  refine t_seq ?_
  refine t_reg ?_
  refine to_mv rfl rfl ?_
  refine to_mv rfl rfl ?_
  refine to_quoE rfl rfl (by omega) (wrap_id (by omega)) rfl ?_
  refine to_as rfl rfl ?_
  refine to_nil ?_
  refine tn_code ?_
  refine t_seq ?_
  refine t_seq ?_
  refine t_reg ?_
  refine to_mv rfl rfl ?_
  refine to_mv rfl rfl ?_
  refine to_mv rfl rfl ?_
  refine to_mul rfl rfl (by first | omega | exact mul_ok (by omega) (by omega) (by omega) (by omega)) rfl ?_
  refine to_lss rfl rfl rfl ?_
  refine to_nil ?_
  refine tn_code ?_
  refine t_if rfl (fun h1 => ?_) (fun h1 => ?_)
  · try simp only [decide_eq_true_eq, decide_eq_false_iff_not, Bool.not_eq_true', Bool.not_eq_false', Int.not_lt, Int.not_le, ne_eq, Decidable.not_not] at h1
    try have h1b := inB_iff.1 h1
    rcases hc with ⟨e, hx⟩ | ⟨e, hx⟩
    · exfalso; omega
    rw [← e] at he
    have hq := toF_q hu.1 he.1 he.2
    refine t_reg ?_
    refine to_mv rfl rfl ?_
    refine to_sub rfl rfl (by omega) rfl ?_
    refine to_as rfl rfl ?_
    refine to_nil ?_
    refine tn_code ?_
    refine t_seq ?_
    refine t_reg ?_
    refine to_mv rfl rfl ?_
    refine to_mv rfl rfl ?_
    refine to_mv rfl rfl ?_
    refine to_mul rfl rfl (by first | omega | exact mul_ok (by omega) (by omega) (by omega) (by omega)) rfl ?_
    refine to_sub rfl rfl (by omega) rfl ?_
    refine to_as rfl rfl ?_
    refine to_nil ?_
    refine tn_code ?_
    refine t_seq ?_
    refine t_reg ?_
    refine to_as rfl rfl ?_
    refine to_nil ?_
    refine tn_code ?_
    refine t_seq ?_
    refine t_seq ?_
    refine t_reg ?_
    refine to_mv rfl rfl ?_
    refine to_nil ?_
    refine tn_code ?_
    refine t_blk ?_
    refine t_seq ?_
    refine t_reg ?_
    refine to_eql rfl rfl rfl ?_
    refine to_fix (s := 27) (b' := false) rfl (rfl) ?_
    refine to_as rfl rfl ?_
    refine to_nil ?_
    refine tn_code ?_
    refine t_ifF rfl ?_
    refine t_seq ?_
    refine t_reg ?_
    refine to_eql rfl rfl rfl ?_
    refine to_fix (s := 31) (b' := false) rfl (rfl) ?_
    refine to_as rfl rfl ?_
    refine to_nil ?_
    refine tn_code ?_
    refine t_ifF rfl ?_
    refine t_seq ?_
    refine t_reg ?_
    refine to_eql rfl rfl rfl ?_
    refine to_fix (s := 37) (b' := false) rfl (rfl) ?_
    refine to_as rfl rfl ?_
    refine to_nil ?_
    refine tn_code ?_
    refine t_ifF rfl ?_
    refine t_skip ?_
    refine tn_blk ?_
    refine tn_code ?_
    refine t_seq ?_
    refine t_seq ?_
    refine t_reg ?_
    refine to_mv rfl rfl ?_
    refine to_nil ?_
    refine tn_code ?_
    refine t_ifF rfl ?_
    refine t_skip ?_
    refine tn_code ?_
    refine t_seq ?_
    refine t_reg ?_
    refine to_mv rfl rfl ?_
    refine to_as rfl rfl ?_
    refine to_nil ?_
    refine tn_code ?_
    refine t_ret1 rfl rfl (res_tmp rfl) (fun w' s => ?_)
    refine congrArg (Value.int .i64) ?_
    exact hq.1.symm
  · try simp only [decide_eq_true_eq, decide_eq_false_iff_not, Bool.not_eq_true', Bool.not_eq_false', Int.not_lt, Int.not_le, ne_eq, Decidable.not_not] at h1
    try have h1b := inB_iff.1 h1
    rcases hc with ⟨e, hx⟩ | ⟨e, hx⟩
    rotate_left
    · exfalso; omega
    rw [← e] at he
    have hq := toF_q hu.1 he.1 he.2
    refine t_skip ?_
    refine tn_code ?_
    refine t_seq ?_
    refine t_reg ?_
    refine to_mv rfl rfl ?_
    refine to_mv rfl rfl ?_
    refine to_mv rfl rfl ?_
    refine to_mul rfl rfl (by first | omega | exact mul_ok (by omega) (by omega) (by omega) (by omega)) rfl ?_
    refine to_sub rfl rfl (by omega) rfl ?_
    refine to_as rfl rfl ?_
    refine to_nil ?_
    refine tn_code ?_
    refine t_seq ?_
    refine t_reg ?_
    refine to_as rfl rfl ?_
    refine to_nil ?_
    refine tn_code ?_
    refine t_seq ?_
    refine t_seq ?_
    refine t_reg ?_
    refine to_mv rfl rfl ?_
    refine to_nil ?_
    refine tn_code ?_
    refine t_blk ?_
    refine t_seq ?_
    refine t_reg ?_
    refine to_eql rfl rfl rfl ?_
    refine to_fix (s := 27) (b' := false) rfl (rfl) ?_
    refine to_as rfl rfl ?_
    refine to_nil ?_
    refine tn_code ?_
    refine t_ifF rfl ?_
    refine t_seq ?_
    refine t_reg ?_
    refine to_eql rfl rfl rfl ?_
    refine to_fix (s := 31) (b' := false) rfl (rfl) ?_
    refine to_as rfl rfl ?_
    refine to_nil ?_
    refine tn_code ?_
    refine t_ifF rfl ?_
    refine t_seq ?_
    refine t_reg ?_
    refine to_eql rfl rfl rfl ?_
    refine to_fix (s := 37) (b' := false) rfl (rfl) ?_
    refine to_as rfl rfl ?_
    refine to_nil ?_
    refine tn_code ?_
    refine t_ifF rfl ?_
    refine t_skip ?_
    refine tn_blk ?_
    refine tn_code ?_
    refine t_seq ?_
    refine t_seq ?_
    refine t_reg ?_
    refine to_mv rfl rfl ?_
    refine to_nil ?_
    refine tn_code ?_
    refine t_ifF rfl ?_
    refine t_skip ?_
    refine tn_code ?_
    refine t_seq ?_
    refine t_reg ?_
    refine to_mv rfl rfl ?_
    refine to_as rfl rfl ?_
    refine to_nil ?_
    refine tn_code ?_
    refine t_ret1 rfl rfl (res_tmp rfl) (fun w' s => ?_)
    refine congrArg (Value.int .i64) ?_
    exact hq.1.symm

set_option maxRecDepth 20000 in
theorem ref_To2 (v u : Int) (w : World) (hu : 1 ≤ u ∧ u ≤ 1048576) (hv : -1099511627776 ≤ v ∧ v ≤ 1099511627776) : Calls Tryz.prog 18 #[(.int .i64 v), (.int .i64 u), (.int .i64 2)] w (RetV w (.int .i64 (toF u 2 v))) := by
  have hu0 : 0 < u := by omega
  have hb := tdiv_bd v (B := 1099511627776) hu0 (by omega) (by omega)
  have hc := tdiv_cases v hu0
  have he := ediv_bd v hu0
  have hm : (v.tdiv u - 1) * u = v.tdiv u * u - u := by rw [Int.sub_mul, Int.one_mul]
  refine calls_T0 (av := [_, _, _]) Tryz.func18 rfl rfl rfl ?_
  refine t_seq ?_
  refine t_reg ?_
  refine to_as rfl rfl ?_
  refine to_nil ?_
  refine tn_code ?_
  refine t_seq ?_
  refine t_reg ?_
  refine to_mv rfl rfl ?_
  refine to_mv rfl rfl ?_
  refine to_quoE rfl rfl (by omega) (wrap_id (by omega)) rfl ?_
  refine to_as rfl rfl ?_
  refine to_nil ?_
  refine tn_code ?_
  refine t_seq ?_
  refine t_seq ?_
  refine t_reg ?_
  refine to_mv rfl rfl ?_
  refine to_mv rfl rfl ?_
  refine to_mv rfl rfl ?_
  refine to_mul rfl rfl (by first | omega | exact mul_ok (by omega) (by omega) (by omega) (by omega)) rfl ?_
  refine to_lss rfl rfl rfl ?_
  refine to_nil ?_
  refine tn_code ?_
  refine t_if rfl (fun h1 => ?_) (fun h1 => ?_)
  · try simp only [decide_eq_true_eq, decide_eq_false_iff_not, Bool.not_eq_true', Bool.not_eq_false', Int.not_lt, Int.not_le, ne_eq, Decidable.not_not] at h1
    try have h1b := inB_iff.1 h1
    rcases hc with ⟨e, hx⟩ | ⟨e, hx⟩
    · exfalso; omega
    rw [← e] at he
    have hq := toF_q hu.1 he.1 he.2
    refine t_reg ?_
    refine to_mv rfl rfl ?_
    refine to_sub rfl rfl (by omega) rfl ?_
    refine to_as rfl rfl ?_
    refine to_nil ?_
    refine tn_code ?_
    refine t_seq ?_
    refine t_reg ?_
    refine to_mv rfl rfl ?_
    refine to_mv rfl rfl ?_
    refine to_mv rfl rfl ?_
    refine to_mul rfl rfl (by first | omega | exact mul_ok (by omega) (by omega) (by omega) (by omega)) rfl ?_
    refine to_sub rfl rfl (by omega) rfl ?_
    refine to_as rfl rfl ?_
    refine to_nil ?_
    refine tn_code ?_
    refine t_seq ?_
    refine t_reg ?_
    refine to_as rfl rfl ?_
    refine to_nil ?_
    refine tn_code ?_
    refine t_seq ?_
    refine t_seq ?_
    refine t_reg ?_
    refine to_mv rfl rfl ?_
    refine to_nil ?_
    refine tn_code ?_
    refine t_blk ?_
    refine t_seq ?_
    refine t_reg ?_
    refine to_eql rfl rfl rfl ?_
    refine to_fix (s := 27) (b' := true) rfl (rfl) ?_
    refine to_as rfl rfl ?_
    refine to_nil ?_
    refine tn_code ?_
    refine t_ifT rfl ?_
    refine t_reg ?_
    refine to_mv rfl rfl ?_
    refine to_gtr rfl rfl rfl ?_
    refine to_as rfl rfl ?_
    refine to_nil ?_
    refine tn_blk ?_
    refine tn_code ?_
    refine t_seq ?_
    refine t_seq ?_
    refine t_reg ?_
    refine to_mv rfl rfl ?_
    refine to_nil ?_
    refine tn_code ?_
    refine t_if rfl (fun h2 => ?_) (fun h2 => ?_)
    · try simp only [decide_eq_true_eq, decide_eq_false_iff_not, Bool.not_eq_true', Bool.not_eq_false', Int.not_lt, Int.not_le, ne_eq, Decidable.not_not] at h2
      try have h2b := inB_iff.1 h2
      refine t_reg ?_
      refine to_mv rfl rfl ?_
      refine to_add rfl rfl (by omega) rfl ?_
      refine to_as rfl rfl ?_
      refine to_nil ?_
      refine tn_code ?_
      refine t_seq ?_
      refine t_reg ?_
      refine to_mv rfl rfl ?_
      refine to_as rfl rfl ?_
      refine to_nil ?_
      refine tn_code ?_
      refine t_ret1 rfl rfl (res_tmp rfl) (fun w' s => ?_)
      refine congrArg (Value.int .i64) ?_
      rw [hq.2.1]; split <;> omega
    · try simp only [decide_eq_true_eq, decide_eq_false_iff_not, Bool.not_eq_true', Bool.not_eq_false', Int.not_lt, Int.not_le, ne_eq, Decidable.not_not] at h2
      try have h2b := inB_iff.1 h2
      refine t_skip ?_
      refine tn_code ?_
      refine t_seq ?_
      refine t_reg ?_
      refine to_mv rfl rfl ?_
      refine to_as rfl rfl ?_
      refine to_nil ?_
      refine tn_code ?_
      refine t_ret1 rfl rfl (res_tmp rfl) (fun w' s => ?_)
      refine congrArg (Value.int .i64) ?_
      rw [hq.2.1]; split <;> omega
  · try simp only [decide_eq_true_eq, decide_eq_false_iff_not, Bool.not_eq_true', Bool.not_eq_false', Int.not_lt, Int.not_le, ne_eq, Decidable.not_not] at h1
    try have h1b := inB_iff.1 h1
    rcases hc with ⟨e, hx⟩ | ⟨e, hx⟩
    rotate_left
    · exfalso; omega
    rw [← e] at he
    have hq := toF_q hu.1 he.1 he.2
    refine t_skip ?_
    refine tn_code ?_
    refine t_seq ?_
    refine t_reg ?_
    refine to_mv rfl rfl ?_
    refine to_mv rfl rfl ?_
    refine to_mv rfl rfl ?_
    refine to_mul rfl rfl (by first | omega | exact mul_ok (by omega) (by omega) (by omega) (by omega)) rfl ?_
    refine to_sub rfl rfl (by omega) rfl ?_
    refine to_as rfl rfl ?_
    refine to_nil ?_
    refine tn_code ?_
    refine t_seq ?_
    refine t_reg ?_
    refine to_as rfl rfl ?_
    refine to_nil ?_
    refine tn_code ?_
    refine t_seq ?_
    refine t_seq ?_
    refine t_reg ?_
    refine to_mv rfl rfl ?_
    refine to_nil ?_
    refine tn_code ?_
    refine t_blk ?_
    refine t_seq ?_
    refine t_reg ?_
    refine to_eql rfl rfl rfl ?_
    refine to_fix (s := 27) (b' := true) rfl (rfl) ?_
    refine to_as rfl rfl ?_
    refine to_nil ?_
    refine tn_code ?_
    refine t_ifT rfl ?_
    refine t_reg ?_
    refine to_mv rfl rfl ?_
    refine to_gtr rfl rfl rfl ?_
    refine to_as rfl rfl ?_
    refine to_nil ?_
    refine tn_blk ?_
    refine tn_code ?_
    refine t_seq ?_
    refine t_seq ?_
    refine t_reg ?_
    refine to_mv rfl rfl ?_
    refine to_nil ?_
    refine tn_code ?_
    refine t_if rfl (fun h3 => ?_) (fun h3 => ?_)
    · try simp only [decide_eq_true_eq, decide_eq_false_iff_not, Bool.not_eq_true', Bool.not_eq_false', Int.not_lt, Int.not_le, ne_eq, Decidable.not_not] at h3
      try have h3b := inB_iff.1 h3
      refine t_reg ?_
      refine to_mv rfl rfl ?_
      refine to_add rfl rfl (by omega) rfl ?_
      refine to_as rfl rfl ?_
      refine to_nil ?_
      refine tn_code ?_
      refine t_seq ?_
      refine t_reg ?_
      refine to_mv rfl rfl ?_
      refine to_as rfl rfl ?_
      refine to_nil ?_
      refine tn_code ?_
      refine t_ret1 rfl rfl (res_tmp rfl) (fun w' s => ?_)
      refine congrArg (Value.int .i64) ?_
      rw [hq.2.1]; split <;> omega
    · try simp only [decide_eq_true_eq, decide_eq_false_iff_not, Bool.not_eq_true', Bool.not_eq_false', Int.not_lt, Int.not_le, ne_eq, Decidable.not_not] at h3
      try have h3b := inB_iff.1 h3
      refine t_skip ?_
      refine tn_code ?_
      refine t_seq ?_
      refine t_reg ?_
      refine to_mv rfl rfl ?_
      refine to_as rfl rfl ?_
      refine to_nil ?_
      refine tn_code ?_
      refine t_ret1 rfl rfl (res_tmp rfl) (fun w' s => ?_)
      refine congrArg (Value.int .i64) ?_
      rw [hq.2.1]; split <;> omega

set_option maxRecDepth 20000 in
theorem ref_To3 (v u : Int) (w : World) (hu : 1 ≤ u ∧ u ≤ 1048576) (hv : -1099511627776 ≤ v ∧ v ≤ 1099511627776) : Calls Tryz.prog 18 #[(.int .i64 v), (.int .i64 u), (.int .i64 3)] w (RetV w (.int .i64 (toF u 3 v))) := by
  have hu0 : 0 < u := by omega
  have hb := tdiv_bd v (B := 1099511627776) hu0 (by omega) (by omega)
  have hc := tdiv_cases v hu0
  have he := ediv_bd v hu0
  have hm : (v.tdiv u - 1) * u = v.tdiv u * u - u := by rw [Int.sub_mul, Int.one_mul]
  refine calls_T0 (av := [_, _, _]) Tryz.func18 rfl rfl rfl ?_
  refine t_seq ?_
  refine t_reg ?_
  refine to_as rfl rfl ?_
  refine to_nil ?_
  refine tn_code ?_
  refine t_seq ?_
  refine t_reg ?_
  refine to_mv rfl rfl ?_
  refine to_mv rfl rfl ?_
  refine to_quoE rfl rfl (by omega) (wrap_id (by omega)) rfl ?_
  refine to_as rfl rfl ?_
  refine to_nil ?_
  refine tn_code ?_
  refine t_seq ?_
  refine t_seq ?_
  refine t_reg ?_
  refine to_mv rfl rfl ?_
  refine to_mv rfl rfl ?_
  refine to_mv rfl rfl ?_
  refine to_mul rfl rfl (by first | omega | exact mul_ok (by omega) (by omega) (by omega) (by omega)) rfl ?_
  refine to_lss rfl rfl rfl ?_
  refine to_nil ?_
  refine tn_code ?_
  refine t_if rfl (fun h1 => ?_) (fun h1 => ?_)
  · try simp only [decide_eq_true_eq, decide_eq_false_iff_not, Bool.not_eq_true', Bool.not_eq_false', Int.not_lt, Int.not_le, ne_eq, Decidable.not_not] at h1
    try have h1b := inB_iff.1 h1
    rcases hc with ⟨e, hx⟩ | ⟨e, hx⟩
    · exfalso; omega
    rw [← e] at he
    have hq := toF_q hu.1 he.1 he.2
    refine t_reg ?_
    refine to_mv rfl rfl ?_
    refine to_sub rfl rfl (by omega) rfl ?_
    refine to_as rfl rfl ?_
    refine to_nil ?_
    refine tn_code ?_
    refine t_seq ?_
    refine t_reg ?_
    refine to_mv rfl rfl ?_
    refine to_mv rfl rfl ?_
    refine to_mv rfl rfl ?_
    refine to_mul rfl rfl (by first | omega | exact mul_ok (by omega) (by omega) (by omega) (by omega)) rfl ?_
    refine to_sub rfl rfl (by omega) rfl ?_
    refine to_as rfl rfl ?_
    refine to_nil ?_
    refine tn_code ?_
    refine t_seq ?_
    refine t_reg ?_
    refine to_as rfl rfl ?_
    refine to_nil ?_
    refine tn_code ?_
    refine t_seq ?_
    refine t_seq ?_
    refine t_reg ?_
    refine to_mv rfl rfl ?_
    refine to_nil ?_
    refine tn_code ?_
    refine t_blk ?_
    refine t_seq ?_
    refine t_reg ?_
    refine to_eql rfl rfl rfl ?_
    refine to_fix (s := 27) (b' := false) rfl (rfl) ?_
    refine to_as rfl rfl ?_
    refine to_nil ?_
    refine tn_code ?_
    refine t_ifF rfl ?_
    refine t_seq ?_
    refine t_reg ?_
    refine to_eql rfl rfl rfl ?_
    refine to_fix (s := 31) (b' := true) rfl (rfl) ?_
    refine to_as rfl rfl ?_
    refine to_nil ?_
    refine tn_code ?_
    refine t_ifT rfl ?_
    refine t_reg ?_
    refine to_mv rfl rfl ?_
    refine to_mul rfl rfl (by first | omega | exact mul_ok (by omega) (by omega) (by omega) (by omega)) rfl ?_
    refine to_mv rfl rfl ?_
    refine to_geq rfl rfl rfl ?_
    refine to_as rfl rfl ?_
    refine to_nil ?_
    refine tn_blk ?_
    refine tn_code ?_
    refine t_seq ?_
    refine t_seq ?_
    refine t_reg ?_
    refine to_mv rfl rfl ?_
    refine to_nil ?_
    refine tn_code ?_
    refine t_if rfl (fun h2 => ?_) (fun h2 => ?_)
    · try simp only [decide_eq_true_eq, decide_eq_false_iff_not, Bool.not_eq_true', Bool.not_eq_false', Int.not_lt, Int.not_le, ne_eq, Decidable.not_not] at h2
      try have h2b := inB_iff.1 h2
      refine t_reg ?_
      refine to_mv rfl rfl ?_
      refine to_add rfl rfl (by omega) rfl ?_
      refine to_as rfl rfl ?_
      refine to_nil ?_
      refine tn_code ?_
      refine t_seq ?_
      refine t_reg ?_
      refine to_mv rfl rfl ?_
      refine to_as rfl rfl ?_
      refine to_nil ?_
      refine tn_code ?_
      refine t_ret1 rfl rfl (res_tmp rfl) (fun w' s => ?_)
      refine congrArg (Value.int .i64) ?_
      rw [hq.2.2.1]; split <;> omega
    · try simp only [decide_eq_true_eq, decide_eq_false_iff_not, Bool.not_eq_true', Bool.not_eq_false', Int.not_lt, Int.not_le, ne_eq, Decidable.not_not] at h2
      try have h2b := inB_iff.1 h2
      refine t_skip ?_
      refine tn_code ?_
      refine t_seq ?_
      refine t_reg ?_
      refine to_mv rfl rfl ?_
      refine to_as rfl rfl ?_
      refine to_nil ?_
      refine tn_code ?_
      refine t_ret1 rfl rfl (res_tmp rfl) (fun w' s => ?_)
      refine congrArg (Value.int .i64) ?_
      rw [hq.2.2.1]; split <;> omega
  · try simp only [decide_eq_true_eq, decide_eq_false_iff_not, Bool.not_eq_true', Bool.not_eq_false', Int.not_lt, Int.not_le, ne_eq, Decidable.not_not] at h1
    try have h1b := inB_iff.1 h1
    rcases hc with ⟨e, hx⟩ | ⟨e, hx⟩
    rotate_left
    · exfalso; omega
    rw [← e] at he
    have hq := toF_q hu.1 he.1 he.2
    refine t_skip ?_
    refine tn_code ?_
    refine t_seq ?_
    refine t_reg ?_
    refine to_mv rfl rfl ?_
    refine to_mv rfl rfl ?_
    refine to_mv rfl rfl ?_
    refine to_mul rfl rfl (by first | omega | exact mul_ok (by omega) (by omega) (by omega) (by omega)) rfl ?_
    refine to_sub rfl rfl (by omega) rfl ?_
    refine to_as rfl rfl ?_
    refine to_nil ?_
    refine tn_code ?_
    refine t_seq ?_
    refine t_reg ?_
    refine to_as rfl rfl ?_
    refine to_nil ?_
    refine tn_code ?_
    refine t_seq ?_
    refine t_seq ?_
    refine t_reg ?_
    refine to_mv rfl rfl ?_
    refine to_nil ?_
    refine tn_code ?_
    refine t_blk ?_
    refine t_seq ?_
    refine t_reg ?_
    refine to_eql rfl rfl rfl ?_
    refine to_fix (s := 27) (b' := false) rfl (rfl) ?_
    refine to_as rfl rfl ?_
    refine to_nil ?_
    refine tn_code ?_
    refine t_ifF rfl ?_
    refine t_seq ?_
    refine t_reg ?_
    refine to_eql rfl rfl rfl ?_
    refine to_fix (s := 31) (b' := true) rfl (rfl) ?_
    refine to_as rfl rfl ?_
    refine to_nil ?_
    refine tn_code ?_
    refine t_ifT rfl ?_
    refine t_reg ?_
    refine to_mv rfl rfl ?_
    refine to_mul rfl rfl (by first | omega | exact mul_ok (by omega) (by omega) (by omega) (by omega)) rfl ?_
    refine to_mv rfl rfl ?_
    refine to_geq rfl rfl rfl ?_
    refine to_as rfl rfl ?_
    refine to_nil ?_
    refine tn_blk ?_
    refine tn_code ?_
    refine t_seq ?_
    refine t_seq ?_
    refine t_reg ?_
    refine to_mv rfl rfl ?_
    refine to_nil ?_
    refine tn_code ?_
    refine t_if rfl (fun h3 => ?_) (fun h3 => ?_)
    · try simp only [decide_eq_true_eq, decide_eq_false_iff_not, Bool.not_eq_true', Bool.not_eq_false', Int.not_lt, Int.not_le, ne_eq, Decidable.not_not] at h3
      try have h3b := inB_iff.1 h3
      refine t_reg ?_
      refine to_mv rfl rfl ?_
      refine to_add rfl rfl (by omega) rfl ?_
      refine to_as rfl rfl ?_
      refine to_nil ?_
      refine tn_code ?_
      refine t_seq ?_
      refine t_reg ?_
      refine to_mv rfl rfl ?_
      refine to_as rfl rfl ?_
      refine to_nil ?_
      refine tn_code ?_
      refine t_ret1 rfl rfl (res_tmp rfl) (fun w' s => ?_)
      refine congrArg (Value.int .i64) ?_
      rw [hq.2.2.1]; split <;> omega
    · try simp only [decide_eq_true_eq, decide_eq_false_iff_not, Bool.not_eq_true', Bool.not_eq_false', Int.not_lt, Int.not_le, ne_eq, Decidable.not_not] at h3
      try have h3b := inB_iff.1 h3
      refine t_skip ?_
      refine tn_code ?_
      refine t_seq ?_
      refine t_reg ?_
      refine to_mv rfl rfl ?_
      refine to_as rfl rfl ?_
      refine to_nil ?_
      refine tn_code ?_
      refine t_ret1 rfl rfl (res_tmp rfl) (fun w' s => ?_)
      refine congrArg (Value.int .i64) ?_
      rw [hq.2.2.1]; split <;> omega

set_option maxRecDepth 20000 in
theorem ref_To4 (v u : Int) (w : World) (hu : 1 ≤ u ∧ u ≤ 1048576) (hv : -1099511627776 ≤ v ∧ v ≤ 1099511627776) : Calls Tryz.prog 18 #[(.int .i64 v), (.int .i64 u), (.int .i64 4)] w (RetV w (.int .i64 (toF u 4 v))) := by
  have hu0 : 0 < u := by omega
  have hb := tdiv_bd v (B := 1099511627776) hu0 (by omega) (by omega)
  have hc := tdiv_cases v hu0
  have he := ediv_bd v hu0
  have hm : (v.tdiv u - 1) * u = v.tdiv u * u - u := by rw [Int.sub_mul, Int.one_mul]
  refine calls_T0 (av := [_, _, _]) Tryz.func18 rfl rfl rfl ?_
  refine t_seq ?_
  refine t_reg ?_
  refine to_as rfl rfl ?_
  refine to_nil ?_
  refine tn_code ?_
  refine t_seq ?_
  refine t_reg ?_
  refine to_mv rfl rfl ?_
  refine to_mv rfl rfl ?_
  refine to_quoE rfl rfl (by omega) (wrap_id (by omega)) rfl ?_
  refine to_as rfl rfl ?_
  refine to_nil ?_
  refine tn_code ?_
  refine t_seq ?_
  refine t_seq ?_
  refine t_reg ?_
  refine to_mv rfl rfl ?_
  refine to_mv rfl rfl ?_
  refine to_mv rfl rfl ?_
  refine to_mul rfl rfl (by first | omega | exact mul_ok (by omega) (by omega) (by omega) (by omega)) rfl ?_
  refine to_lss rfl rfl rfl ?_
  refine to_nil ?_
  refine tn_code ?_
  refine t_if rfl (fun h1 => ?_) (fun h1 => ?_)
  · try simp only [decide_eq_true_eq, decide_eq_false_iff_not, Bool.not_eq_true', Bool.not_eq_false', Int.not_lt, Int.not_le, ne_eq, Decidable.not_not] at h1
    try have h1b := inB_iff.1 h1
    rcases hc with ⟨e, hx⟩ | ⟨e, hx⟩
    · exfalso; omega
    rw [← e] at he
    have hq := toF_q hu.1 he.1 he.2
    refine t_reg ?_
    refine to_mv rfl rfl ?_
    refine to_sub rfl rfl (by omega) rfl ?_
    refine to_as rfl rfl ?_
    refine to_nil ?_
    refine tn_code ?_
    refine t_seq ?_
    refine t_reg ?_
    refine to_mv rfl rfl ?_
    refine to_mv rfl rfl ?_
    refine to_mv rfl rfl ?_
    refine to_mul rfl rfl (by first | omega | exact mul_ok (by omega) (by omega) (by omega) (by omega)) rfl ?_
    refine to_sub rfl rfl (by omega) rfl ?_
    refine to_as rfl rfl ?_
    refine to_nil ?_
    refine tn_code ?_
    refine t_seq ?_
    refine t_reg ?_
    refine to_as rfl rfl ?_
    refine to_nil ?_
    refine tn_code ?_
    refine t_seq ?_
    refine t_seq ?_
    refine t_reg ?_
    refine to_mv rfl rfl ?_
    refine to_nil ?_
    refine tn_code ?_
    refine t_blk ?_
    refine t_seq ?_
    refine t_reg ?_
    refine to_eql rfl rfl rfl ?_
    refine to_fix (s := 27) (b' := false) rfl (rfl) ?_
    refine to_as rfl rfl ?_
    refine to_nil ?_
    refine tn_code ?_
    refine t_ifF rfl ?_
    refine t_seq ?_
    refine t_reg ?_
    refine to_eql rfl rfl rfl ?_
    refine to_fix (s := 31) (b' := false) rfl (rfl) ?_
    refine to_as rfl rfl ?_
    refine to_nil ?_
    refine tn_code ?_
    refine t_ifF rfl ?_
    refine t_seq ?_
    refine t_reg ?_
    refine to_eql rfl rfl rfl ?_
    refine to_fix (s := 37) (b' := true) rfl (rfl) ?_
    refine to_as rfl rfl ?_
    refine to_nil ?_
    refine tn_code ?_
    refine t_ifT rfl ?_
    refine t_reg ?_
    refine to_mv rfl rfl ?_
    refine to_mul rfl rfl (by first | omega | exact mul_ok (by omega) (by omega) (by omega) (by omega)) rfl ?_
    refine to_mv rfl rfl ?_
    refine to_gtr rfl rfl rfl ?_
    refine to_mv rfl rfl ?_
    refine to_gs rfl rfl rfl (fun h2 => ?_) (fun h2 => ?_)
    · try simp only [decide_eq_true_eq, decide_eq_false_iff_not, Bool.not_eq_true', Bool.not_eq_false', Int.not_lt, Int.not_le, ne_eq, Decidable.not_not] at h2
      try have h2b := inB_iff.1 h2
      refine to_gf rfl rfl rfl rfl ?_
      refine to_gf rfl rfl rfl rfl ?_
      refine to_gf rfl rfl rfl rfl ?_
      refine to_gf rfl rfl rfl rfl ?_
      refine to_gf rfl rfl rfl rfl ?_
      refine to_gf rfl rfl rfl rfl ?_
      refine to_gf rfl rfl rfl rfl ?_
      refine to_gf rfl rfl rfl rfl ?_
      refine to_gf rfl rfl rfl rfl ?_
      refine to_pkT rfl rfl rfl ?_
      refine to_as rfl rfl ?_
      refine to_nil ?_
      refine tn_blk ?_
      refine tn_code ?_
      refine t_seq ?_
      refine t_seq ?_
      refine t_reg ?_
      refine to_mv rfl rfl ?_
      refine to_nil ?_
      refine tn_code ?_
      refine t_ifT rfl ?_
      refine t_reg ?_
      refine to_mv rfl rfl ?_
      refine to_add rfl rfl (by omega) rfl ?_
      refine to_as rfl rfl ?_
      refine to_nil ?_
      refine tn_code ?_
      refine t_seq ?_
      refine t_reg ?_
      refine to_mv rfl rfl ?_
      refine to_as rfl rfl ?_
      refine to_nil ?_
      refine tn_code ?_
      refine t_ret1 rfl rfl (res_tmp rfl) (fun w' s => ?_)
      refine congrArg (Value.int .i64) ?_
      have hm1 := tmod2 (v.tdiv u)
      have hm2 := tmod2 (v.tdiv u - 1)
      rw [hq.2.2.2]; split <;> simp_all <;> omega
    · try simp only [decide_eq_true_eq, decide_eq_false_iff_not, Bool.not_eq_true', Bool.not_eq_false', Int.not_lt, Int.not_le, ne_eq, Decidable.not_not] at h2
      try have h2b := inB_iff.1 h2
      refine to_gt rfl rfl ?_
      refine to_mv rfl rfl ?_
      refine to_gt rfl rfl ?_
      refine to_mul rfl rfl (by first | omega | exact mul_ok (by omega) (by omega) (by omega) (by omega)) rfl ?_
      refine to_gt rfl rfl ?_
      refine to_mv rfl rfl ?_
      refine to_gt rfl rfl ?_
      refine to_eql rfl rfl rfl ?_
      refine to_gt rfl rfl ?_
      refine to_mv rfl rfl ?_
      refine to_gs rfl rfl rfl (fun h3 => ?_) (fun h3 => ?_)
      · try simp only [decide_eq_true_eq, decide_eq_false_iff_not, Bool.not_eq_true', Bool.not_eq_false', Int.not_lt, Int.not_le, ne_eq, Decidable.not_not] at h3
        try have h3b := inB_iff.1 h3
        refine to_gt rfl rfl ?_
        refine to_mv rfl rfl ?_
        refine to_gt rfl rfl ?_
        refine to_remw rfl rfl (by decide) rfl ?_
        refine to_gt rfl rfl ?_
        refine to_neq rfl rfl rfl ?_
        refine to_gt rfl rfl ?_
        refine to_pkT rfl rfl rfl ?_
        refine to_pkF rfl rfl rfl ?_
        refine to_as rfl rfl ?_
        refine to_nil ?_
        refine tn_blk ?_
        refine tn_code ?_
        refine t_seq ?_
        refine t_seq ?_
        refine t_reg ?_
        refine to_mv rfl rfl ?_
        refine to_nil ?_
        refine tn_code ?_
        refine t_if rfl (fun h4 => ?_) (fun h4 => ?_)
        · try simp only [decide_eq_true_eq, decide_eq_false_iff_not, Bool.not_eq_true', Bool.not_eq_false', Int.not_lt, Int.not_le, ne_eq, Decidable.not_not] at h4
          try have h4b := inB_iff.1 h4
          refine t_reg ?_
          refine to_mv rfl rfl ?_
          refine to_add rfl rfl (by omega) rfl ?_
          refine to_as rfl rfl ?_
          refine to_nil ?_
          refine tn_code ?_
          refine t_seq ?_
          refine t_reg ?_
          refine to_mv rfl rfl ?_
          refine to_as rfl rfl ?_
          refine to_nil ?_
          refine tn_code ?_
          refine t_ret1 rfl rfl (res_tmp rfl) (fun w' s => ?_)
          refine congrArg (Value.int .i64) ?_
          have hm1 := tmod2 (v.tdiv u)
          have hm2 := tmod2 (v.tdiv u - 1)
          rw [hq.2.2.2]; split <;> simp_all <;> omega
        · try simp only [decide_eq_true_eq, decide_eq_false_iff_not, Bool.not_eq_true', Bool.not_eq_false', Int.not_lt, Int.not_le, ne_eq, Decidable.not_not] at h4
          try have h4b := inB_iff.1 h4
          refine t_skip ?_
          refine tn_code ?_
          refine t_seq ?_
          refine t_reg ?_
          refine to_mv rfl rfl ?_
          refine to_as rfl rfl ?_
          refine to_nil ?_
          refine tn_code ?_
          refine t_ret1 rfl rfl (res_tmp rfl) (fun w' s => ?_)
          refine congrArg (Value.int .i64) ?_
          have hm1 := tmod2 (v.tdiv u)
          have hm2 := tmod2 (v.tdiv u - 1)
          rw [hq.2.2.2]; split <;> simp_all <;> omega
      · try simp only [decide_eq_true_eq, decide_eq_false_iff_not, Bool.not_eq_true', Bool.not_eq_false', Int.not_lt, Int.not_le, ne_eq, Decidable.not_not] at h3
        try have h3b := inB_iff.1 h3
        refine to_gf rfl rfl rfl rfl ?_
        refine to_gf rfl rfl rfl rfl ?_
        refine to_gf rfl rfl rfl rfl ?_
        refine to_gt rfl rfl ?_
        refine to_pkF rfl rfl rfl ?_
        refine to_pkF rfl rfl rfl ?_
        refine to_as rfl rfl ?_
        refine to_nil ?_
        refine tn_blk ?_
        refine tn_code ?_
        refine t_seq ?_
        refine t_seq ?_
        refine t_reg ?_
        refine to_mv rfl rfl ?_
        refine to_nil ?_
        refine tn_code ?_
        refine t_ifF rfl ?_
        refine t_skip ?_
        refine tn_code ?_
        refine t_seq ?_
        refine t_reg ?_
        refine to_mv rfl rfl ?_
        refine to_as rfl rfl ?_
        refine to_nil ?_
        refine tn_code ?_
        refine t_ret1 rfl rfl (res_tmp rfl) (fun w' s => ?_)
        refine congrArg (Value.int .i64) ?_
        have hm1 := tmod2 (v.tdiv u)
        have hm2 := tmod2 (v.tdiv u - 1)
        rw [hq.2.2.2]; split <;> simp_all <;> omega
  · try simp only [decide_eq_true_eq, decide_eq_false_iff_not, Bool.not_eq_true', Bool.not_eq_false', Int.not_lt, Int.not_le, ne_eq, Decidable.not_not] at h1
    try have h1b := inB_iff.1 h1
    rcases hc with ⟨e, hx⟩ | ⟨e, hx⟩
    rotate_left
    · exfalso; omega
    rw [← e] at he
    have hq := toF_q hu.1 he.1 he.2
    refine t_skip ?_
    refine tn_code ?_
    refine t_seq ?_
    refine t_reg ?_
    refine to_mv rfl rfl ?_
    refine to_mv rfl rfl ?_
    refine to_mv rfl rfl ?_
    refine to_mul rfl rfl (by first | omega | exact mul_ok (by omega) (by omega) (by omega) (by omega)) rfl ?_
    refine to_sub rfl rfl (by omega) rfl ?_
    refine to_as rfl rfl ?_
    refine to_nil ?_
    refine tn_code ?_
    refine t_seq ?_
    refine t_reg ?_
    refine to_as rfl rfl ?_
    refine to_nil ?_
    refine tn_code ?_
    refine t_seq ?_
    refine t_seq ?_
    refine t_reg ?_
    refine to_mv rfl rfl ?_
    refine to_nil ?_
    refine tn_code ?_
    refine t_blk ?_
    refine t_seq ?_
    refine t_reg ?_
    refine to_eql rfl rfl rfl ?_
    refine to_fix (s := 27) (b' := false) rfl (rfl) ?_
    refine to_as rfl rfl ?_
    refine to_nil ?_
    refine tn_code ?_
    refine t_ifF rfl ?_
    refine t_seq ?_
    refine t_reg ?_
    refine to_eql rfl rfl rfl ?_
    refine to_fix (s := 31) (b' := false) rfl (rfl) ?_
    refine to_as rfl rfl ?_
    refine to_nil ?_
    refine tn_code ?_
    refine t_ifF rfl ?_
    refine t_seq ?_
    refine t_reg ?_
    refine to_eql rfl rfl rfl ?_
    refine to_fix (s := 37) (b' := true) rfl (rfl) ?_
    refine to_as rfl rfl ?_
    refine to_nil ?_
    refine tn_code ?_
    refine t_ifT rfl ?_
    refine t_reg ?_
    refine to_mv rfl rfl ?_
    refine to_mul rfl rfl (by first | omega | exact mul_ok (by omega) (by omega) (by omega) (by omega)) rfl ?_
    refine to_mv rfl rfl ?_
    refine to_gtr rfl rfl rfl ?_
    refine to_mv rfl rfl ?_
    refine to_gs rfl rfl rfl (fun h5 => ?_) (fun h5 => ?_)
    · try simp only [decide_eq_true_eq, decide_eq_false_iff_not, Bool.not_eq_true', Bool.not_eq_false', Int.not_lt, Int.not_le, ne_eq, Decidable.not_not] at h5
      try have h5b := inB_iff.1 h5
      refine to_gf rfl rfl rfl rfl ?_
      refine to_gf rfl rfl rfl rfl ?_
      refine to_gf rfl rfl rfl rfl ?_
      refine to_gf rfl rfl rfl rfl ?_
      refine to_gf rfl rfl rfl rfl ?_
      refine to_gf rfl rfl rfl rfl ?_
      refine to_gf rfl rfl rfl rfl ?_
      refine to_gf rfl rfl rfl rfl ?_
      refine to_gf rfl rfl rfl rfl ?_
      refine to_pkT rfl rfl rfl ?_
      refine to_as rfl rfl ?_
      refine to_nil ?_
      refine tn_blk ?_
      refine tn_code ?_
      refine t_seq ?_
      refine t_seq ?_
      refine t_reg ?_
      refine to_mv rfl rfl ?_
      refine to_nil ?_
      refine tn_code ?_
      refine t_ifT rfl ?_
      refine t_reg ?_
      refine to_mv rfl rfl ?_
      refine to_add rfl rfl (by omega) rfl ?_
      refine to_as rfl rfl ?_
      refine to_nil ?_
      refine tn_code ?_
      refine t_seq ?_
      refine t_reg ?_
      refine to_mv rfl rfl ?_
      refine to_as rfl rfl ?_
      refine to_nil ?_
      refine tn_code ?_
      refine t_ret1 rfl rfl (res_tmp rfl) (fun w' s => ?_)
      refine congrArg (Value.int .i64) ?_
      have hm1 := tmod2 (v.tdiv u)
      have hm2 := tmod2 (v.tdiv u - 1)
      rw [hq.2.2.2]; split <;> simp_all <;> omega
    · try simp only [decide_eq_true_eq, decide_eq_false_iff_not, Bool.not_eq_true', Bool.not_eq_false', Int.not_lt, Int.not_le, ne_eq, Decidable.not_not] at h5
      try have h5b := inB_iff.1 h5
      refine to_gt rfl rfl ?_
      refine to_mv rfl rfl ?_
      refine to_gt rfl rfl ?_
      refine to_mul rfl rfl (by first | omega | exact mul_ok (by omega) (by omega) (by omega) (by omega)) rfl ?_
      refine to_gt rfl rfl ?_
      refine to_mv rfl rfl ?_
      refine to_gt rfl rfl ?_
      refine to_eql rfl rfl rfl ?_
      refine to_gt rfl rfl ?_
      refine to_mv rfl rfl ?_
      refine to_gs rfl rfl rfl (fun h6 => ?_) (fun h6 => ?_)
      · try simp only [decide_eq_true_eq, decide_eq_false_iff_not, Bool.not_eq_true', Bool.not_eq_false', Int.not_lt, Int.not_le, ne_eq, Decidable.not_not] at h6
        try have h6b := inB_iff.1 h6
        refine to_gt rfl rfl ?_
        refine to_mv rfl rfl ?_
        refine to_gt rfl rfl ?_
        refine to_remw rfl rfl (by decide) rfl ?_
        refine to_gt rfl rfl ?_
        refine to_neq rfl rfl rfl ?_
        refine to_gt rfl rfl ?_
        refine to_pkT rfl rfl rfl ?_
        refine to_pkF rfl rfl rfl ?_
        refine to_as rfl rfl ?_
        refine to_nil ?_
        refine tn_blk ?_
        refine tn_code ?_
        refine t_seq ?_
        refine t_seq ?_
        refine t_reg ?_
        refine to_mv rfl rfl ?_
        refine to_nil ?_
        refine tn_code ?_
        refine t_if rfl (fun h7 => ?_) (fun h7 => ?_)
        · try simp only [decide_eq_true_eq, decide_eq_false_iff_not, Bool.not_eq_true', Bool.not_eq_false', Int.not_lt, Int.not_le, ne_eq, Decidable.not_not] at h7
          try have h7b := inB_iff.1 h7
          refine t_reg ?_
          refine to_mv rfl rfl ?_
          refine to_add rfl rfl (by omega) rfl ?_
          refine to_as rfl rfl ?_
          refine to_nil ?_
          refine tn_code ?_
          refine t_seq ?_
          refine t_reg ?_
          refine to_mv rfl rfl ?_
          refine to_as rfl rfl ?_
          refine to_nil ?_
          refine tn_code ?_
          refine t_ret1 rfl rfl (res_tmp rfl) (fun w' s => ?_)
          refine congrArg (Value.int .i64) ?_
          have hm1 := tmod2 (v.tdiv u)
          have hm2 := tmod2 (v.tdiv u - 1)
          rw [hq.2.2.2]; split <;> simp_all <;> omega
        · try simp only [decide_eq_true_eq, decide_eq_false_iff_not, Bool.not_eq_true', Bool.not_eq_false', Int.not_lt, Int.not_le, ne_eq, Decidable.not_not] at h7
          try have h7b := inB_iff.1 h7
          refine t_skip ?_
          refine tn_code ?_
          refine t_seq ?_
          refine t_reg ?_
          refine to_mv rfl rfl ?_
          refine to_as rfl rfl ?_
          refine to_nil ?_
          refine tn_code ?_
          refine t_ret1 rfl rfl (res_tmp rfl) (fun w' s => ?_)
          refine congrArg (Value.int .i64) ?_
          have hm1 := tmod2 (v.tdiv u)
          have hm2 := tmod2 (v.tdiv u - 1)
          rw [hq.2.2.2]; split <;> simp_all <;> omega
      · try simp only [decide_eq_true_eq, decide_eq_false_iff_not, Bool.not_eq_true', Bool.not_eq_false', Int.not_lt, Int.not_le, ne_eq, Decidable.not_not] at h6
        try have h6b := inB_iff.1 h6
        refine to_gf rfl rfl rfl rfl ?_
        refine to_gf rfl rfl rfl rfl ?_
        refine to_gf rfl rfl rfl rfl ?_
        refine to_gt rfl rfl ?_
        refine to_pkF rfl rfl rfl ?_
        refine to_pkF rfl rfl rfl ?_
        refine to_as rfl rfl ?_
        refine to_nil ?_
        refine tn_blk ?_
        refine tn_code ?_
        refine t_seq ?_
        refine t_seq ?_
        refine t_reg ?_
        refine to_mv rfl rfl ?_
        refine to_nil ?_
        refine tn_code ?_
        refine t_ifF rfl ?_
        refine t_skip ?_
        refine tn_code ?_
        refine t_seq ?_
        refine t_reg ?_
        refine to_mv rfl rfl ?_
        refine to_as rfl rfl ?_
        refine to_nil ?_
        refine tn_code ?_
        refine t_ret1 rfl rfl (res_tmp rfl) (fun w' s => ?_)
        refine congrArg (Value.int .i64) ?_
        have hm1 := tmod2 (v.tdiv u)
        have hm2 := tmod2 (v.tdiv u - 1)
        rw [hq.2.2.2]; split <;> simp_all <;> omega

theorem ref_To (v u r : Int) (w : World) (hu : 1 ≤ u ∧ u ≤ 1048576) (hv : -1099511627776 ≤ v ∧ v ≤ 1099511627776) (hr : 1 ≤ r ∧ r ≤ 4) : Calls Tryz.prog 18 #[.int .i64 v, .int .i64 u, .int .i64 r] w (RetV w (.int .i64 (toF u r v))) := by
  obtain rfl | rfl | rfl | rfl : r = 1 ∨ r = 2 ∨ r = 3 ∨ r = 4 := by omega
  · exact ref_To1 v u w hu hv
  · exact ref_To2 v u w hu hv
  · exact ref_To3 v u w hu hv
  · exact ref_To4 v u w hu hv

end Go.Proofs


namespace Go.Proofs
open Go Go.Sx Go.RowKit

end Go.Proofs


namespace Go.Proofs
open Go Go.Sx Go.RowKit

theorem ref_arg {sh : Sh} (hs : isSh sh = true) : (1 ≤ sh.unit ∧ sh.unit ≤ 1048576) ∧ (1 ≤ sh.rule ∧ sh.rule ≤ 4) := by
  have := isSh_b hs
  omega
def RSpS (xs : List Sp) : Nat → World → Value → Prop := fun lo w1 v => ∃ a1 c1, v = .slice a1 xs.length c1 ∧ Ro w1 lo w1.heap.size a1 xs.length c1 2 (spans xs)
theorem rsps_of {xs : List Sp} {n c lo : Nat} {a : Option Addr} {w : World} (hn : xs.length = n) (h : Ro w lo w.heap.size a n c 2 (spans xs)) : RSpS xs lo w (.slice a n c) := by
  subst hn; exact ⟨a, c, rfl, h⟩

set_option maxRecDepth 20000 in
theorem ref_of (sh : Sh) (pt : Pt) (v : Int) (w : World) (hs : isSh sh = true) (hv : -1099511627776 ≤ v ∧ v ≤ 1099511627776) : Calls Tryz.prog 71 #[shV sh pt, (.int .i64 v)] w (RetV w (.int .i64 (fig sh v))) := by
  refine calls_T0 (av := [_, _]) Tryz.func71 rfl rfl rfl ?_
  refine t_seq ?_
  refine t_reg ?_
  refine to_box rfl rfl (fun b2 => ?_)
  refine to_as rfl rfl ?_
  refine to_nil ?_
  refine tn_code ?_
  refine t_seq ?_
  refine t_reg ?_
  refine to_mv rfl rfl ?_
  first | refine to_fa rfl rfl rfl (by simp only [Nat.reduceAdd]; rfl) rfl ?_ | refine to_fae rfl rfl rfl (by simp only [Nat.reduceAdd]; rfl) rfl ?_
  first | refine to_lds rfl rfl rfl ?_ | refine to_ldes rfl (by assumption) rfl rfl ?_
  first | refine to_fa rfl rfl rfl (by simp only [Nat.reduceAdd]; rfl) rfl ?_ | refine to_fae rfl rfl rfl (by simp only [Nat.reduceAdd]; rfl) rfl ?_
  first | refine to_lds rfl rfl rfl ?_ | refine to_ldes rfl (by assumption) rfl rfl ?_
  refine to_call0 rfl rfl (fun w s => ref_To v sh.unit sh.rule w (ref_arg hs).1 hv (ref_arg hs).2) rfl ?_
  refine to_as rfl rfl ?_
  refine to_nil ?_
  refine tn_code ?_
  refine t_ret1 rfl rfl (res_tmp rfl) (fun w' s => ?_)
  rfl

set_option maxRecDepth 20000 in
theorem ref_Bounds (sh : Sh) (pt : Pt) (k : Nat) (e : Int) (w : World) (hre : Ro w 0 w.heap.size pt.ea sh.errs.length pt.ec 1 (ints sh.errs)) (hrr : Ro w 0 w.heap.size pt.ra sh.rows.length pt.rc 1 (ints sh.rows)) (hs : isSh sh = true) (he : sh.errs[k]? = some e) : Calls Tryz.prog 70 #[shV sh pt, (.int .i64 (k : Int))] w (Ret w (RSpS (bndL sh e))) := by
  have heb := errs_b (isSh_e hs) e (List.mem_of_getElem? he)
  have hbb := isSh_b hs
  have hxe := map_get (f := intC) he
  have hke := (List.getElem?_eq_some_iff.1 he).1
  refine calls_T (av := [_, _]) Tryz.func70 rfl rfl rfl ?_
  refine t_seq ?_
  refine t_reg ?_
  refine to_box rfl rfl (fun b2 => ?_)
  refine to_as rfl rfl ?_
  refine to_nil ?_
  refine tn_code ?_
  refine t_seq ?_
  refine t_reg ?_
  refine to_as rfl rfl ?_
  refine to_nil ?_
  refine tn_code ?_
  refine t_seq ?_
  refine t_seq ?_
  refine t_reg ?_
  refine to_as rfl rfl ?_
  refine to_nil ?_
  refine tn_code ?_
  refine t_blk ?_
  refine t_nilrow 53 2 ?_
  refine t_loop2 (ι := Nat × Option Addr × Nat) (fun ((i, a', c') : Nat × Option Addr × Nat) => i ≤ sh.rows.length) (fun ((i, a', c') : Nat × Option Addr × Nat) => [(1, (.int .i64 (k : Int))), (2, (.pointer (some ⟨b2, 0, none⟩))), (5, .slice a' i c'), (6, (.int .i64 (i : Int)))]) (fun ((i, a', c') : Nat × Option Addr × Nat) => [.row a' i c' 53 2 (spans ((sh.rows.take i).map fun r => (r - e, r + e))), .own b2 (isC (shC sh pt) 33), .snap 0 w.heap.size w]) (fun ((i, a', c') : Nat × Option Addr × Nat) => sh.rows.length - i) ((0, none, 0)) [.row none 0 0 53 2 [], .own b2 (isC (shC sh pt) 33), .snap 0 w.heap.size w] (rfl) (Nat.zero_le _) (⟨rfl, rfl, rfl, rfl, trivial⟩) ?_
  rintro ⟨i, a', c'⟩ hk
  try dsimp only at hk
  show T _ _ _ ⟨_, [(1, (.int .i64 (k : Int))), (2, (.pointer (some ⟨b2, 0, none⟩))), (5, .slice a' i c'), (6, (.int .i64 (i : Int)))], _⟩ [.row a' i c' 53 2 (spans ((sh.rows.take i).map fun r => (r - e, r + e))), .own b2 (isC (shC sh pt) 33), .snap 0 w.heap.size w]
  refine t_seq ?_
  refine t_seq ?_
  refine t_reg ?_
  refine to_mv rfl rfl ?_
  first | refine to_fa rfl rfl rfl (by simp only [Nat.reduceAdd]; rfl) rfl ?_ | refine to_fae rfl rfl rfl (by simp only [Nat.reduceAdd]; rfl) rfl ?_
  first | refine to_lds rfl rfl rfl ?_ | refine to_ldes rfl (by assumption) rfl rfl ?_
  refine to_lenS rfl rfl ?_
  refine to_lss rfl rfl rfl ?_
  refine to_nil ?_
  refine tn_code ?_
  refine t_if rfl (fun h1 => ?_) (fun h1 => ?_)
  · try simp only [decide_eq_true_eq, decide_eq_false_iff_not, Bool.not_eq_true', Bool.not_eq_false', Int.not_lt, Int.not_le, ne_eq, Decidable.not_not] at h1
    try have h1b := inB_iff.1 h1
    obtain ⟨r, hr⟩ := some_get (xs := sh.rows) (k := i) (by omega)
    have hrb := isSh_r hs (List.mem_of_getElem? hr)
    have hxr := map_get (f := intC) hr
    refine t_skip ?_
    refine tn_code ?_
    refine t_seq ?_
    refine t_blk ?_
    refine t_regM [24, 25] [.own b2 (isC (shC sh pt) 33), .snap 0 w.heap.size w] rfl (by kernel_rfl) (by kernel_rfl) ?_
    refine tm_q ?e1 rfl ?q1 ?r1
    case q1 =>
      refine to_mv rfl rfl ?_
      exact tmq_end
    refine tm_q ?e2 rfl ?q2 ?r2
    case q2 =>
      first | refine to_fa rfl rfl rfl (by simp only [Nat.reduceAdd]; rfl) rfl ?_ | refine to_fae rfl rfl rfl (by simp only [Nat.reduceAdd]; rfl) rfl ?_
      exact tmq_end
    refine tm_q ?e3 rfl ?q3 ?r3
    case q3 =>
      first | refine to_lds rfl rfl rfl ?_ | refine to_ldes rfl (by assumption) rfl rfl ?_
      exact tmq_end
    refine tm_q ?e4 rfl ?q4 ?r4
    case q4 =>
      refine to_mv rfl rfl ?_
      exact tmq_end
    refine tm_q ?e5 rfl ?q5 ?r5
    case q5 =>
      first | refine to_ix rfl rfl rfl (by first | omega | decide) (by first | omega | decide) rfl ?_ | refine to_ixi rfl rfl rfl (by omega) (by omega) (by omega) rfl ?_
      exact tmq_end
    refine tm_q ?e6 rfl ?q6 ?r6
    case q6 =>
      first | refine to_lds rfl rfl rfl ?_ | refine to_ldes rfl (by assumption) rfl rfl ?_
      exact tmq_end
    refine tm_q ?e7 rfl ?q7 ?r7
    case q7 =>
      first | refine to_fa rfl rfl rfl (by simp only [Nat.reduceAdd]; rfl) rfl ?_ | refine to_fae rfl rfl rfl (by simp only [Nat.reduceAdd]; rfl) rfl ?_
      exact tmq_end
    refine tm_q ?e8 rfl ?q8 ?r8
    case q8 =>
      first | refine to_lds rfl rfl rfl ?_ | refine to_ldes rfl (by assumption) rfl rfl ?_
      exact tmq_end
    refine tm_q ?e9 rfl ?q9 ?r9
    case q9 =>
      refine to_mv rfl rfl ?_
      exact tmq_end
    refine tm_q ?e10 rfl ?q10 ?r10
    case q10 =>
      first | refine to_ix rfl rfl rfl (by first | omega | decide) (by first | omega | decide) rfl ?_ | refine to_ixi rfl rfl rfl (by omega) (by omega) (by omega) rfl ?_
      exact tmq_end
    refine tm_q ?e11 rfl ?q11 ?r11
    case q11 =>
      first | refine to_lds rfl rfl rfl ?_ | refine to_ldes rfl (by assumption) rfl rfl ?_
      exact tmq_end
    refine tm_q ?e12 rfl ?q12 ?r12
    case q12 =>
      refine to_sub rfl rfl (by omega) rfl ?_
      exact tmq_end
    refine tm_q ?e13 rfl ?q13 ?r13
    case q13 =>
      first | refine to_fa rfl rfl rfl (by simp only [Nat.reduceAdd]; rfl) rfl ?_ | refine to_fae rfl rfl rfl (by simp only [Nat.reduceAdd]; rfl) rfl ?_
      exact tmq_end
    refine tm_q ?e14 rfl ?q14 ?r14
    case q14 =>
      first | refine to_lds rfl rfl rfl ?_ | refine to_ldes rfl (by assumption) rfl rfl ?_
      exact tmq_end
    refine tm_q ?e15 rfl ?q15 ?r15
    case q15 =>
      refine to_mv rfl rfl ?_
      exact tmq_end
    refine tm_q ?e16 rfl ?q16 ?r16
    case q16 =>
      first | refine to_ix rfl rfl rfl (by first | omega | decide) (by first | omega | decide) rfl ?_ | refine to_ixi rfl rfl rfl (by omega) (by omega) (by omega) rfl ?_
      exact tmq_end
    refine tm_q ?e17 rfl ?q17 ?r17
    case q17 =>
      first | refine to_lds rfl rfl rfl ?_ | refine to_ldes rfl (by assumption) rfl rfl ?_
      exact tmq_end
    refine tm_q ?e18 rfl ?q18 ?r18
    case q18 =>
      first | refine to_fa rfl rfl rfl (by simp only [Nat.reduceAdd]; rfl) rfl ?_ | refine to_fae rfl rfl rfl (by simp only [Nat.reduceAdd]; rfl) rfl ?_
      exact tmq_end
    refine tm_q ?e19 rfl ?q19 ?r19
    case q19 =>
      first | refine to_lds rfl rfl rfl ?_ | refine to_ldes rfl (by assumption) rfl rfl ?_
      exact tmq_end
    refine tm_q ?e20 rfl ?q20 ?r20
    case q20 =>
      refine to_mv rfl rfl ?_
      exact tmq_end
    refine tm_q ?e21 rfl ?q21 ?r21
    case q21 =>
      first | refine to_ix rfl rfl rfl (by first | omega | decide) (by first | omega | decide) rfl ?_ | refine to_ixi rfl rfl rfl (by omega) (by omega) (by omega) rfl ?_
      exact tmq_end
    refine tm_q ?e22 rfl ?q22 ?r22
    case q22 =>
      first | refine to_lds rfl rfl rfl ?_ | refine to_ldes rfl (by assumption) rfl rfl ?_
      exact tmq_end
    refine tm_q ?e23 rfl ?q23 ?r23
    case q23 =>
      refine to_add rfl rfl (by omega) rfl ?_
      exact tmq_end
    refine tm_q ?e24 rfl ?q24 ?r24
    case q24 =>
      refine to_bs rfl rfl ?_
      exact tmq_end
    refine tm_s rfl ?_ (fun _ h => by cases h) rfl
    refine to_bsl rfl rfl rfl rfl (fun a38 => ?_)
    refine tm_se rfl ?_
    refine tm_s rfl ?_ (fun _ h => by cases h) rfl
    refine to_app rfl rfl rfl (by simp [scals, scal]) (by decide) (by omega) (by decide) rfl (fun a39 c39 => ?_)
    refine tm_se rfl ?_
    refine tm_q ?e25 rfl ?q25 ?r25
    case q25 =>
      refine to_as rfl rfl ?_
      exact tmq_end
    refine tm_nil ?_
    refine tn_blk ?_
    refine tn_code ?_
    refine t_reg ?_
    refine to_mv rfl rfl ?_
    refine to_add rfl rfl (by omega) rfl ?_
    refine to_as rfl rfl ?_
    refine to_nil ?_
    exact tn_loop2 ((i + 1, a39, c39)) [.row a39 (i + 1) c39 53 2 (spans ((sh.rows.take i).map fun r => (r - e, r + e)) ++ [[Value.int .i64 (r - e), Value.int .i64 (r + e)]]), .own b2 (isC (shC sh pt) 33), .snap 0 w.heap.size w] (by dsimp only; rw [mapk_succ hr]) (by dsimp only; omega) (by dsimp only; omega) (⟨rfl, rfl, rfl, rfl, trivial⟩)
  · try simp only [decide_eq_true_eq, decide_eq_false_iff_not, Bool.not_eq_true', Bool.not_eq_false', Int.not_lt, Int.not_le, ne_eq, Decidable.not_not] at h1
    try have h1b := inB_iff.1 h1
    have hk2 : i = sh.rows.length := by omega
    subst hk2
    refine t_exit ?_
    refine tx_code ?_
    refine tx_inv ?_
    refine tx_blk ?_
    refine tn_code ?_
    refine t_seq ?_
    refine t_reg ?_
    refine to_mv rfl rfl ?_
    refine to_as rfl rfl ?_
    refine to_nil ?_
    refine tn_code ?_
    refine t_ret1 rfl rfl (res_tmp rfl) (fun w' s => ?_)
    rw [List.take_length] at s; exact rsps_of (by simp [bndL]) (ro_row s)

theorem bnd_len (sh : Sh) (e : Int) : (bndL sh e).length = sh.rows.length := by simp [bndL]
theorem bnd_get {sh : Sh} {e r : Int} {i : Nat} (hr : sh.rows[i]? = some r) : (spans (bndL sh e))[i]? = some (spanC (r - e, r + e)) := by
  have : (bndL sh e)[i]? = some (r - e, r + e) := by simp [bndL, hr]
  exact map_get (f := spanC) this
end Go.Proofs


namespace Go.Proofs
open Go Go.Sx Go.RowKit

end Go.Proofs


namespace Go.Proofs
open Go Go.Sx Go.RowKit

def shortB (sh : Sh) : Bool := decide (sh.errs.length ≤ 7) && decide (sh.rows.length ≤ 7)
theorem short_b {sh : Sh} (h : shortB sh = true) : sh.errs.length ≤ 7 ∧ sh.rows.length ≤ 7 := by simpa [shortB] using h
theorem c_short (sh : Sh) (pt : Pt) (w : World) : Calls Tryz.prog 20 #[shV sh pt] w (RetV w (.bool (shortB sh))) := law_short sh pt w
theorem okG_no {sh : Sh} (h : isSh sh = false) (gd : Int) : okG sh gd = false := by simp [okG, h]
theorem okG_ng {sh : Sh} {gd : Int} (h : inB gd 0 (sh.errs.length - 1) = false) : okG sh gd = false := by simp [okG, h]
theorem grd_ok {sh : Sh} {k : Nat} {e : Int} (h : sh.errs[k]? = some e) : inB (k : Int) 0 (sh.errs.length - 1) = true := by
  have := (List.getElem?_eq_some_iff.1 h).1
  exact inB_iff.2 (by omega)
theorem grd_ex {sh : Sh} {gd : Int} (h : inB gd 0 (sh.errs.length - 1) = true) : ∃ (k : Nat) (e : Int), gd = (k : Int) ∧ sh.errs[k]? = some e := by
  have hb := inB_iff.1 h
  obtain ⟨k, rfl⟩ := Int.eq_ofNat_of_zero_le hb.1
  obtain ⟨e, he⟩ := some_get (xs := sh.errs) (k := k) (by omega)
  exact ⟨k, e, rfl, he⟩
end Go.Proofs


namespace Go.Proofs
open Go Go.Sx Go.RowKit

theorem fig_smallS {sh : Sh} (hs : isSh sh = true) {v : Int} (hv : -100008 ≤ v ∧ v ≤ 100008) : -100009 ≤ fig sh v ∧ fig sh v ≤ 100009 := fig_b (B := 100008) hs hv
theorem figk_succ' {F : Int → Int} {xs : List Int} {k : Nat} {y : Int} (h : xs[k]? = some y) : figO F (xs.take (k + 1)) = figO F (xs.take k) + F y := by rw [take_snoc h, figO_app]; simp [figO, sumI_cons, sumI_nil]
theorem sums_small {sh : Sh} {t : List Int} (hs : isSh sh = true) (hl : t.length ≤ 7) (hb : ∀ n ∈ t, -100008 ≤ n ∧ n ≤ 100008) (k : Nat) : (-700063 ≤ sumI (t.take k) ∧ sumI (t.take k) ≤ 700063) ∧ (-700063 ≤ figO (fig sh) (t.take k) ∧ figO (fig sh) (t.take k) ≤ 700063) := by
  have h1 := sum_bd (B := 100008) (by decide) (xs := t.take k) (fun x hx => hb x (List.mem_of_mem_take hx))
  have h2 := sum_bd (B := 100009) (by decide) (xs := (t.take k).map (fig sh)) (fun x hx => by
    obtain ⟨y, hy, rfl⟩ := List.mem_map.1 hx
    exact fig_smallS hs (hb y (List.mem_of_mem_take hy)))
  rw [List.length_map] at h2
  have h3 : (t.take k).length ≤ 7 := by simp; omega
  simp only [figO]
  omega

end Go.Proofs


namespace Go.Proofs
open Go Go.Sx Go.RowKit

theorem ieq_span (a b : Sp) : ieq (spanC a) (spanC b) = decide (a = b) := by
  obtain ⟨a1, a2⟩ := a
  obtain ⟨b1, b2⟩ := b
  rw [Bool.eq_iff_iff]
  simp [ieq]
end Go.Proofs


namespace Go.Proofs
open Go Go.Sx Go.RowKit

def RUn (sh : Sh) (pt : Pt) (i : Nat) : Nat → World → Value → Prop := fun lo w1 v => ∃ ra rc, v = .agg [.int .i64 sh.unit, .int .i64 sh.rule, .slice pt.ea sh.errs.length pt.ec, .slice ra (i + 1) rc].toArray ∧ Ro w1 lo w1.heap.size ra (i + 1) rc 1 (ints (sh.rows.take (i + 1)))
theorem scal_ints (xs : List Int) : ∀ y ∈ ints xs, scals y = true := by
  intro y hy
  obtain ⟨l, _, rfl⟩ := List.mem_map.1 hy
  simp [scals, scal, intC]

set_option maxRecDepth 20000 in
theorem ref_Until (sh : Sh) (pt : Pt) (i : Nat) (w : World) (hre : Ro w 0 w.heap.size pt.ea sh.errs.length pt.ec 1 (ints sh.errs)) (hrr : Ro w 0 w.heap.size pt.ra sh.rows.length pt.rc 1 (ints sh.rows)) (hi : i < sh.rows.length) (hl : sh.rows.length ≤ 1000) : Calls Tryz.prog 52 #[shV sh pt, (.int .i64 (i : Int))] w (Ret w (RUn sh pt i)) := by
  have hrle := hrr.le
  refine calls_T (av := [_, _]) Tryz.func52 rfl rfl rfl ?_
  refine t_seq ?_
  refine t_reg ?_
  refine to_box rfl rfl (fun b2 => ?_)
  refine to_alloc rfl (fun b4 => ?_)
  refine to_nil ?_
  refine tn_code ?_
  refine t_seq ?_
  refine t_nilrow 3 1 ?_
  refine t_reg ?_
  first | refine to_fa rfl rfl rfl (by simp only [Nat.reduceAdd]; rfl) rfl ?_ | refine to_fae rfl rfl rfl (by simp only [Nat.reduceAdd]; rfl) rfl ?_
  first | refine to_lds rfl rfl rfl ?_ | refine to_ldes rfl (by assumption) rfl rfl ?_
  refine to_mv rfl rfl ?_
  refine to_add rfl rfl (by omega) rfl ?_
  refine to_slH (k := i + 1) rfl rfl (by omega) rfl ?_
  refine to_app (hq := ⟨fun w' s => by have h9 := ro_take (rdw s (a := pt.ra) (n := sh.rows.length) (xs := ints sh.rows)) (k := i + 1) (by omega); rw [← List.map_take] at h9; exact h9⟩) rfl rfl rfl (scal_ints _) (by decide) (show (0 + (i + 1)) * 8 ≤ 1099511627776 from by omega) (by decide) rfl (fun a10 c10 => ?_)
  first | refine to_fa rfl rfl rfl (by simp only [Nat.reduceAdd]; rfl) rfl ?_ | refine to_fae rfl rfl rfl (by simp only [Nat.reduceAdd]; rfl) rfl ?_
  first | refine to_st rfl rfl rfl rfl ?_ | refine to_ste rfl rfl (by assumption) rfl rfl ?_
  refine to_nil ?_
  refine tn_code ?_
  refine t_seq ?_
  refine t_reg ?_
  first | refine to_lda rfl rfl rfl ?_ | refine to_ldea rfl (by assumption) rfl rfl ?_
  first | refine to_st rfl rfl rfl rfl ?_ | refine to_ste rfl rfl (by assumption) rfl rfl ?_
  refine to_nil ?_
  refine tn_code ?_
  refine t_ret1 rfl rfl (res_cellA rfl rfl) (fun w' s => ?_)
  refine ⟨a10, c10, by simp, ?_⟩
  have h9 := ro_row s (a := a10)
  simpa using h9

theorem c_Proof {sh : Sh} {pt : Pt} {k : Nat} {e : Int} {x : List Int} {er : Int} {w : World} (hre : Ro w 0 w.heap.size pt.ea sh.errs.length pt.ec 1 (ints sh.errs)) (hrr : Ro w 0 w.heap.size pt.ra sh.rows.length pt.rc 1 (ints sh.rows)) (hs : isSh sh = true) (he : sh.errs[k]? = some e) (h : prfR sh e = (x, er)) : Calls Tryz.prog 49 #[shV sh pt, .int .i64 (k : Int)] w (Ret w (RSlE x er)) := by
  have := r_Proof_t sh pt k e w hre hrr hs he
  rw [h] at this; exact this
theorem c_First {sh : Sh} {pt : Pt} {k : Nat} {e a b : Int} {w : World} (hre : Ro w 0 w.heap.size pt.ea sh.errs.length pt.ec 1 (ints sh.errs)) (hrr : Ro w 0 w.heap.size pt.ra sh.rows.length pt.rc 1 (ints sh.rows)) (hs : isSh sh = true) (he : sh.errs[k]? = some e) (h : rFst sh e = (a, b)) : Calls Tryz.prog 48 #[shV sh pt, .int .i64 (k : Int)] w (RetV w (.tuple #[.int .i64 a, .int .i64 b])) := by
  have := r_First_t sh pt k e w hre hrr hs he
  rw [h] at this; exact this
theorem prf_none {sh : Sh} {e : Int} (h : firF sh e [] = none) : prfR sh e = ([], 5) := by simp [prfR, h]
theorem prf_some {sh : Sh} {e : Int} {x : List Int} (h : firF sh e [] = some x) : prfR sh e = (x, 0) := by simp [prfR, h]
theorem span_ne {z : Sp} (h : z ≠ (0, 0)) : ieq (spanC z) (spanC (0, 0)) = false := by rw [ieq_span]; simp [h]

end Go.Proofs


namespace Go.Proofs
open Go Go.Sx Go.RowKit

theorem rngN_snoc : ∀ (k : Nat) (lo : Int), rngN lo (k + 1) = rngN lo k ++ [lo + k]
  | 0, lo => by simp [rngN]
  | k + 1, lo => by
    rw [rngN, rngN_snoc k (lo + 1)]
    show _ = (lo :: rngN (lo + 1) k) ++ _
    rw [List.cons_append]; congr 3; omega
/-- What is met behind some numbers of a row. -/
def stX (sh : Sh) (e r : Int) (G : Int → Option Sp) (lo : Int) (q p : Nat) : Option Sp := stepO (fig sh) G (rngN (r - e) p) (lo + (r - e) + q)
theorem stX_succ {sh : Sh} {e r : Int} {G : Int → Option Sp} {lo : Int} {q p : Nat} : stX sh e r G lo q (p + 1) = mgO (stX sh e r G lo q p) (shO (G (lo + ((q : Int) - p))) (fig sh (r - e + p))) := by
  simp only [stX]
  rw [rngN_snoc, stepO_snoc]
  congr 3; omega
theorem mg_none (a : Option Sp) : mgO a none = a := by cases a <;> rfl
theorem stX_out {sh : Sh} {e r : Int} {G : Int → Option Sp} {lo : Int} {q p : Nat} {L : List Sp} (hL : SeqOk L lo G) {x : Int} (hx : x = (q : Int) - p) (h : inB x 0 ((L.length : Int) - 1) = false) : stX sh e r G lo q (p + 1) = stX sh e r G lo q p := by
  have h2 : ¬ (0 ≤ x ∧ x ≤ (L.length : Int) - 1) := fun hh => by rw [inB_iff.2 hh] at h; cases h
  rw [stX_succ, hL, if_neg (by omega)]
  exact mg_none _
theorem stX_in {sh : Sh} {e r : Int} {G : Int → Option Sp} {lo : Int} {q p j : Nat} {L : List Sp} {v : Sp} (hL : SeqOk L lo G) (hv : L[j]? = some v) (hx : (q : Int) - p = j) : stX sh e r G lo q (p + 1) = mgO (stX sh e r G lo q p) (some (v.1 + fig sh (r - e + p), v.2 + fig sh (r - e + p))) := by
  rw [stX_succ, hx, seq_in hL hv]; rfl
theorem stX_inN {sh : Sh} {e r : Int} {G : Int → Option Sp} {lo : Int} {q p j : Nat} {L : List Sp} {v : Sp} (hL : SeqOk L lo G) (hv : L[j]? = some v) (hx : (q : Int) - p = j) (hn : (stX sh e r G lo q p).isSome = false) : stX sh e r G lo q (p + 1) = some (v.1 + fig sh (r - e + p), v.2 + fig sh (r - e + p)) := by
  rw [stX_in hL hv hx]
  cases hq : stX sh e r G lo q p with
  | none => rfl
  | some u => rw [hq] at hn; cases hn
theorem stX_inS {sh : Sh} {e r : Int} {G : Int → Option Sp} {lo : Int} {q p j : Nat} {L : List Sp} {v : Sp} (hL : SeqOk L lo G) (hv : L[j]? = some v) (hx : (q : Int) - p = j) (hn : (stX sh e r G lo q p).isSome = true) : stX sh e r G lo q (p + 1) = some (min ((stX sh e r G lo q p).getD (0, 0)).1 (v.1 + fig sh (r - e + p)), max ((stX sh e r G lo q p).getD (0, 0)).2 (v.2 + fig sh (r - e + p))) := by
  rw [stX_in hL hv hx]
  cases hq : stX sh e r G lo q p with
  | none => rw [hq] at hn; cases hn
  | some u => rfl
theorem stX_end {sh : Sh} {e r : Int} {G : Int → Option Sp} {lo : Int} {q p : Nat} (hp : (p : Int) = 2 * e + 1) : stX sh e r G lo q p = stepO (fig sh) G (exL e r) (lo + (r - e) + q) := by
  simp only [stX, exL]
  rw [show p = (2 * e + 1).toNat by omega]
theorem sumP_bd {sh : Sh} {e : Int} (hs : isSh sh = true) (he : 0 ≤ e ∧ e ≤ 8) {now rs : List Int} (hnl : now.length ≤ 7) (hnb : ∀ n ∈ now, -100008 ≤ n ∧ n ≤ 100008) (hrs : rs.length ≤ 5) (hrb : ∀ r ∈ rs, -100000 ≤ r ∧ r ≤ 100000) {k : Int} {v : Sp} (h : sumP (fig sh) e now rs k = some v) : (-1200108 ≤ v.1 ∧ v.1 ≤ 1200108) ∧ (-1200108 ≤ v.2 ∧ v.2 ≤ 1200108) := by
  have hE := sumP_isE (F := fig sh) he.1 now rs k
  rw [h] at hE
  have key : ∀ t, truK e rs t = true → -1200108 ≤ figO (fig sh) (now ++ t) ∧ figO (fig sh) (now ++ t) ≤ 1200108 := fun t ht => by
    have h1 := tru_bd (B := 100000) ht hrb
    have h2 := sum_bd (B := 100009) (by decide) (xs := (now ++ t).map (fig sh)) (fun x hx => by
      obtain ⟨y, hy, rfl⟩ := List.mem_map.1 hx
      rcases List.mem_append.1 hy with hy | hy
      · exact fig_smallS hs (hnb y hy)
      · have := h1 y hy
        exact fig_smallS hs (by omega))
    have h3 := truK_len ht
    rw [List.length_map, List.length_append] at h2
    simp only [figO]; omega
  obtain ⟨⟨t1, a1, a2, a3⟩, ⟨t2, b1, b2, b3⟩, _⟩ := hE
  have c1 := key t1 a1
  have c2 := key t2 b1
  omega
def RSum (sh : Sh) (e : Int) (now : List Int) : Nat → World → Value → Prop := fun lo0 w1 v => ∃ (lo : Int) (L : List Sp) (a1 : Option Addr) (c1 : Nat), v = .tuple #[.int .i64 lo, .slice a1 L.length c1] ∧ Ro w1 lo0 w1.heap.size a1 L.length c1 2 (spans L) ∧ SeqOk L lo (sumP (fig sh) e now (sh.rows.drop now.length)) ∧ (1 ≤ L.length ∧ L.length ≤ 100) ∧ (-1300000 ≤ lo ∧ lo ≤ 1300000)
theorem drop_snoc {xs : List Int} {m i : Nat} {r : Int} (h : m ≤ i) (hr : xs[i]? = some r) : (xs.take (i + 1)).drop m = (xs.take i).drop m ++ [r] := by
  have := (List.getElem?_eq_some_iff.1 hr).1
  rw [take_snoc hr, List.drop_append_of_le_length (by simp; omega)]
theorem sums_now {sh : Sh} {now : List Int} (hs : isSh sh = true) (hl : now.length ≤ 7) (hb : ∀ n ∈ now, -100008 ≤ n ∧ n ≤ 100008) : (-700063 ≤ sumI now ∧ sumI now ≤ 700063) ∧ (-700063 ≤ figO (fig sh) now ∧ figO (fig sh) now ≤ 700063) := by
  have := sums_small hs hl hb now.length
  rwa [List.take_length] at this
theorem nx_all {F : Int → Int} {G : Int → Option Sp} {P : List Int} {c : Int} {N : List Sp} {o : Option Sp} {x : Sp} (hN : ∀ j : Nat, j < N.length → N[j]? = stepO F G P (c + j)) (ho : o = stepO F G P (c + N.length)) (hx : stepO F G P (c + N.length) = some x) : ∀ j : Nat, j < (N ++ [o.getD (0, 0)]).length → (N ++ [o.getD (0, 0)])[j]? = stepO F G P (c + j) := by
  intro j hj
  simp at hj
  rcases Nat.lt_or_ge j N.length with h | h
  · rw [List.getElem?_append_left h]; exact hN j h
  · have : j = N.length := by omega
    subst this
    rw [List.getElem?_append_right (Nat.le_refl _), ho, hx]; simp

set_option maxRecDepth 20000 in
theorem ref_Sum (now : List Int) (na : Option Addr) (nc : Nat) (w : World) {sh : Sh} (hs : isSh sh = true) (hnr : Ro w 0 w.heap.size na now.length nc 1 (ints now)) (hnl : now.length ≤ 7) (hnb : ∀ n ∈ now, -100008 ≤ n ∧ n ≤ 100008) : Calls Tryz.prog 107 #[.slice na now.length nc] w (RetV w (.int .i64 (sumI now))) := by
  have hsm := sums_small hs hnl hnb
  refine calls_T0 (av := [_]) Tryz.func107 rfl rfl rfl ?_
  refine t_seq ?_
  refine t_reg ?_
  refine to_as rfl rfl ?_
  refine to_nil ?_
  refine tn_code ?_
  refine t_seq ?_
  refine t_reg ?_
  refine to_as rfl rfl ?_
  refine to_nil ?_
  refine tn_code ?_
  refine t_seq ?_
  refine t_seq ?_
  refine t_reg ?_
  refine to_as rfl rfl ?_
  refine to_nil ?_
  refine tn_code ?_
  refine t_blk ?_
  refine t_loop2 (ι := Nat) (fun j => j ≤ now.length) (fun j => [(0, .slice na now.length nc), (3, (.int .i64 (sumI (now.take j)))), (4, (.int .i64 (j : Int)))]) (fun j => [.snap 0 w.heap.size w]) (fun j => now.length - j) (0) [.snap 0 w.heap.size w] (rfl) (Nat.zero_le _) (⟨rfl, rfl, rfl, trivial⟩) ?_
  rintro j hk
  show T _ _ _ ⟨_, [(0, .slice na now.length nc), (3, (.int .i64 (sumI (now.take j)))), (4, (.int .i64 (j : Int)))], _⟩ [.snap 0 w.heap.size w]
  refine t_seq ?_
  refine t_seq ?_
  refine t_reg ?_
  refine to_mv rfl rfl ?_
  refine to_mv rfl rfl ?_
  refine to_lenS rfl rfl ?_
  refine to_lss rfl rfl rfl ?_
  refine to_nil ?_
  refine tn_code ?_
  refine t_if rfl (fun h1 => ?_) (fun h1 => ?_)
  · try simp only [decide_eq_true_eq, decide_eq_false_iff_not, Bool.not_eq_true', Bool.not_eq_false', Int.not_lt, Int.not_le, ne_eq, Decidable.not_not] at h1
    try have h1b := inB_iff.1 h1
    obtain ⟨n, hn⟩ := some_get (xs := now) (k := j) (by omega)
    have hxn := map_get (f := intC) hn
    have hnb1 := hnb n (List.mem_of_getElem? hn)
    have hsj := hsm j
    refine t_skip ?_
    refine tn_code ?_
    refine t_seq ?_
    refine t_blk ?_
    refine t_reg ?_
    refine to_mv rfl rfl ?_
    refine to_mv rfl rfl ?_
    refine to_mv rfl rfl ?_
    first | refine to_ix rfl rfl rfl (by first | omega | decide) (by first | omega | decide) rfl ?_ | refine to_ixi rfl rfl rfl (by omega) (by omega) (by omega) rfl ?_
    first | refine to_lds rfl rfl rfl ?_ | refine to_ldes rfl (by assumption) rfl rfl ?_
    refine to_add rfl rfl (by omega) rfl ?_
    refine to_as rfl rfl ?_
    refine to_nil ?_
    refine tn_blk ?_
    refine tn_code ?_
    refine t_reg ?_
    refine to_mv rfl rfl ?_
    refine to_add rfl rfl (by omega) rfl ?_
    refine to_as rfl rfl ?_
    refine to_nil ?_
    exact tn_loop2 (j + 1) [.snap 0 w.heap.size w] (rfl) (by omega) (by omega) (⟨rfl, congrArg (fun z => some (Value.int .i64 z)) (sumI_take hn).symm, rfl, trivial⟩)
  · try simp only [decide_eq_true_eq, decide_eq_false_iff_not, Bool.not_eq_true', Bool.not_eq_false', Int.not_lt, Int.not_le, ne_eq, Decidable.not_not] at h1
    try have h1b := inB_iff.1 h1
    have hk2 : j = now.length := by omega
    subst hk2
    rw [List.take_length]
    refine t_exit ?_
    refine tx_code ?_
    refine tx_inv ?_
    refine tx_blk ?_
    refine tn_code ?_
    refine t_seq ?_
    refine t_reg ?_
    refine to_mv rfl rfl ?_
    refine to_as rfl rfl ?_
    refine to_nil ?_
    refine tn_code ?_
    refine t_ret1 rfl rfl (res_tmp rfl) (fun w' s => ?_)
    rfl

set_option maxRecDepth 20000 in
theorem ref_Added (sh : Sh) (pt : Pt) (now : List Int) (na : Option Addr) (nc : Nat) (w : World) (hs : isSh sh = true) (hnr : Ro w 0 w.heap.size na now.length nc 1 (ints now)) (hnl : now.length ≤ 7) (hnb : ∀ n ∈ now, -100008 ≤ n ∧ n ≤ 100008) : Calls Tryz.prog 108 #[shV sh pt, .slice na now.length nc] w (RetV w (.int .i64 (figO (fig sh) now))) := by
  have hsm := sums_small hs hnl hnb
  refine calls_T0 (av := [_, _]) Tryz.func108 rfl rfl rfl ?_
  refine t_seq ?_
  refine t_reg ?_
  refine to_box rfl rfl (fun b2 => ?_)
  refine to_as rfl rfl ?_
  refine to_nil ?_
  refine tn_code ?_
  refine t_seq ?_
  refine t_reg ?_
  refine to_as rfl rfl ?_
  refine to_nil ?_
  refine tn_code ?_
  refine t_seq ?_
  refine t_seq ?_
  refine t_reg ?_
  refine to_as rfl rfl ?_
  refine to_nil ?_
  refine tn_code ?_
  refine t_blk ?_
  refine t_loop2 (ι := Nat) (fun j => j ≤ now.length) (fun j => [(1, .slice na now.length nc), (2, (.pointer (some ⟨b2, 0, none⟩))), (5, (.int .i64 (figO (fig sh) (now.take j)))), (6, (.int .i64 (j : Int)))]) (fun j => [.own b2 (isC (shC sh pt) 33), .snap 0 w.heap.size w]) (fun j => now.length - j) (0) [.own b2 (isC (shC sh pt) 33), .snap 0 w.heap.size w] (rfl) (Nat.zero_le _) (⟨rfl, rfl, rfl, rfl, trivial⟩) ?_
  rintro j hk
  show T _ _ _ ⟨_, [(1, .slice na now.length nc), (2, (.pointer (some ⟨b2, 0, none⟩))), (5, (.int .i64 (figO (fig sh) (now.take j)))), (6, (.int .i64 (j : Int)))], _⟩ [.own b2 (isC (shC sh pt) 33), .snap 0 w.heap.size w]
  refine t_seq ?_
  refine t_seq ?_
  refine t_reg ?_
  refine to_mv rfl rfl ?_
  refine to_mv rfl rfl ?_
  refine to_lenS rfl rfl ?_
  refine to_lss rfl rfl rfl ?_
  refine to_nil ?_
  refine tn_code ?_
  refine t_if rfl (fun h1 => ?_) (fun h1 => ?_)
  · try simp only [decide_eq_true_eq, decide_eq_false_iff_not, Bool.not_eq_true', Bool.not_eq_false', Int.not_lt, Int.not_le, ne_eq, Decidable.not_not] at h1
    try have h1b := inB_iff.1 h1
    obtain ⟨n, hn⟩ := some_get (xs := now) (k := j) (by omega)
    have hxn := map_get (f := intC) hn
    have hnb1 := hnb n (List.mem_of_getElem? hn)
    have hfn := fig_smallS hs hnb1
    have hsj := hsm j
    refine t_skip ?_
    refine tn_code ?_
    refine t_seq ?_
    refine t_blk ?_
    refine t_regM [] [.own b2 (isC (shC sh pt) 33), .snap 0 w.heap.size w] rfl (by kernel_rfl) (by kernel_rfl) ?_
    refine tm_q ?e1 rfl ?q1 ?r1
    case q1 =>
      refine to_mv rfl rfl ?_
      exact tmq_end
    refine tm_q ?e2 rfl ?q2 ?r2
    case q2 =>
      first | refine to_lda rfl rfl rfl ?_ | refine to_ldea rfl (by assumption) rfl rfl ?_
      exact tmq_end
    refine tm_q ?e3 rfl ?q3 ?r3
    case q3 =>
      refine to_mv rfl rfl ?_
      exact tmq_end
    refine tm_q ?e4 rfl ?q4 ?r4
    case q4 =>
      refine to_mv rfl rfl ?_
      exact tmq_end
    refine tm_q ?e5 rfl ?q5 ?r5
    case q5 =>
      first | refine to_ix rfl rfl rfl (by first | omega | decide) (by first | omega | decide) rfl ?_ | refine to_ixi rfl rfl rfl (by omega) (by omega) (by omega) rfl ?_
      exact tmq_end
    refine tm_q ?e6 rfl ?q6 ?r6
    case q6 =>
      first | refine to_lds rfl rfl rfl ?_ | refine to_ldes rfl (by assumption) rfl rfl ?_
      exact tmq_end
    refine tm_q ?e7 rfl ?q7 ?r7
    case q7 =>
      refine to_call0 rfl rfl (fun w s => ref_of sh pt _ w hs (by omega)) rfl ?_
      exact tmq_end
    refine tm_q ?e8 rfl ?q8 ?r8
    case q8 =>
      refine to_add rfl rfl (by omega) rfl ?_
      exact tmq_end
    refine tm_q ?e9 rfl ?q9 ?r9
    case q9 =>
      refine to_as rfl rfl ?_
      exact tmq_end
    refine tm_nil ?_
    refine tn_blk ?_
    refine tn_code ?_
    refine t_reg ?_
    refine to_mv rfl rfl ?_
    refine to_add rfl rfl (by omega) rfl ?_
    refine to_as rfl rfl ?_
    refine to_nil ?_
    exact tn_loop2 (j + 1) [.own b2 (isC (shC sh pt) 33), .snap 0 w.heap.size w] (rfl) (by omega) (by omega) (⟨rfl, rfl, congrArg (fun z => some (Value.int .i64 z)) (figk_succ' hn).symm, rfl, trivial⟩)
  · try simp only [decide_eq_true_eq, decide_eq_false_iff_not, Bool.not_eq_true', Bool.not_eq_false', Int.not_lt, Int.not_le, ne_eq, Decidable.not_not] at h1
    try have h1b := inB_iff.1 h1
    have hk2 : j = now.length := by omega
    subst hk2
    rw [List.take_length]
    refine t_exit ?_
    refine tx_code ?_
    refine tx_inv ?_
    refine tx_blk ?_
    refine tn_code ?_
    refine t_seq ?_
    refine t_reg ?_
    refine to_mv rfl rfl ?_
    refine to_as rfl rfl ?_
    refine to_nil ?_
    refine tn_code ?_
    refine t_ret1 rfl rfl (res_tmp rfl) (fun w' s => ?_)
    rfl

set_option maxRecDepth 20000 in
theorem ref_sums (sh : Sh) (pt : Pt) (k : Nat) (e : Int) (now : List Int) (na : Option Addr) (nc : Nat) (w : World) (hre : Ro w 0 w.heap.size pt.ea sh.errs.length pt.ec 1 (ints sh.errs)) (hrr : Ro w 0 w.heap.size pt.ra sh.rows.length pt.rc 1 (ints sh.rows)) (hs : isSh sh = true) (he : sh.errs[k]? = some e) (hnr : Ro w 0 w.heap.size na now.length nc 1 (ints now)) (hnl : now.length ≤ 7) (hnb : ∀ n ∈ now, -100008 ≤ n ∧ n ≤ 100008) (hnm : now.length ≤ sh.rows.length) : Calls Tryz.prog 84 #[shV sh pt, (.int .i64 (k : Int)), .slice na now.length nc] w (Ret w (RSum sh e now)) := by
  have heb := errs_b (isSh_e hs) e (List.mem_of_getElem? he)
  have hbb := isSh_b hs
  have hxe := map_get (f := intC) he
  have hke := (List.getElem?_eq_some_iff.1 he).1
  have hbl := bnd_len sh e
  have hsn := sums_now hs hnl hnb
  refine calls_T (av := [_, _, _]) Tryz.func84 rfl rfl rfl ?_
  refine t_seq ?_
  refine t_reg ?_
  refine to_box rfl rfl (fun b3 => ?_)
  refine to_as rfl rfl ?_
  refine to_as rfl rfl ?_
  refine to_nil ?_
  refine tn_code ?_
  refine t_seq ?_
  refine t_reg ?_
  first | refine to_lda rfl rfl rfl ?_ | refine to_ldea rfl (by assumption) rfl rfl ?_
  refine to_mv rfl rfl ?_
  refine to_callR rfl rfl (fun w s => ref_Bounds sh pt k e w (rdw s) (rdw s) hs he) rfl (fun v22 lo22 w22 hlo22 hR22 => ?_)
  obtain ⟨pa22, pc22, rfl, hro22⟩ := hR22
  rw [hbl] at *
  refine to_as rfl rfl ?_
  refine to_nil ?_
  refine tn_code ?_
  refine t_seq ?_
  refine t_reg ?_
  refine to_mv rfl rfl ?_
  refine to_call0 rfl rfl (fun w s => ref_Sum now na nc w hs (rdw s) hnl hnb) rfl ?_
  refine to_as rfl rfl ?_
  refine to_nil ?_
  refine tn_code ?_
  refine t_seq ?_
  refine t_regM [7] [.own b3 (isC (shC sh pt) 33), .snap 0 w.heap.size w] rfl (by kernel_rfl) (by kernel_rfl) ?_
  refine tm_q ?e1 rfl ?q1 ?r1
  case q1 =>
    first | refine to_lda rfl rfl rfl ?_ | refine to_ldea rfl (by assumption) rfl rfl ?_
    exact tmq_end
  refine tm_q ?e2 rfl ?q2 ?r2
  case q2 =>
    refine to_mv rfl rfl ?_
    exact tmq_end
  refine tm_q ?e3 rfl ?q3 ?r3
  case q3 =>
    refine to_call0 rfl rfl (fun w s => ref_Added sh pt now na nc w hs (rdw s) hnl hnb) rfl ?_
    exact tmq_end
  refine tm_q ?e4 rfl ?q4 ?r4
  case q4 =>
    first | refine to_lda rfl rfl rfl ?_ | refine to_ldea rfl (by assumption) rfl rfl ?_
    exact tmq_end
  refine tm_q ?e5 rfl ?q5 ?r5
  case q5 =>
    refine to_mv rfl rfl ?_
    exact tmq_end
  refine tm_q ?e6 rfl ?q6 ?r6
  case q6 =>
    refine to_call0 rfl rfl (fun w s => ref_Added sh pt now na nc w hs (rdw s) hnl hnb) rfl ?_
    exact tmq_end
  refine tm_q ?e7 rfl ?q7 ?r7
  case q7 =>
    refine to_bs rfl rfl ?_
    exact tmq_end
  refine tm_s rfl ?_ (fun _ h => by cases h) rfl
  refine to_bsl rfl rfl rfl rfl (fun a32 => ?_)
  refine tm_se rfl ?_
  refine tm_q ?e8 rfl ?q8 ?r8
  case q8 =>
    refine to_as rfl rfl ?_
    exact tmq_end
  refine tm_nil ?_
  refine tn_code ?_
  refine t_seq ?_
  refine t_seq ?_
  refine t_reg ?_
  refine to_mv rfl rfl ?_
  refine to_lenS rfl rfl ?_
  refine to_as rfl rfl ?_
  refine to_nil ?_
  refine tn_code ?_
  refine t_blk ?_
  refine t_loop2 (ι := Nat × Int × List Sp × Option Addr × Nat) (fun ((i, lo, L, a', c') : Nat × Int × List Sp × Option Addr × Nat) => (now.length ≤ i ∧ i ≤ sh.rows.length) ∧ SeqOk L lo (sumP (fig sh) e now ((sh.rows.take i).drop now.length)) ∧ (1 ≤ L.length ∧ L.length ≤ 1 + 16 * i) ∧ (-(100008 * (i : Int)) - 700063 ≤ lo ∧ lo ≤ 100008 * (i : Int) + 700063)) (fun ((i, lo, L, a', c') : Nat × Int × List Sp × Option Addr × Nat) => [(3, (.pointer (some ⟨b3, 0, none⟩))), (8, .slice pa22 sh.rows.length pc22), (9, (.int .i64 lo)), (10, .slice a' L.length c'), (11, (.int .i64 (i : Int)))]) (fun ((i, lo, L, a', c') : Nat × Int × List Sp × Option Addr × Nat) => [.row a' L.length c' 53 2 (spans L), .own b3 (isC (shC sh pt) 33), .snap lo22 w22.heap.size w22, .snap 0 w.heap.size w]) (fun ((i, lo, L, a', c') : Nat × Int × List Sp × Option Addr × Nat) => sh.rows.length - i) ((now.length, sumI now, [(figO (fig sh) now, figO (fig sh) now)], a32, 1)) [.row a32 1 1 53 2 [[.int .i64 (figO (fig sh) now), .int .i64 (figO (fig sh) now)]], .own b3 (isC (shC sh pt) 33), .snap lo22 w22.heap.size w22, .snap 0 w.heap.size w] (rfl) (⟨⟨Nat.le_refl _, hnm⟩, by (try dsimp only); rw [List.drop_eq_nil_of_le (by simp; omega)]; exact sumP_nil (fig sh) e now, ⟨by simp, by simp⟩, by (try dsimp only); omega⟩) (⟨rfl, rfl, rfl, rfl, rfl, trivial⟩) ?_
  rintro ⟨i, lo, L, a', c'⟩ ⟨⟨hi1, hi2⟩, hL, ⟨hL1, hL2⟩, hlob⟩
  try dsimp only at hk
  show T _ _ _ ⟨_, [(3, (.pointer (some ⟨b3, 0, none⟩))), (8, .slice pa22 sh.rows.length pc22), (9, (.int .i64 lo)), (10, .slice a' L.length c'), (11, (.int .i64 (i : Int)))], _⟩ [.row a' L.length c' 53 2 (spans L), .own b3 (isC (shC sh pt) 33), .snap lo22 w22.heap.size w22, .snap 0 w.heap.size w]
  refine t_seq ?_
  refine t_seq ?_
  refine t_reg ?_
  refine to_mv rfl rfl ?_
  refine to_mv rfl rfl ?_
  refine to_lenS rfl rfl ?_
  refine to_lss rfl rfl rfl ?_
  refine to_nil ?_
  refine tn_code ?_
  refine t_if rfl (fun h1 => ?_) (fun h1 => ?_)
  · try simp only [decide_eq_true_eq, decide_eq_false_iff_not, Bool.not_eq_true', Bool.not_eq_false', Int.not_lt, Int.not_le, ne_eq, Decidable.not_not] at h1
    try have h1b := inB_iff.1 h1
    obtain ⟨r, hr⟩ := some_get (xs := sh.rows) (k := i) (by omega)
    have hrb := isSh_r hs (List.mem_of_getElem? hr)
    have hxr := bnd_get (e := e) hr
    have hir := (List.getElem?_eq_some_iff.1 hr).1
    have hlr : ((sh.rows.take i).drop now.length).length ≤ 5 := by simp; omega
    have hLb : ∀ (j : Nat) (v : Sp), L[j]? = some v → _ := fun j v hv => sumP_bd hs heb hnl hnb hlr (fun x hx => isSh_r hs (List.mem_of_mem_take (List.mem_of_mem_drop hx))) (seq_in hL hv)
    refine t_skip ?_
    refine tn_code ?_
    refine t_seq ?_
    refine t_blk ?_
    refine t_seq ?_
    refine t_reg ?_
    refine to_as rfl rfl ?_
    refine to_nil ?_
    refine tn_code ?_
    refine t_seq ?_
    refine t_seq ?_
    refine t_reg ?_
    refine to_as rfl rfl ?_
    refine to_nil ?_
    refine tn_code ?_
    refine t_blk ?_
    refine t_nilrow 53 2 ?_
    refine t_loop2 (ι := List Sp × Option Addr × Nat) (fun ((N, a2, c2) : List Sp × Option Addr × Nat) => (∀ j : Nat, j < N.length → N[j]? = stepO (fig sh) (sumP (fig sh) e now ((sh.rows.take i).drop now.length)) (exL e r) (lo + (r - e) + j)) ∧ (N.length : Int) ≤ L.length + 2 * e) (fun ((N, a2, c2) : List Sp × Option Addr × Nat) => [(3, (.pointer (some ⟨b3, 0, none⟩))), (8, .slice pa22 sh.rows.length pc22), (9, (.int .i64 lo)), (10, .slice a' L.length c'), (11, (.int .i64 (i : Int))), (12, .slice a2 N.length c2), (13, (.int .i64 (N.length : Int)))]) (fun ((N, a2, c2) : List Sp × Option Addr × Nat) => [.row a2 N.length c2 53 2 (spans N), .row a' L.length c' 53 2 (spans L), .own b3 (isC (shC sh pt) 33), .snap lo22 w22.heap.size w22, .snap 0 w.heap.size w]) (fun ((N, a2, c2) : List Sp × Option Addr × Nat) => (L.length + 2 * e).toNat - N.length) (([], none, 0)) [.row none 0 0 53 2 [], .row a' L.length c' 53 2 (spans L), .own b3 (isC (shC sh pt) 33), .snap lo22 w22.heap.size w22, .snap 0 w.heap.size w] (rfl) (⟨fun j hj => absurd hj (Nat.not_lt_zero _), by (try dsimp only); simp; omega⟩) (⟨rfl, rfl, rfl, rfl, rfl, rfl, rfl, trivial⟩) ?_
    rintro ⟨N, a2, c2⟩ ⟨hN, hNl⟩
    try dsimp only at hk
    show T _ _ _ ⟨_, [(3, (.pointer (some ⟨b3, 0, none⟩))), (8, .slice pa22 sh.rows.length pc22), (9, (.int .i64 lo)), (10, .slice a' L.length c'), (11, (.int .i64 (i : Int))), (12, .slice a2 N.length c2), (13, (.int .i64 (N.length : Int)))], _⟩ [.row a2 N.length c2 53 2 (spans N), .row a' L.length c' 53 2 (spans L), .own b3 (isC (shC sh pt) 33), .snap lo22 w22.heap.size w22, .snap 0 w.heap.size w]
    refine t_seq ?_
    refine t_seq ?_
    refine t_regD rfl (by kernel_rfl) (by kernel_rfl) ?_
    refine to_mv rfl rfl ?_
    refine to_mv rfl rfl ?_
    refine to_lenS rfl rfl ?_
    refine to_mv rfl rfl ?_
    refine to_mv rfl rfl ?_
    first | refine to_ix rfl rfl rfl (by first | omega | decide) (by first | omega | decide) rfl ?_ | refine to_ixi rfl rfl rfl (by omega) (by omega) (by omega) rfl ?_
    first | refine to_fa rfl rfl rfl (by simp only [Nat.reduceAdd]; rfl) rfl ?_ | refine to_fae rfl rfl rfl (by simp only [Nat.reduceAdd]; rfl) rfl ?_
    first | refine to_lds rfl rfl rfl ?_ | refine to_ldes rfl (by assumption) rfl rfl ?_
    refine to_add rfl rfl (by omega) rfl ?_
    refine to_mv rfl rfl ?_
    refine to_mv rfl rfl ?_
    first | refine to_ix rfl rfl rfl (by first | omega | decide) (by first | omega | decide) rfl ?_ | refine to_ixi rfl rfl rfl (by omega) (by omega) (by omega) rfl ?_
    first | refine to_fa rfl rfl rfl (by simp only [Nat.reduceAdd]; rfl) rfl ?_ | refine to_fae rfl rfl rfl (by simp only [Nat.reduceAdd]; rfl) rfl ?_
    first | refine to_lds rfl rfl rfl ?_ | refine to_ldes rfl (by assumption) rfl rfl ?_
    refine to_sub rfl rfl (by omega) rfl ?_
    refine to_lss rfl rfl rfl ?_
    refine to_nil ?_
    refine tn_code ?_
    refine t_if rfl (fun h2 => ?_) (fun h2 => ?_)
    · try simp only [decide_eq_true_eq, decide_eq_false_iff_not, Bool.not_eq_true', Bool.not_eq_false', Int.not_lt, Int.not_le, ne_eq, Decidable.not_not] at h2
      try have h2b := inB_iff.1 h2
      have hNq : (N.length : Int) < L.length + 2 * e := by omega
      refine t_skip ?_
      refine tn_code ?_
      refine t_seq ?_
      refine t_blk ?_
      refine t_seq ?_
      refine t_reg ?_
      refine to_as rfl rfl ?_
      refine to_nil ?_
      refine tn_code ?_
      refine t_seq ?_
      refine t_reg ?_
      refine to_alloc rfl (fun b15 => ?_)
      refine to_nil ?_
      refine tn_code ?_
      refine t_seq ?_
      refine t_seq ?_
      refine t_reg ?_
      refine to_mv rfl rfl ?_
      refine to_mv rfl rfl ?_
      first | refine to_ix rfl rfl rfl (by first | omega | decide) (by first | omega | decide) rfl ?_ | refine to_ixi rfl rfl rfl (by omega) (by omega) (by omega) rfl ?_
      first | refine to_fa rfl rfl rfl (by simp only [Nat.reduceAdd]; rfl) rfl ?_ | refine to_fae rfl rfl rfl (by simp only [Nat.reduceAdd]; rfl) rfl ?_
      first | refine to_lds rfl rfl rfl ?_ | refine to_ldes rfl (by assumption) rfl rfl ?_
      refine to_as rfl rfl ?_
      refine to_nil ?_
      refine tn_code ?_
      refine t_blk ?_
      refine t_loop2 (ι := Nat) (fun p => (p : Int) ≤ 2 * e + 1) (fun p => [(3, (.pointer (some ⟨b3, 0, none⟩))), (8, .slice pa22 sh.rows.length pc22), (9, (.int .i64 lo)), (10, .slice a' L.length c'), (11, (.int .i64 (i : Int))), (12, .slice a2 N.length c2), (13, (.int .i64 (N.length : Int))), (14, .bool (stX sh e r (sumP (fig sh) e now ((sh.rows.take i).drop now.length)) lo N.length p).isSome), (15, (.pointer (some ⟨b15, 0, none⟩))), (16, (.int .i64 (r - e + (p : Int))))]) (fun p => [.own b15 (isC (spanC ((stX sh e r (sumP (fig sh) e now ((sh.rows.take i).drop now.length)) lo N.length p).getD (0, 0))) 53), .row a2 N.length c2 53 2 (spans N), .row a' L.length c' 53 2 (spans L), .own b3 (isC (shC sh pt) 33), .snap lo22 w22.heap.size w22, .snap 0 w.heap.size w]) (fun p => (2 * e + 1).toNat - p) (0) [.own b15 (isC [.int .i64 0, .int .i64 0] 53), .row a2 N.length c2 53 2 (spans N), .row a' L.length c' 53 2 (spans L), .own b3 (isC (shC sh pt) 33), .snap lo22 w22.heap.size w22, .snap 0 w.heap.size w] (rfl) (by omega) (⟨rfl, rfl, rfl, rfl, rfl, rfl, rfl, rfl, rfl, congrArg (fun z => some (Value.int .i64 z)) (Int.add_zero (r - e)).symm, trivial⟩) ?_
      rintro p hk
      show T _ _ _ ⟨_, [(3, (.pointer (some ⟨b3, 0, none⟩))), (8, .slice pa22 sh.rows.length pc22), (9, (.int .i64 lo)), (10, .slice a' L.length c'), (11, (.int .i64 (i : Int))), (12, .slice a2 N.length c2), (13, (.int .i64 (N.length : Int))), (14, .bool (stX sh e r (sumP (fig sh) e now ((sh.rows.take i).drop now.length)) lo N.length p).isSome), (15, (.pointer (some ⟨b15, 0, none⟩))), (16, (.int .i64 (r - e + (p : Int))))], _⟩ [.own b15 (isC (spanC ((stX sh e r (sumP (fig sh) e now ((sh.rows.take i).drop now.length)) lo N.length p).getD (0, 0))) 53), .row a2 N.length c2 53 2 (spans N), .row a' L.length c' 53 2 (spans L), .own b3 (isC (shC sh pt) 33), .snap lo22 w22.heap.size w22, .snap 0 w.heap.size w]
      refine t_seq ?_
      refine t_seq ?_
      refine t_reg ?_
      refine to_mv rfl rfl ?_
      refine to_mv rfl rfl ?_
      refine to_mv rfl rfl ?_
      first | refine to_ix rfl rfl rfl (by first | omega | decide) (by first | omega | decide) rfl ?_ | refine to_ixi rfl rfl rfl (by omega) (by omega) (by omega) rfl ?_
      first | refine to_fa rfl rfl rfl (by simp only [Nat.reduceAdd]; rfl) rfl ?_ | refine to_fae rfl rfl rfl (by simp only [Nat.reduceAdd]; rfl) rfl ?_
      first | refine to_lds rfl rfl rfl ?_ | refine to_ldes rfl (by assumption) rfl rfl ?_
      refine to_leq rfl rfl rfl ?_
      refine to_nil ?_
      refine tn_code ?_
      refine t_if rfl (fun h3 => ?_) (fun h3 => ?_)
      · try simp only [decide_eq_true_eq, decide_eq_false_iff_not, Bool.not_eq_true', Bool.not_eq_false', Int.not_lt, Int.not_le, ne_eq, Decidable.not_not] at h3
        try have h3b := inB_iff.1 h3
        have hpl : (p : Int) ≤ 2 * e := by omega
        have hfp := fig_smallS hs (v := r - e + p) (by omega)
        refine t_skip ?_
        refine tn_code ?_
        refine t_seq ?_
        refine t_blk ?_
        refine t_seq ?_
        refine t_reg ?_
        refine to_mv rfl rfl ?_
        refine to_mv rfl rfl ?_
        refine to_mv rfl rfl ?_
        refine to_mv rfl rfl ?_
        first | refine to_ix rfl rfl rfl (by first | omega | decide) (by first | omega | decide) rfl ?_ | refine to_ixi rfl rfl rfl (by omega) (by omega) (by omega) rfl ?_
        first | refine to_fa rfl rfl rfl (by simp only [Nat.reduceAdd]; rfl) rfl ?_ | refine to_fae rfl rfl rfl (by simp only [Nat.reduceAdd]; rfl) rfl ?_
        first | refine to_lds rfl rfl rfl ?_ | refine to_ldes rfl (by assumption) rfl rfl ?_
        refine to_sub rfl rfl (by omega) rfl ?_
        refine to_sub rfl rfl (by omega) rfl ?_
        refine to_as rfl rfl ?_
        refine to_nil ?_
        refine tn_code ?_
        refine t_seq ?_
        refine t_seq ?_
        refine t_reg ?_
        refine to_mv rfl rfl ?_
        refine to_mv rfl rfl ?_
        refine to_lenS rfl rfl ?_
        refine to_sub rfl rfl (by omega) rfl ?_
        refine to_call0 rfl rfl (fun w s => ref_in _ _ _ w) rfl ?_
        refine to_not rfl rfl ?_
        refine to_nil ?_
        refine tn_code ?_
        refine t_if rfl (fun h4 => ?_) (fun h4 => ?_)
        · try simp only [decide_eq_true_eq, decide_eq_false_iff_not, Bool.not_eq_true', Bool.not_eq_false', Int.not_lt, Int.not_le, ne_eq, Decidable.not_not] at h4
          try have h4b := inB_iff.1 h4
          have hXo := stX_out (sh := sh) (e := e) (r := r) (q := N.length) (p := p) hL (by omega) h4
          refine t_exit ?_
          refine tx_code ?_
          refine tx_blk ?_
          refine tn_code ?_
          refine t_reg ?_
          refine to_mv rfl rfl ?_
          refine to_add rfl rfl (by omega) rfl ?_
          refine to_as rfl rfl ?_
          refine to_nil ?_
          exact tn_loop2 (p + 1) [.own b15 (isC (spanC ((stX sh e r (sumP (fig sh) e now ((sh.rows.take i).drop now.length)) lo N.length p).getD (0, 0))) 53), .row a2 N.length c2 53 2 (spans N), .row a' L.length c' 53 2 (spans L), .own b3 (isC (shC sh pt) 33), .snap lo22 w22.heap.size w22, .snap 0 w.heap.size w] (by rw [hXo]) (by omega) (by omega) (⟨rfl, rfl, rfl, rfl, rfl, rfl, rfl, congrArg (fun z => some (Value.bool z)) (by rw [hXo]), rfl, congrArg (fun z => some (Value.int .i64 z)) (Int.add_assoc (r - e) p 1), trivial⟩)
        · try simp only [decide_eq_true_eq, decide_eq_false_iff_not, Bool.not_eq_true', Bool.not_eq_false', Int.not_lt, Int.not_le, ne_eq, Decidable.not_not] at h4
          try have h4b := inB_iff.1 h4
          obtain ⟨j, hj⟩ := Int.eq_ofNat_of_zero_le (show 0 ≤ (N.length : Int) - (r - e + (p : Int) - (r - e)) by omega)
          have hj2 : (N.length : Int) - p = j := by omega
          have hj3 : ((N.length : Int) - (r - e + (p : Int) - (r - e))).toNat = j := by omega
          obtain ⟨v, hv⟩ := some_get (xs := L) (k := j) (by omega)
          have hxv : (spans L)[((N.length : Int) - (r - e + (p : Int) - (r - e))).toNat]? = some (spanC v) := by rw [hj3]; exact map_get (f := spanC) hv
          have hvb := hLb j v hv
          refine t_skip ?_
          refine tn_code ?_
          refine t_seq ?_
          refine t_regD rfl (by kernel_rfl) (by kernel_rfl) ?_
          refine to_mv rfl rfl ?_
          refine to_mv rfl rfl ?_
          first | refine to_ix rfl rfl rfl (by first | omega | decide) (by first | omega | decide) rfl ?_ | refine to_ixi rfl rfl rfl (by omega) (by omega) (by omega) rfl ?_
          first | refine to_fa rfl rfl rfl (by simp only [Nat.reduceAdd]; rfl) rfl ?_ | refine to_fae rfl rfl rfl (by simp only [Nat.reduceAdd]; rfl) rfl ?_
          first | refine to_lds rfl rfl rfl ?_ | refine to_ldes rfl (by assumption) rfl rfl ?_
          first | refine to_lda rfl rfl rfl ?_ | refine to_ldea rfl (by assumption) rfl rfl ?_
          refine to_mv rfl rfl ?_
          refine to_call0 rfl rfl (fun w s => ref_of sh pt _ w hs (by omega)) rfl ?_
          refine to_add rfl rfl (by omega) rfl ?_
          refine to_mv rfl rfl ?_
          refine to_mv rfl rfl ?_
          first | refine to_ix rfl rfl rfl (by first | omega | decide) (by first | omega | decide) rfl ?_ | refine to_ixi rfl rfl rfl (by omega) (by omega) (by omega) rfl ?_
          first | refine to_fa rfl rfl rfl (by simp only [Nat.reduceAdd]; rfl) rfl ?_ | refine to_fae rfl rfl rfl (by simp only [Nat.reduceAdd]; rfl) rfl ?_
          first | refine to_lds rfl rfl rfl ?_ | refine to_ldes rfl (by assumption) rfl rfl ?_
          first | refine to_lda rfl rfl rfl ?_ | refine to_ldea rfl (by assumption) rfl rfl ?_
          refine to_mv rfl rfl ?_
          refine to_call0 rfl rfl (fun w s => ref_of sh pt _ w hs (by omega)) rfl ?_
          refine to_add rfl rfl (by omega) rfl ?_
          refine to_as rfl rfl ?_
          refine to_as rfl rfl ?_
          refine to_nil ?_
          refine tn_code ?_
          refine t_seq ?_
          refine t_seq ?_
          refine t_reg ?_
          refine to_mv rfl rfl ?_
          refine to_not rfl rfl ?_
          refine to_nil ?_
          refine tn_code ?_
          refine t_if rfl (fun h5 => ?_) (fun h5 => ?_)
          · try simp only [decide_eq_true_eq, decide_eq_false_iff_not, Bool.not_eq_true', Bool.not_eq_false', Int.not_lt, Int.not_le, ne_eq, Decidable.not_not] at h5
            try have h5b := inB_iff.1 h5
            have hXs := stX_inN (sh := sh) (e := e) (r := r) (q := N.length) (p := p) hL hv hj2 h5
            refine t_reg ?_
            refine to_mv rfl rfl ?_
            refine to_mv rfl rfl ?_
            refine to_bs rfl rfl ?_
            first | refine to_st rfl rfl rfl rfl ?_ | refine to_ste rfl rfl (by assumption) rfl rfl ?_
            refine to_nil ?_
            refine tn_code ?_
            refine t_seq ?_
            refine t_reg ?_
            first | refine to_fa rfl rfl rfl (by simp only [Nat.reduceAdd]; rfl) rfl ?_ | refine to_fae rfl rfl rfl (by simp only [Nat.reduceAdd]; rfl) rfl ?_
            first | refine to_lds rfl rfl rfl ?_ | refine to_ldes rfl (by assumption) rfl rfl ?_
            refine to_mv rfl rfl ?_
            refine to_min rfl rfl rfl ?_
            first | refine to_fa rfl rfl rfl (by simp only [Nat.reduceAdd]; rfl) rfl ?_ | refine to_fae rfl rfl rfl (by simp only [Nat.reduceAdd]; rfl) rfl ?_
            first | refine to_lds rfl rfl rfl ?_ | refine to_ldes rfl (by assumption) rfl rfl ?_
            refine to_mv rfl rfl ?_
            refine to_max rfl rfl rfl ?_
            refine to_bs rfl rfl ?_
            first | refine to_st rfl rfl rfl rfl ?_ | refine to_ste rfl rfl (by assumption) rfl rfl ?_
            refine to_nil ?_
            refine tn_code ?_
            refine t_reg ?_
            refine to_as rfl rfl ?_
            refine to_nil ?_
            refine tn_blk ?_
            refine tn_code ?_
            refine t_reg ?_
            refine to_mv rfl rfl ?_
            refine to_add rfl rfl (by omega) rfl ?_
            refine to_as rfl rfl ?_
            refine to_nil ?_
            exact tn_loop2 (p + 1) [.own b15 (isC [.int .i64 (min (v.1 + fig sh (r - e + (p : Int))) (v.1 + fig sh (r - e + (p : Int)))), .int .i64 (max (v.2 + fig sh (r - e + (p : Int))) (v.2 + fig sh (r - e + (p : Int))))] 53), .row a2 N.length c2 53 2 (spans N), .row a' L.length c' 53 2 (spans L), .own b3 (isC (shC sh pt) 33), .snap lo22 w22.heap.size w22, .snap 0 w.heap.size w] (by rw [hXs]; simp [spanC]) (by omega) (by omega) (⟨rfl, rfl, rfl, rfl, rfl, rfl, rfl, congrArg (fun z => some (Value.bool z)) (by rw [hXs]; rfl), rfl, congrArg (fun z => some (Value.int .i64 z)) (Int.add_assoc (r - e) p 1), trivial⟩)
          · try simp only [decide_eq_true_eq, decide_eq_false_iff_not, Bool.not_eq_true', Bool.not_eq_false', Int.not_lt, Int.not_le, ne_eq, Decidable.not_not] at h5
            try have h5b := inB_iff.1 h5
            have hXs := stX_inS (sh := sh) (e := e) (r := r) (q := N.length) (p := p) hL hv hj2 h5
            refine t_skip ?_
            refine tn_code ?_
            refine t_seq ?_
            refine t_reg ?_
            first | refine to_fa rfl rfl rfl (by simp only [Nat.reduceAdd]; rfl) rfl ?_ | refine to_fae rfl rfl rfl (by simp only [Nat.reduceAdd]; rfl) rfl ?_
            first | refine to_lds rfl rfl rfl ?_ | refine to_ldes rfl (by assumption) rfl rfl ?_
            refine to_mv rfl rfl ?_
            refine to_min rfl rfl rfl ?_
            first | refine to_fa rfl rfl rfl (by simp only [Nat.reduceAdd]; rfl) rfl ?_ | refine to_fae rfl rfl rfl (by simp only [Nat.reduceAdd]; rfl) rfl ?_
            first | refine to_lds rfl rfl rfl ?_ | refine to_ldes rfl (by assumption) rfl rfl ?_
            refine to_mv rfl rfl ?_
            refine to_max rfl rfl rfl ?_
            refine to_bs rfl rfl ?_
            first | refine to_st rfl rfl rfl rfl ?_ | refine to_ste rfl rfl (by assumption) rfl rfl ?_
            refine to_nil ?_
            refine tn_code ?_
            refine t_reg ?_
            refine to_as rfl rfl ?_
            refine to_nil ?_
            refine tn_blk ?_
            refine tn_code ?_
            refine t_reg ?_
            refine to_mv rfl rfl ?_
            refine to_add rfl rfl (by omega) rfl ?_
            refine to_as rfl rfl ?_
            refine to_nil ?_
            exact tn_loop2 (p + 1) [.own b15 (isC [.int .i64 (min ((stX sh e r (sumP (fig sh) e now ((sh.rows.take i).drop now.length)) lo N.length p).getD (0, 0)).1 (v.1 + fig sh (r - e + (p : Int)))), .int .i64 (max ((stX sh e r (sumP (fig sh) e now ((sh.rows.take i).drop now.length)) lo N.length p).getD (0, 0)).2 (v.2 + fig sh (r - e + (p : Int))))] 53), .row a2 N.length c2 53 2 (spans N), .row a' L.length c' 53 2 (spans L), .own b3 (isC (shC sh pt) 33), .snap lo22 w22.heap.size w22, .snap 0 w.heap.size w] (by rw [hXs]; rfl) (by omega) (by omega) (⟨rfl, rfl, rfl, rfl, rfl, rfl, rfl, congrArg (fun z => some (Value.bool z)) (by rw [hXs]; rfl), rfl, congrArg (fun z => some (Value.int .i64 z)) (Int.add_assoc (r - e) p 1), trivial⟩)
      · try simp only [decide_eq_true_eq, decide_eq_false_iff_not, Bool.not_eq_true', Bool.not_eq_false', Int.not_lt, Int.not_le, ne_eq, Decidable.not_not] at h3
        try have h3b := inB_iff.1 h3
        have hpe : (p : Int) = 2 * e + 1 := by omega
        have hXe := stX_end (sh := sh) (r := r) (G := (sumP (fig sh) e now ((sh.rows.take i).drop now.length))) (lo := lo) (q := N.length) hpe
        obtain ⟨xv, hXv⟩ := seq_full (F := fig sh) (r := r) heb.1 hL hL1 hNq
        refine t_exit ?_
        refine tx_code ?_
        refine tx_inv ?_
        refine tx_blk ?_
        refine tn_code ?_
        refine t_reg ?_
        refine to_mv rfl rfl ?_
        first | refine to_lda rfl rfl rfl ?_ | refine to_ldea rfl (by assumption) rfl rfl ?_
        refine to_bsl rfl rfl rfl rfl (fun a122 => ?_)
        refine to_app rfl rfl rfl (by simp [scals, scal]) (by decide) (by omega) (by decide) rfl (fun a123 c123 => ?_)
        refine to_as rfl rfl ?_
        refine to_nil ?_
        refine tn_blk ?_
        refine tn_code ?_
        refine t_reg ?_
        refine to_mv rfl rfl ?_
        refine to_add rfl rfl (by omega) rfl ?_
        refine to_as rfl rfl ?_
        refine to_nil ?_
        exact tn_loop2 ((N ++ [(stX sh e r (sumP (fig sh) e now ((sh.rows.take i).drop now.length)) lo N.length p).getD (0, 0)], a123, c123)) [.row a123 (N.length + 1) c123 53 2 (spans N ++ [spanC ((stX sh e r (sumP (fig sh) e now ((sh.rows.take i).drop now.length)) lo N.length p).getD (0, 0))]), .row a' L.length c' 53 2 (spans L), .own b3 (isC (shC sh pt) 33), .snap lo22 w22.heap.size w22, .snap 0 w.heap.size w] (by simp) (⟨by (try dsimp only); exact nx_all hN hXe hXv, by (try dsimp only); simp; omega⟩) (by (try dsimp only); simp; omega) (⟨rfl, rfl, rfl, rfl, rfl, congrArg some (by simp), congrArg (fun z => some (Value.int .i64 z)) (by simp), trivial⟩)
    · try simp only [decide_eq_true_eq, decide_eq_false_iff_not, Bool.not_eq_true', Bool.not_eq_false', Int.not_lt, Int.not_le, ne_eq, Decidable.not_not] at h2
      try have h2b := inB_iff.1 h2
      have hNe : (N.length : Int) = L.length + 2 * e := by omega
      refine t_exit ?_
      refine tx_code ?_
      refine tx_inv ?_
      refine tx_blk ?_
      refine tn_code ?_
      refine t_reg ?_
      refine to_mv rfl rfl ?_
      refine to_mv rfl rfl ?_
      refine to_mv rfl rfl ?_
      first | refine to_ix rfl rfl rfl (by first | omega | decide) (by first | omega | decide) rfl ?_ | refine to_ixi rfl rfl rfl (by omega) (by omega) (by omega) rfl ?_
      first | refine to_fa rfl rfl rfl (by simp only [Nat.reduceAdd]; rfl) rfl ?_ | refine to_fae rfl rfl rfl (by simp only [Nat.reduceAdd]; rfl) rfl ?_
      first | refine to_lds rfl rfl rfl ?_ | refine to_ldes rfl (by assumption) rfl rfl ?_
      refine to_add rfl rfl (by omega) rfl ?_
      refine to_mv rfl rfl ?_
      refine to_as rfl rfl ?_
      refine to_as rfl rfl ?_
      refine to_nil ?_
      refine tn_blk ?_
      refine tn_code ?_
      refine t_reg ?_
      refine to_mv rfl rfl ?_
      refine to_add rfl rfl (by omega) rfl ?_
      refine to_as rfl rfl ?_
      refine to_nil ?_
      exact tn_loop2 ((i + 1, lo + (r - e), N, a2, c2)) [.row a2 N.length c2 53 2 (spans N), .own b3 (isC (shC sh pt) 33), .snap lo22 w22.heap.size w22, .snap 0 w.heap.size w] (rfl) (⟨⟨by (try dsimp only); omega, by (try dsimp only); omega⟩, by (try dsimp only); rw [drop_snoc hi1 hr, sumP_snoc]; exact seq_step heb.1 hL hL1 (by omega) hN, ⟨by (try dsimp only); omega, by (try dsimp only); omega⟩, by (try dsimp only); omega⟩) (by dsimp only; omega) (⟨rfl, rfl, rfl, rfl, rfl, trivial⟩)
  · try simp only [decide_eq_true_eq, decide_eq_false_iff_not, Bool.not_eq_true', Bool.not_eq_false', Int.not_lt, Int.not_le, ne_eq, Decidable.not_not] at h1
    try have h1b := inB_iff.1 h1
    have hk2 : i = sh.rows.length := by omega
    subst hk2
    rw [List.take_length] at hL
    refine t_exit ?_
    refine tx_code ?_
    refine tx_inv ?_
    refine tx_blk ?_
    refine tn_code ?_
    refine t_seq ?_
    refine t_reg ?_
    refine to_mv rfl rfl ?_
    refine to_mv rfl rfl ?_
    refine to_as rfl rfl ?_
    refine to_as rfl rfl ?_
    refine to_nil ?_
    refine tn_code ?_
    refine t_ret2 rfl rfl (res_tmp rfl) (res_tmp rfl) (fun w' s => ?_)
    exact ⟨lo, L, a', c', rfl, ro_row s, hL, ⟨hL1, by omega⟩, by omega⟩

end Go.Proofs


namespace Go.Proofs
open Go Go.Sx Go.RowKit

theorem seq_le {sh : Sh} {e lo : Int} {now rs : List Int} (he : 0 ≤ e) {L : List Sp} (hL : SeqOk L lo (sumP (fig sh) e now rs)) {j : Nat} {v : Sp} (hv : L[j]? = some v) : v.1 ≤ v.2 := by
  have hE := sumP_isE (F := fig sh) he now rs (lo + j)
  rw [seq_in hL hv] at hE
  exact (hE.2.2 _ hE.1).2
def addA (L : List Sp) (j : Nat) : Sp := L.getD j (0, 0)
theorem addA_at {L : List Sp} {j : Nat} {v : Sp} (h : L[j]? = some v) : addA L j = v := by simp [addA, List.getD, h]
theorem addA_out {L : List Sp} {j : Nat} (h : L.length ≤ j) : addA L j = (0, 0) := by simp [addA, List.getD, List.getElem?_eq_none h]
def difA (sh : Sh) (L : List Sp) (lo : Int) (j : Nat) : Sp := ((addA L j).1 - fig sh (lo + j), (addA L j).2 - fig sh (lo + j))
theorem difA_at {sh : Sh} {L : List Sp} {lo : Int} {j : Nat} {v : Sp} (h : L[j]? = some v) : difA sh L lo j = (v.1 - fig sh (lo + j), v.2 - fig sh (lo + j)) := by simp [difA, addA_at h]
def difN (sh : Sh) (e : Int) (now : List Int) : Sp := (endsI ((truR e (sh.rows.drop now.length)).map fun t => figO (fig sh) (now ++ t) - fig sh (sumI (now ++ t)))).getD (0, 0)
theorem difN_nil (sh : Sh) (e : Int) : difN sh e [] = rDif sh e := rfl
theorem difN_E {sh : Sh} {e : Int} (he : 0 ≤ e) (now : List Int) : IsE (fun x => ∃ t, truK e (sh.rows.drop now.length) t = true ∧ figO (fig sh) (now ++ t) - fig sh (sumI (now ++ t)) = x) (some (difN sh e now)) := by
  have h := isE_ends ((truR e (sh.rows.drop now.length)).map fun t => figO (fig sh) (now ++ t) - fig sh (sumI (now ++ t)))
  have h2 := isE_congr h (T := fun x => ∃ t, truK e (sh.rows.drop now.length) t = true ∧ figO (fig sh) (now ++ t) - fig sh (sumI (now ++ t)) = x) fun x => by
    simp only [List.mem_map, mem_truR he]
  simp only [difN]
  cases hq : endsI ((truR e (sh.rows.drop now.length)).map fun t => figO (fig sh) (now ++ t) - fig sh (sumI (now ++ t))) with
  | none => rw [hq] at h2; exact absurd ⟨_, tru_self he _, rfl⟩ (h2 _)
  | some z => rw [hq] at h2; exact h2
theorem dif_sums {sh : Sh} {e lo : Int} (he : 0 ≤ e) {now : List Int} {L : List Sp} (hL : SeqOk L lo (sumP (fig sh) e now (sh.rows.drop now.length))) (h1 : 1 ≤ L.length) : difN sh e now = accK (difA sh L lo) L.length := by
  have hA : ∀ j, (difA sh L lo j).1 ≤ (difA sh L lo j).2 := fun j => by
    rcases Nat.lt_or_ge j L.length with h | h
    · obtain ⟨v, hv⟩ := some_get (xs := L) (k := j) h
      have := seq_le he hL hv
      rw [difA_at hv]; (try dsimp only); omega
    · simp only [difA, addA_out h]; exact Int.le_refl _
  have hz := accK_ends hA h1
  have h2 := sumP_ends (F := fig sh) he now (sh.rows.drop now.length) (fun k a => a - fig sh k) (fun _ _ _ h => by (try dsimp only); omega) hL (z := accK (difA sh L lo) L.length) (isE_congr hz fun x => by
    constructor
    · rintro ⟨j, hj, hx⟩
      obtain ⟨v, hv⟩ := some_get (xs := L) (k := j) hj
      rw [difA_at hv] at hx
      exact ⟨j, v, hv, hx⟩
    · rintro ⟨j, v, hv, hx⟩
      exact ⟨j, (List.getElem?_eq_some_iff.1 hv).1, by rw [difA_at hv]; exact hx⟩)
  exact Option.some.inj (isE_uniq (difN_E he now) h2)
theorem ents_bd {sh : Sh} {e lo : Int} (hs : isSh sh = true) (he : 0 ≤ e ∧ e ≤ 8) {now : List Int} (hnl : now.length ≤ 7) (hnb : ∀ n ∈ now, -100008 ≤ n ∧ n ≤ 100008) {L : List Sp} (hL : SeqOk L lo (sumP (fig sh) e now (sh.rows.drop now.length))) : ∀ (j : Nat) (v : Sp), L[j]? = some v → (-1200108 ≤ v.1 ∧ v.1 ≤ 1200108) ∧ (-1200108 ≤ v.2 ∧ v.2 ≤ 1200108) :=
  fun j v hv => sumP_bd hs he hnl hnb (by have := isSh_b hs; simp; omega) (fun x hx => isSh_r hs (List.mem_of_mem_drop hx)) (seq_in hL hv)

set_option maxRecDepth 20000 in
theorem ref_differs (sh : Sh) (pt : Pt) (k : Nat) (e : Int) (now : List Int) (na : Option Addr) (nc : Nat) (w : World) (hre : Ro w 0 w.heap.size pt.ea sh.errs.length pt.ec 1 (ints sh.errs)) (hrr : Ro w 0 w.heap.size pt.ra sh.rows.length pt.rc 1 (ints sh.rows)) (hs : isSh sh = true) (he : sh.errs[k]? = some e) (hnr : Ro w 0 w.heap.size na now.length nc 1 (ints now)) (hnl : now.length ≤ 7) (hnb : ∀ n ∈ now, -100008 ≤ n ∧ n ≤ 100008) (hnm : now.length ≤ sh.rows.length) : Calls Tryz.prog 85 #[shV sh pt, (.int .i64 (k : Int)), .slice na now.length nc] w (RetV w (spanV (difN sh e now))) := by
  have heb := errs_b (isSh_e hs) e (List.mem_of_getElem? he)
  have hbb := isSh_b hs
  have hxe := map_get (f := intC) he
  have hke := (List.getElem?_eq_some_iff.1 he).1
  refine calls_T0 (av := [_, _, _]) Tryz.func85 rfl rfl rfl ?_
  refine t_seq ?_
  refine t_reg ?_
  refine to_box rfl rfl (fun b3 => ?_)
  refine to_alloc rfl (fun b6 => ?_)
  refine to_nil ?_
  refine tn_code ?_
  refine t_seq ?_
  refine t_reg ?_
  first | refine to_lda rfl rfl rfl ?_ | refine to_ldea rfl (by assumption) rfl rfl ?_
  refine to_mv rfl rfl ?_
  refine to_mv rfl rfl ?_
  refine to_callR rfl rfl (fun w s => ref_sums sh pt k e now na nc w (rdw s) (rdw s) hs he (rdw s) hnl hnb hnm) rfl (fun v15 lo15 w15 hlo15 hR15 => ?_)
  obtain ⟨fs15, L15, pa15, pc15, rfl, hro15, hL15, hLl15, hfb15⟩ := hR15
  refine to_mv rfl rfl ?_
  refine to_ex rfl rfl rfl ?_
  refine to_ex rfl rfl rfl ?_
  refine to_as rfl rfl ?_
  refine to_as rfl rfl ?_
  refine to_nil ?_
  refine tn_code ?_
  refine t_seq ?_
  have hLb := ents_bd hs heb hnl hnb hL15
  obtain ⟨v0, hv0⟩ := some_get (xs := L15) (k := 0) (by omega)
  have hx0 := map_get (f := spanC) hv0
  have hvb0 := hLb 0 v0 hv0
  have hA0 := difA_at (sh := sh) (lo := fs15) hv0
  have hfs := fig_b (sh := sh) (v := fs15) (B := 1300000) hs (by omega)
  refine t_regM [17, 18] [.snap lo15 w15.heap.size w15, .own b3 (isC (shC sh pt) 33), .snap 0 w.heap.size w] rfl (by kernel_rfl) (by kernel_rfl) ?_
  refine tm_q ?e1 rfl ?q1 ?r1
  case q1 =>
    refine to_mv rfl rfl ?_
    exact tmq_end
  refine tm_q ?e2 rfl ?q2 ?r2
  case q2 =>
    first | refine to_ix rfl rfl rfl (by first | omega | decide) (by first | omega | decide) rfl ?_ | refine to_ixi rfl rfl rfl (by omega) (by omega) (by omega) rfl ?_
    exact tmq_end
  refine tm_q ?e3 rfl ?q3 ?r3
  case q3 =>
    first | refine to_fa rfl rfl rfl (by simp only [Nat.reduceAdd]; rfl) rfl ?_ | refine to_fae rfl rfl rfl (by simp only [Nat.reduceAdd]; rfl) rfl ?_
    exact tmq_end
  refine tm_q ?e4 rfl ?q4 ?r4
  case q4 =>
    first | refine to_lds rfl rfl rfl ?_ | refine to_ldes rfl (by assumption) rfl rfl ?_
    exact tmq_end
  refine tm_q ?e5 rfl ?q5 ?r5
  case q5 =>
    first | refine to_lda rfl rfl rfl ?_ | refine to_ldea rfl (by assumption) rfl rfl ?_
    exact tmq_end
  refine tm_q ?e6 rfl ?q6 ?r6
  case q6 =>
    refine to_mv rfl rfl ?_
    exact tmq_end
  refine tm_q ?e7 rfl ?q7 ?r7
  case q7 =>
    refine to_call0 rfl rfl (fun w s => ref_of sh pt _ w hs (by omega)) rfl ?_
    exact tmq_end
  refine tm_q ?e8 rfl ?q8 ?r8
  case q8 =>
    refine to_sub rfl rfl (by omega) rfl ?_
    exact tmq_end
  refine tm_q ?e9 rfl ?q9 ?r9
  case q9 =>
    refine to_mv rfl rfl ?_
    exact tmq_end
  refine tm_q ?e10 rfl ?q10 ?r10
  case q10 =>
    first | refine to_ix rfl rfl rfl (by first | omega | decide) (by first | omega | decide) rfl ?_ | refine to_ixi rfl rfl rfl (by omega) (by omega) (by omega) rfl ?_
    exact tmq_end
  refine tm_q ?e11 rfl ?q11 ?r11
  case q11 =>
    first | refine to_fa rfl rfl rfl (by simp only [Nat.reduceAdd]; rfl) rfl ?_ | refine to_fae rfl rfl rfl (by simp only [Nat.reduceAdd]; rfl) rfl ?_
    exact tmq_end
  refine tm_q ?e12 rfl ?q12 ?r12
  case q12 =>
    first | refine to_lds rfl rfl rfl ?_ | refine to_ldes rfl (by assumption) rfl rfl ?_
    exact tmq_end
  refine tm_q ?e13 rfl ?q13 ?r13
  case q13 =>
    first | refine to_lda rfl rfl rfl ?_ | refine to_ldea rfl (by assumption) rfl rfl ?_
    exact tmq_end
  refine tm_q ?e14 rfl ?q14 ?r14
  case q14 =>
    refine to_mv rfl rfl ?_
    exact tmq_end
  refine tm_q ?e15 rfl ?q15 ?r15
  case q15 =>
    refine to_call0 rfl rfl (fun w s => ref_of sh pt _ w hs (by omega)) rfl ?_
    exact tmq_end
  refine tm_q ?e16 rfl ?q16 ?r16
  case q16 =>
    refine to_sub rfl rfl (by omega) rfl ?_
    exact tmq_end
  refine tm_q ?e17 rfl ?q17 ?r17
  case q17 =>
    refine to_bs rfl rfl ?_
    exact tmq_end
  refine tm_s rfl ?_ (fun _ h => by cases h) rfl
  refine to_alloc rfl (fun b9 => ?_)
  refine tm_se rfl ?_
  refine tm_s rfl ?_ (fun _ h => by cases h) rfl
  first | refine to_st rfl rfl rfl rfl ?_ | refine to_ste rfl rfl (by assumption) rfl rfl ?_
  refine tm_se rfl ?_
  refine tm_nil ?_
  refine tn_code ?_
  refine t_seq ?_
  refine t_seq ?_
  refine t_reg ?_
  refine to_as rfl rfl ?_
  refine to_nil ?_
  refine tn_code ?_
  refine t_blk ?_
  refine t_loop2 (ι := Nat) (fun j => j ≤ L15.length) (fun j => [(3, (.pointer (some ⟨b3, 0, none⟩))), (6, (.pointer (some ⟨b6, 0, none⟩))), (7, (.int .i64 fs15)), (8, .slice pa15 L15.length pc15), (9, (.pointer (some ⟨b9, 0, none⟩))), (10, (.int .i64 (j : Int)))]) (fun j => [.own b9 (isC (spanC (accK (difA sh L15 fs15) j)) 53), .snap lo15 w15.heap.size w15, .own b3 (isC (shC sh pt) 33), .own b6 (isC [.int .i64 0, .int .i64 0] 53), .snap 0 w.heap.size w]) (fun j => L15.length - j) (0) [.own b9 (isC [.int .i64 (v0.1 - fig sh fs15), .int .i64 (v0.2 - fig sh fs15)] 53), .snap lo15 w15.heap.size w15, .own b3 (isC (shC sh pt) 33), .own b6 (isC [.int .i64 0, .int .i64 0] 53), .snap 0 w.heap.size w] (by simp only [accK]; rw [hA0]; simp [spanC]) (Nat.zero_le _) (⟨rfl, rfl, rfl, rfl, rfl, rfl, trivial⟩) ?_
  rintro j hk
  show T _ _ _ ⟨_, [(3, (.pointer (some ⟨b3, 0, none⟩))), (6, (.pointer (some ⟨b6, 0, none⟩))), (7, (.int .i64 fs15)), (8, .slice pa15 L15.length pc15), (9, (.pointer (some ⟨b9, 0, none⟩))), (10, (.int .i64 (j : Int)))], _⟩ [.own b9 (isC (spanC (accK (difA sh L15 fs15) j)) 53), .snap lo15 w15.heap.size w15, .own b3 (isC (shC sh pt) 33), .own b6 (isC [.int .i64 0, .int .i64 0] 53), .snap 0 w.heap.size w]
  refine t_seq ?_
  refine t_seq ?_
  refine t_reg ?_
  refine to_mv rfl rfl ?_
  refine to_mv rfl rfl ?_
  refine to_lenS rfl rfl ?_
  refine to_lss rfl rfl rfl ?_
  refine to_nil ?_
  refine tn_code ?_
  refine t_if rfl (fun h1 => ?_) (fun h1 => ?_)
  · try simp only [decide_eq_true_eq, decide_eq_false_iff_not, Bool.not_eq_true', Bool.not_eq_false', Int.not_lt, Int.not_le, ne_eq, Decidable.not_not] at h1
    try have h1b := inB_iff.1 h1
    obtain ⟨v, hv⟩ := some_get (xs := L15) (k := j) (by omega)
    have hxv := map_get (f := spanC) hv
    have hvb := hLb j v hv
    have hfj := fig_b (sh := sh) (v := fs15 + (j : Int)) (B := 1300100) hs (by omega)
    refine t_skip ?_
    refine tn_code ?_
    refine t_seq ?_
    refine t_blk ?_
    refine t_regM [29] [.own b9 (isC (spanC (accK (difA sh L15 fs15) j)) 53), .snap lo15 w15.heap.size w15, .own b3 (isC (shC sh pt) 33), .snap 0 w.heap.size w] rfl (by kernel_rfl) (by kernel_rfl) ?_
    refine tm_q ?e18 rfl ?q18 ?r18
    case q18 =>
      first | refine to_fa rfl rfl rfl (by simp only [Nat.reduceAdd]; rfl) rfl ?_ | refine to_fae rfl rfl rfl (by simp only [Nat.reduceAdd]; rfl) rfl ?_
      exact tmq_end
    refine tm_q ?e19 rfl ?q19 ?r19
    case q19 =>
      first | refine to_lds rfl rfl rfl ?_ | refine to_ldes rfl (by assumption) rfl rfl ?_
      exact tmq_end
    refine tm_q ?e20 rfl ?q20 ?r20
    case q20 =>
      refine to_mv rfl rfl ?_
      exact tmq_end
    refine tm_q ?e21 rfl ?q21 ?r21
    case q21 =>
      refine to_mv rfl rfl ?_
      exact tmq_end
    refine tm_q ?e22 rfl ?q22 ?r22
    case q22 =>
      first | refine to_ix rfl rfl rfl (by first | omega | decide) (by first | omega | decide) rfl ?_ | refine to_ixi rfl rfl rfl (by omega) (by omega) (by omega) rfl ?_
      exact tmq_end
    refine tm_q ?e23 rfl ?q23 ?r23
    case q23 =>
      first | refine to_fa rfl rfl rfl (by simp only [Nat.reduceAdd]; rfl) rfl ?_ | refine to_fae rfl rfl rfl (by simp only [Nat.reduceAdd]; rfl) rfl ?_
      exact tmq_end
    refine tm_q ?e24 rfl ?q24 ?r24
    case q24 =>
      first | refine to_lds rfl rfl rfl ?_ | refine to_ldes rfl (by assumption) rfl rfl ?_
      exact tmq_end
    refine tm_q ?e25 rfl ?q25 ?r25
    case q25 =>
      first | refine to_lda rfl rfl rfl ?_ | refine to_ldea rfl (by assumption) rfl rfl ?_
      exact tmq_end
    refine tm_q ?e26 rfl ?q26 ?r26
    case q26 =>
      refine to_mv rfl rfl ?_
      exact tmq_end
    refine tm_q ?e27 rfl ?q27 ?r27
    case q27 =>
      refine to_mv rfl rfl ?_
      exact tmq_end
    refine tm_q ?e28 rfl ?q28 ?r28
    case q28 =>
      refine to_add rfl rfl (by omega) rfl ?_
      exact tmq_end
    refine tm_q ?e29 rfl ?q29 ?r29
    case q29 =>
      refine to_call0 rfl rfl (fun w s => ref_of sh pt _ w hs (by omega)) rfl ?_
      exact tmq_end
    refine tm_q ?e30 rfl ?q30 ?r30
    case q30 =>
      refine to_sub rfl rfl (by omega) rfl ?_
      exact tmq_end
    refine tm_q ?e31 rfl ?q31 ?r31
    case q31 =>
      refine to_min rfl rfl rfl ?_
      exact tmq_end
    refine tm_q ?e32 rfl ?q32 ?r32
    case q32 =>
      first | refine to_fa rfl rfl rfl (by simp only [Nat.reduceAdd]; rfl) rfl ?_ | refine to_fae rfl rfl rfl (by simp only [Nat.reduceAdd]; rfl) rfl ?_
      exact tmq_end
    refine tm_q ?e33 rfl ?q33 ?r33
    case q33 =>
      first | refine to_lds rfl rfl rfl ?_ | refine to_ldes rfl (by assumption) rfl rfl ?_
      exact tmq_end
    refine tm_q ?e34 rfl ?q34 ?r34
    case q34 =>
      refine to_mv rfl rfl ?_
      exact tmq_end
    refine tm_q ?e35 rfl ?q35 ?r35
    case q35 =>
      refine to_mv rfl rfl ?_
      exact tmq_end
    refine tm_q ?e36 rfl ?q36 ?r36
    case q36 =>
      first | refine to_ix rfl rfl rfl (by first | omega | decide) (by first | omega | decide) rfl ?_ | refine to_ixi rfl rfl rfl (by omega) (by omega) (by omega) rfl ?_
      exact tmq_end
    refine tm_q ?e37 rfl ?q37 ?r37
    case q37 =>
      first | refine to_fa rfl rfl rfl (by simp only [Nat.reduceAdd]; rfl) rfl ?_ | refine to_fae rfl rfl rfl (by simp only [Nat.reduceAdd]; rfl) rfl ?_
      exact tmq_end
    refine tm_q ?e38 rfl ?q38 ?r38
    case q38 =>
      first | refine to_lds rfl rfl rfl ?_ | refine to_ldes rfl (by assumption) rfl rfl ?_
      exact tmq_end
    refine tm_q ?e39 rfl ?q39 ?r39
    case q39 =>
      first | refine to_lda rfl rfl rfl ?_ | refine to_ldea rfl (by assumption) rfl rfl ?_
      exact tmq_end
    refine tm_q ?e40 rfl ?q40 ?r40
    case q40 =>
      refine to_mv rfl rfl ?_
      exact tmq_end
    refine tm_q ?e41 rfl ?q41 ?r41
    case q41 =>
      refine to_mv rfl rfl ?_
      exact tmq_end
    refine tm_q ?e42 rfl ?q42 ?r42
    case q42 =>
      refine to_add rfl rfl (by omega) rfl ?_
      exact tmq_end
    refine tm_q ?e43 rfl ?q43 ?r43
    case q43 =>
      refine to_call0 rfl rfl (fun w s => ref_of sh pt _ w hs (by omega)) rfl ?_
      exact tmq_end
    refine tm_q ?e44 rfl ?q44 ?r44
    case q44 =>
      refine to_sub rfl rfl (by omega) rfl ?_
      exact tmq_end
    refine tm_q ?e45 rfl ?q45 ?r45
    case q45 =>
      refine to_max rfl rfl rfl ?_
      exact tmq_end
    refine tm_q ?e46 rfl ?q46 ?r46
    case q46 =>
      refine to_bs rfl rfl ?_
      exact tmq_end
    refine tm_s rfl ?_ (fun _ h => by cases h) rfl
    first | refine to_st rfl rfl rfl rfl ?_ | refine to_ste rfl rfl (by assumption) rfl rfl ?_
    refine tm_sl (by kernel_rfl) rfl rfl ?_
    refine tn_blk ?_
    refine tn_code ?_
    refine t_reg ?_
    refine to_mv rfl rfl ?_
    refine to_add rfl rfl (by omega) rfl ?_
    refine to_as rfl rfl ?_
    refine to_nil ?_
    exact tn_loop2 (j + 1) [.own b9 (isC [.int .i64 (min (accK (difA sh L15 fs15) j).1 (v.1 - fig sh (fs15 + (j : Int)))), .int .i64 (max (accK (difA sh L15 fs15) j).2 (v.2 - fig sh (fs15 + (j : Int))))] 53), .snap lo15 w15.heap.size w15, .own b3 (isC (shC sh pt) 33), .own b6 (isC [.int .i64 0, .int .i64 0] 53), .snap 0 w.heap.size w] (by simp only [accK]; rw [difA_at hv]) (by omega) (by omega) (⟨rfl, rfl, rfl, rfl, rfl, rfl, trivial⟩)
  · try simp only [decide_eq_true_eq, decide_eq_false_iff_not, Bool.not_eq_true', Bool.not_eq_false', Int.not_lt, Int.not_le, ne_eq, Decidable.not_not] at h1
    try have h1b := inB_iff.1 h1
    have hk2 : j = L15.length := by omega
    subst hk2
    refine t_exit ?_
    refine tx_code ?_
    refine tx_inv ?_
    refine tx_blk ?_
    refine tn_code ?_
    refine t_seq ?_
    refine t_reg ?_
    first | refine to_lda rfl rfl rfl ?_ | refine to_ldea rfl (by assumption) rfl rfl ?_
    first | refine to_st rfl rfl rfl rfl ?_ | refine to_ste rfl rfl (by assumption) rfl rfl ?_
    refine to_nil ?_
    refine tn_code ?_
    refine t_ret1 rfl rfl (res_cellA rfl rfl) (fun w' s => ?_)
    rw [dif_sums heb.1 hL15 hLl15.1]

set_option maxRecDepth 20000 in
theorem ref_Differs (sh : Sh) (pt : Pt) (k : Nat) (e : Int) (w : World) (hre : Ro w 0 w.heap.size pt.ea sh.errs.length pt.ec 1 (ints sh.errs)) (hrr : Ro w 0 w.heap.size pt.ra sh.rows.length pt.rc 1 (ints sh.rows)) (hs : isSh sh = true) (he : sh.errs[k]? = some e) : Calls Tryz.prog 46 #[shV sh pt, (.int .i64 (k : Int))] w (RetV w (spanV (rDif sh e))) := by
  refine calls_T0 (av := [_, _]) Tryz.func46 rfl rfl rfl ?_
  refine t_seq ?_
  refine t_reg ?_
  refine to_box rfl rfl (fun b2 => ?_)
  refine to_alloc rfl (fun b4 => ?_)
  refine to_nil ?_
  refine tn_code ?_
  refine t_seq ?_
  refine t_reg ?_
  first | refine to_lda rfl rfl rfl ?_ | refine to_ldea rfl (by assumption) rfl rfl ?_
  refine to_mv rfl rfl ?_
  refine to_call0 rfl rfl (fun w s => ref_differs sh pt k e [] none 0 w (rdw s) (rdw s) hs he (Ro.nil _ _ _ _) (by simp) (fun n hn => by cases hn) (by simp)) rfl ?_
  first | refine to_st rfl rfl rfl rfl ?_ | refine to_ste rfl rfl (by assumption) rfl rfl ?_
  refine to_nil ?_
  refine tn_code ?_
  refine t_ret1 rfl rfl (res_cellA rfl rfl) (fun w' s => ?_)
  rw [difN_nil]

end Go.Proofs


namespace Go.Proofs
open Go Go.Sx Go.RowKit

end Go.Proofs


namespace Go.Proofs
open Go Go.Sx Go.RowKit

/-! A drawn region in which two operations that turn the world may come in either order. -/
def preFrom (md : Region.Mode) (ops : Array Oper) (S : List Nat) : List (Nat × Oper) → Array Bool → Bool
  | [], _ => true
  | (k, _) :: l, listed => (if S.contains k then Region.ready md ops listed == [k] else (Region.ready md ops listed).contains k && Region.free md ops listed k) && preFrom md ops S l (listed.setIfInBounds k true)
def setAll : List (Nat × Oper) → Array Bool → Array Bool
  | [], b => b
  | p :: l, b => setAll l (b.setIfInBounds p.1 true)
def forkFrom (md : Region.Mode) (ops : Array Oper) (S : List Nat) : List (Nat × Oper) → List (Nat × Oper) → Array Bool → Bool
  | (k1, _) :: l1, (k2, _) :: l2, listed => S.contains k1 && S.contains k2 && (Region.ready md ops listed == [k1, k2]) && ordFrom md ops S l1 (listed.setIfInBounds k1 true) && ordFrom md ops S l2 (listed.setIfInBounds k2 true)
  | _, _, _ => false
section
variable {P : Program} {ops : Array Oper} {md : Region.Mode} {C : World → Prop} {S : List Nat}
theorem mAny_pre {Q Q' : (World → Prop) → Act → Prop} (hs : Region.noSelect ops = true) (hnd : noDefer ops = true) {m : Nat} : ∀ (l : List (Nat × Oper)) (listed : Array Bool) (D : World → Prop) (a : Act), (∀ p ∈ l, ops[p.1]? = some p.2) →
    preFrom md ops S l listed = true → wpOrd P ops S C Q l D a → (∀ D a, Q D a → mAny P md ops S C Q' m (setAll l listed) D a) → mAny P md ops S C Q' (l.length + m) listed D a
  | [], _, _, _, _, _, h, hf => by simpa [setAll] using hf _ _ h
  | (k, o) :: l, listed, D, a, hl, hB, h, hf => by
    have h0 : ops[k]? = some o := hl (k, o) (List.mem_cons_self ..)
    simp only [preFrom, Bool.and_eq_true] at hB
    obtain ⟨hr, hB'⟩ := hB
    have hst : mOp P ops S C D k (fun D' a' => wpOrd P ops S C Q l D' a') a := by unfold mOp; simp only [h0]; exact h
    have hnext := fun D' a' (h : wpOrd P ops S C Q l D' a') => mAny_pre (Q := Q) (Q' := Q') (m := m) hs hnd l (listed.setIfInBounds k true) D' a' (fun p hp => hl p (List.mem_cons_of_mem _ hp)) hB' h hf
    rw [List.length_cons, show l.length + 1 + m = (l.length + m) + 1 by omega]
    cases hS : S.contains k with
    | true =>
      rw [hS] at hr
      have hr' : Region.ready md ops listed = [k] := by simpa using hr
      refine ⟨fun h => (by rw [hr'] at h; cases h), fun i hi => ?_⟩
      rw [hr'] at hi
      have : i = k := by simpa using hi
      subst this
      exact mOp_mono hnext hst
    | false =>
      rw [hS] at hr
      simp only [Bool.false_eq_true, if_false, Bool.and_eq_true] at hr
      obtain ⟨v, hy, hK⟩ := yieldsM_of_op h0 hS hst
      exact mAny_first (noDefer_spec hnd) h0 hS (Region.noSelect_spec hs) (l.length + m) listed D a (Region.free_spec h0 hr.2) (by simpa using hr.1) hy (hnext _ _ hK)
theorem mAny_fork {Q : (World → Prop) → Act → Prop} (hs : Region.noSelect ops = true) (hnd : noDefer ops = true) : ∀ (l1 l2 : List (Nat × Oper)) (listed : Array Bool) (D : World → Prop) (a : Act), (∀ p ∈ l1, ops[p.1]? = some p.2) → (∀ p ∈ l2, ops[p.1]? = some p.2) → l1.length = l2.length →
    forkFrom md ops S l1 l2 listed = true → wpOrd P ops S C Q l1 D a → wpOrd P ops S C Q l2 D a → mAny P md ops S C Q l1.length listed D a
  | [], _, _, _, _, _, _, _, hB, _, _ => by simp [forkFrom] at hB
  | _ :: _, [], _, _, _, _, _, _, hB, _, _ => by simp [forkFrom] at hB
  | (k1, o1) :: l1, (k2, o2) :: l2, listed, D, a, hl1, hl2, hlen, hB, h1, h2 => by
    simp only [forkFrom, Bool.and_eq_true] at hB
    obtain ⟨⟨⟨⟨hS1, hS2⟩, hr⟩, hB1⟩, hB2⟩ := hB
    have hr' : Region.ready md ops listed = [k1, k2] := by simpa using hr
    have e1 : ops[k1]? = some o1 := hl1 (k1, o1) (List.mem_cons_self ..)
    have e2 : ops[k2]? = some o2 := hl2 (k2, o2) (List.mem_cons_self ..)
    have s1 : mOp P ops S C D k1 (fun D' a' => wpOrd P ops S C Q l1 D' a') a := by unfold mOp; simp only [e1]; exact h1
    have s2 : mOp P ops S C D k2 (fun D' a' => wpOrd P ops S C Q l2 D' a') a := by unfold mOp; simp only [e2]; exact h2
    have hlen2 : l1.length = l2.length := by simpa using hlen
    refine ⟨fun h => (by rw [hr'] at h; cases h), fun i hi => ?_⟩
    rw [hr'] at hi
    simp only [List.mem_cons, List.not_mem_nil, or_false] at hi
    rcases hi with rfl | rfl
    · exact mOp_mono (fun D' a' h => mAny_ord (Q := Q) hs hnd l1 _ D' a' (fun p hp => hl1 p (List.mem_cons_of_mem _ hp)) hB1 h) s1
    · refine mOp_mono (fun D' a' h => ?_) s2
      have := mAny_ord (Q := Q) hs hnd l2 _ D' a' (fun p hp => hl2 p (List.mem_cons_of_mem _ hp)) hB2 h
      rw [← hlen2] at this; exact this
end
def ordF (l : List Oper) (S L0 L1 L2 : List Nat) : Bool := Region.noSelect l.toArray && noDefer l.toArray && Nat.beq ((plan l L0).length + (plan l L1).length) l.toArray.size && Nat.beq (plan l L1).length (plan l L2).length && preFrom .any l.toArray S (plan l L0) (Array.replicate l.toArray.size false) && forkFrom .any l.toArray S (plan l L1) (plan l L2) (setAll (plan l L0) (Array.replicate l.toArray.size false))
theorem wpIn_region_fork {P : Program} {id : Nat} {Q : Exit → Act → World → Prop} {a : Act} {w : World} {l : List Oper} (S L0 L1 L2 : List Nat) (C D : World → Prop) (hm : P.follows .mixedOrders = true) (hB : ordF l S L0 L1 L2 = true) (hg : Go.Sx.Good C D)
    (hD : D { w with drawn := w.drawn + 1 }) (h : wpOrd P l.toArray S C (fun D a' => wpOrd P l.toArray S C (fun D a' => ∀ w', D w' → Q .normal a' w') (plan l L1) D a' ∧ wpOrd P l.toArray S C (fun D a' => ∀ w', D w' → Q .normal a' w') (plan l L2) D a') (plan l L0) D a) : (Code.region id l.toArray true).wpIn (WF none) 0 P Q a w := by
  simp only [ordF, Bool.and_eq_true] at hB
  obtain ⟨⟨⟨⟨⟨hB1, hB2⟩, hB3⟩, hB4⟩, hB5⟩, hB6⟩ := hB
  refine wpIn_region_any hm (wpAnyIn_of_m (S := S) (noDefer_spec hB2) (Q := fun D a' => ∀ w', D w' → Q .normal a' w') (fun D a w h hw => h w hw) _ _ D _ _ (.inl hg) hD ?_)
  have := mAny_pre (P := P) (C := C) (md := .any) (S := S) hB1 hB2 (m := (plan l L1).length) (Q' := fun D a' => ∀ w', D w' → Q .normal a' w') (plan l L0) (Array.replicate l.toArray.size false) D a plan_at hB5 h
    (fun D a hh => mAny_fork hB1 hB2 (plan l L1) (plan l L2) _ D a plan_at plan_at (Nat.eq_of_beq_eq_true hB4) hB6 hh.1 hh.2)
  rw [Nat.eq_of_beq_eq_true hB3] at this
  exact this
def TFk (x : Cx) (S : List Nat) (ops : Array Oper) (rest l1 l2 : List (Nat × Oper)) (ks : List KI) (E : Env) (Hb H : List Seg) : Prop :=
  ∀ a, E.ok a → (∃ w, St x.w0 Hb w) → wpOrd x.P ops S (St x.w0 Hb) (fun D a' => wpOrd x.P ops S (St x.w0 Hb) (fun D a' => ∀ w', D w' → Qk x ks .normal a' w') l1 D a' ∧ wpOrd x.P ops S (St x.w0 Hb) (fun D a' => ∀ w', D w' → Qk x ks .normal a' w') l2 D a') rest (St x.w0 H) a
section
variable {x : Cx} {S : List Nat} {k : Nat} {ops : Array Oper} {rest l1 l2 : List (Nat × Oper)} {ks : List KI} {E : Env} {Hb H : List Seg}
theorem t_regF {id : Nat} {l : List Oper} (S L0 L1 L2 : List Nat) (Hb : List Seg) (hr : x.r = none) (hm : x.P.follows .mixedOrders = true) (hB : ordF l S L0 L1 L2 = true) [SubH Hb H] (h : TFk x S l.toArray (plan l L0) (plan l L1) (plan l L2) ks E Hb H) : T x ks (.region id l.toArray true) E H := by
  intro a w e s
  rw [hr]
  exact wpIn_region_fork S L0 L1 L2 (St x.w0 Hb) (St x.w0 H) hm hB st_good s.drew (h a e ⟨w, s.sub⟩)
theorem tf_fork (h1 : TP x S ops l1 ks E Hb H) (h2 : TP x S ops l2 ks E Hb H) : TFk x S ops [] l1 l2 ks E Hb H := fun a e hne => ⟨h1 a e hne, h2 a e hne⟩
theorem tf_q {o : Oper} (E' : Env) (hS : S.contains k = false) (hq : TO x.nx true ops [o] [.inv (fun a _ => E'.ok a)] E Hb) (h : TFk x S ops rest l1 l2 ks E' Hb H) : TFk x S ops ((k, o) :: rest) l1 l2 ks E Hb H := by
  intro a e hne
  have h1 := hq a e
  have ⟨w, hw⟩ := hne
  simp only [wpQM] at h1
  simp only [wpOrd, hS, Bool.false_eq_true, if_false]
  split
  · rename_i hwt
    simp only [hwt, if_true] at h1
    obtain ⟨v, h2, h3⟩ := h1
    exact ⟨v, h2, h _ (h3 w hw) hne⟩
  · rename_i hwt
    simp only [hwt] at h1
    exact h _ (h1 w hw) hne
theorem tfq_end {E : Env} {x : Cx} {ops : Array Oper} {H : List Seg} : TO x true ops [] [.inv (fun a _ => E.ok a)] E H := fun _ e _ _ => e
end

theorem row_end {n i : Nat} (hi : i ≤ n) (h : inB (i : Int) 0 ((n : Int) - 1) = false) : i = n := by
  have h8 : ¬ (0 ≤ (i : Int) ∧ (i : Int) ≤ (n : Int) - 1) := fun hh => by rw [inB_iff.2 hh] at h; cases h
  omega

theorem c_refDifU {sh : Sh} {pt : Pt} {k i : Nat} {e : Int} {ra : Option Addr} {rc : Nat} {w : World} (hre : Ro w 0 w.heap.size pt.ea sh.errs.length pt.ec 1 (ints sh.errs)) (hr2 : Ro w 0 w.heap.size ra (i + 1) rc 1 (ints (sh.rows.take (i + 1)))) (hs : isSh sh = true) (he : sh.errs[k]? = some e) (hi : i < sh.rows.length) :
    Calls Tryz.prog 46 #[.agg [.int .i64 sh.unit, .int .i64 sh.rule, .slice pt.ea sh.errs.length pt.ec, .slice ra (i + 1) rc].toArray, .int .i64 (k : Int)] w (RetV w (spanV (rDif (untS sh i) e))) := by
  have h := ref_Differs (untS sh i) ⟨pt.ea, pt.ec, ra, rc⟩ k e w hre (by rw [untS_len hi]; exact hr2) (untS_ok hs hi) he
  have h3 : shV (untS sh i) ⟨pt.ea, pt.ec, ra, rc⟩ = .agg [.int .i64 sh.unit, .int .i64 sh.rule, .slice pt.ea sh.errs.length pt.ec, .slice ra (i + 1) rc].toArray := by
    simp only [shV, shC, untS_len hi]; rfl
  rw [h3] at h
  exact h
theorem fst_some {sh : Sh} {e : Int} {i : Nat} (hi : i < sh.rows.length) (hz : rDif (untS sh i) e ≠ (0, 0)) (hall : ∀ j, j < i → rDif (untS sh j) e = (0, 0)) : rFst sh e = ((i : Int), 0) := by
  rcases rFst_cases sh e with ⟨k, hk, h1, h2, h3⟩ | ⟨_, h2⟩
  · have : k = i := by
      rcases Nat.lt_trichotomy k i with h | h | h
      · exact absurd (hall k h) h2
      · exact h
      · exact absurd (h3 i h) hz
    subst this; exact h1
  · exact absurd (h2 i hi) hz
theorem fst_none {sh : Sh} {e : Int} (hall : ∀ j, j < sh.rows.length → rDif (untS sh j) e = (0, 0)) : rFst sh e = (0, 5) := by
  rcases rFst_cases sh e with ⟨k, hk, h1, h2, h3⟩ | ⟨h1, _⟩
  · exact absurd (hall k hk) h2
  · exact h1
theorem all_next {sh : Sh} {e : Int} {i : Nat} (h : ∀ j, j < i → rDif (untS sh j) e = (0, 0)) (hz : rDif (untS sh i) e = (0, 0)) : ∀ j, j < i + 1 → rDif (untS sh j) e = (0, 0) := by
  intro j hj
  rcases Nat.lt_succ_iff_lt_or_eq.1 hj with h' | rfl
  · exact h j h'
  · exact hz
theorem zero_of {z : Sp} (h : ieq (spanC z) (spanC (0, 0)) = true) : z = (0, 0) := by rw [ieq_span] at h; exact of_decide_eq_true h
theorem zero_ne {z : Sp} (h : ieq (spanC z) (spanC (0, 0)) = false) : z ≠ (0, 0) := by rw [ieq_span] at h; exact of_decide_eq_false h

set_option maxRecDepth 20000 in
theorem ref_First (sh : Sh) (pt : Pt) (k : Nat) (e : Int) (w : World) (hre : Ro w 0 w.heap.size pt.ea sh.errs.length pt.ec 1 (ints sh.errs)) (hrr : Ro w 0 w.heap.size pt.ra sh.rows.length pt.rc 1 (ints sh.rows)) (hs : isSh sh = true) (he : sh.errs[k]? = some e) : Calls Tryz.prog 50 #[shV sh pt, (.int .i64 (k : Int))] w (RetV w (.tuple #[.int .i64 (rFst sh e).1, .bool (decide ((rFst sh e).2 = 0))])) := by
  have heb := errs_b (isSh_e hs) e (List.mem_of_getElem? he)
  have hbb := isSh_b hs
  have hxe := map_get (f := intC) he
  have hke := (List.getElem?_eq_some_iff.1 he).1
  refine calls_T0 (av := [_, _]) Tryz.func50 rfl rfl rfl ?_
  refine t_seq ?_
  refine t_reg ?_
  refine to_box rfl rfl (fun b2 => ?_)
  refine to_as rfl rfl ?_
  refine to_as rfl rfl ?_
  refine to_nil ?_
  refine tn_code ?_
  refine t_seq ?_
  refine t_seq ?_
  refine t_reg ?_
  refine to_as rfl rfl ?_
  refine to_nil ?_
  refine tn_code ?_
  refine t_blk ?_
  refine t_loop2 (ι := Nat) (fun i => i ≤ sh.rows.length ∧ ∀ j, j < i → rDif (untS sh j) e = (0, 0)) (fun i => [(1, (.int .i64 (k : Int))), (2, (.pointer (some ⟨b2, 0, none⟩))), (6, (.int .i64 (i : Int)))]) (fun i => [.own b2 (isC (shC sh pt) 33), .snap 0 w.heap.size w]) (fun i => sh.rows.length - i) (0) [.own b2 (isC (shC sh pt) 33), .snap 0 w.heap.size w] (rfl) (⟨Nat.zero_le _, fun j hj => absurd hj (Nat.not_lt_zero _)⟩) (⟨rfl, rfl, rfl, trivial⟩) ?_
  rintro i ⟨hi, hall⟩
  show T _ _ _ ⟨_, [(1, (.int .i64 (k : Int))), (2, (.pointer (some ⟨b2, 0, none⟩))), (6, (.int .i64 (i : Int)))], _⟩ [.own b2 (isC (shC sh pt) 33), .snap 0 w.heap.size w]
  refine t_seq ?_
  refine t_seq ?_
  refine t_reg ?_
  first | refine to_lda rfl rfl rfl ?_ | refine to_ldea rfl (by assumption) rfl rfl ?_
  refine to_mv rfl rfl ?_
  refine to_call0 rfl rfl (fun w s => ref_Row sh pt _ w (by omega)) rfl ?_
  refine to_nil ?_
  refine tn_code ?_
  refine t_if rfl (fun h1 => ?_) (fun h1 => ?_)
  · try simp only [decide_eq_true_eq, decide_eq_false_iff_not, Bool.not_eq_true', Bool.not_eq_false', Int.not_lt, Int.not_le, ne_eq, Decidable.not_not] at h1
    try have h1b := inB_iff.1 h1
    have hil : i < sh.rows.length := by omega
    refine t_skip ?_
    refine tn_code ?_
    refine t_seq ?_
    refine t_blk ?_
    refine t_seq ?_
    refine t_reg ?_
    first | refine to_lda rfl rfl rfl ?_ | refine to_ldea rfl (by assumption) rfl rfl ?_
    refine to_mv rfl rfl ?_
    refine to_callR rfl rfl (fun w s => ref_Until sh pt i w (rdw s) (rdw s) hil (by omega)) rfl (fun v14 lo14 w14 hlo14 hR14 => ?_)
    obtain ⟨pa14, pc14, rfl, hro14⟩ := hR14
    refine to_mv rfl rfl ?_
    refine to_call0 rfl rfl (fun w s => c_refDifU (rdw s) (rdw s) hs he hil) rfl ?_
    refine to_bs rfl rfl ?_
    refine to_nes rfl rfl rfl rfl rfl rfl rfl ?_
    refine to_nil ?_
    refine tn_code ?_
    refine t_if rfl (fun h2 => ?_) (fun h2 => ?_)
    · try simp only [decide_eq_true_eq, decide_eq_false_iff_not, Bool.not_eq_true', Bool.not_eq_false', Int.not_lt, Int.not_le, ne_eq, Decidable.not_not] at h2
      try have h2b := inB_iff.1 h2
      have hz := zero_ne h2
      refine t_seq ?_
      refine t_reg ?_
      refine to_mv rfl rfl ?_
      refine to_as rfl rfl ?_
      refine to_as rfl rfl ?_
      refine to_nil ?_
      refine tn_code ?_
      refine t_ret2 rfl rfl (res_tmp rfl) (res_tmp rfl) (fun w' s => ?_)
      first | (rw [fst_some hil hz hall]; rfl) | (rw [fst_none hall]; rfl)
    · try simp only [decide_eq_true_eq, decide_eq_false_iff_not, Bool.not_eq_true', Bool.not_eq_false', Int.not_lt, Int.not_le, ne_eq, Decidable.not_not] at h2
      try have h2b := inB_iff.1 h2
      have hz := zero_of h2
      refine t_skip ?_
      refine tn_blk ?_
      refine tn_code ?_
      refine t_reg ?_
      refine to_mv rfl rfl ?_
      refine to_add rfl rfl (by omega) rfl ?_
      refine to_as rfl rfl ?_
      refine to_nil ?_
      exact tn_loop2 (i + 1) [.own b2 (isC (shC sh pt) 33), .snap 0 w.heap.size w] (rfl) (⟨by omega, all_next hall hz⟩) (by omega) (⟨rfl, rfl, rfl, trivial⟩)
  · try simp only [decide_eq_true_eq, decide_eq_false_iff_not, Bool.not_eq_true', Bool.not_eq_false', Int.not_lt, Int.not_le, ne_eq, Decidable.not_not] at h1
    try have h1b := inB_iff.1 h1
    have hie : i = sh.rows.length := row_end hi h1
    subst hie
    refine t_exit ?_
    refine tx_code ?_
    refine tx_inv ?_
    refine tx_blk ?_
    refine tn_code ?_
    refine t_seq ?_
    refine t_reg ?_
    refine to_as rfl rfl ?_
    refine to_as rfl rfl ?_
    refine to_nil ?_
    refine tn_code ?_
    refine t_ret2 rfl rfl (res_tmp rfl) (res_tmp rfl) (fun w' s => ?_)
    first | (rw [fst_some hil hz hall]; rfl) | (rw [fst_none hall]; rfl)

theorem c_refFirst_t {sh : Sh} {pt : Pt} {k : Nat} {e a : Int} {w : World} (hre : Ro w 0 w.heap.size pt.ea sh.errs.length pt.ec 1 (ints sh.errs)) (hrr : Ro w 0 w.heap.size pt.ra sh.rows.length pt.rc 1 (ints sh.rows)) (hs : isSh sh = true) (he : sh.errs[k]? = some e) (h : rFst sh e = (a, 0)) : Calls Tryz.prog 50 #[shV sh pt, .int .i64 (k : Int)] w (RetV w (.tuple #[.int .i64 a, .bool true])) := by
  have := ref_First sh pt k e w hre hrr hs he
  rw [h] at this; exact this
theorem c_refFirst_n {sh : Sh} {pt : Pt} {k : Nat} {e a : Int} {w : World} (hre : Ro w 0 w.heap.size pt.ea sh.errs.length pt.ec 1 (ints sh.errs)) (hrr : Ro w 0 w.heap.size pt.ra sh.rows.length pt.rc 1 (ints sh.rows)) (hs : isSh sh = true) (he : sh.errs[k]? = some e) (h : rFst sh e = (a, 5)) : Calls Tryz.prog 50 #[shV sh pt, .int .i64 (k : Int)] w (RetV w (.tuple #[.int .i64 a, .bool false])) := by
  have := ref_First sh pt k e w hre hrr hs he
  rw [h] at this; exact this
theorem c_dif1 {sh : Sh} {pt : Pt} {k : Nat} {e x : Int} {now : List Int} {a : Option Addr} {c : Nat} {w : World} (hre : Ro w 0 w.heap.size pt.ea sh.errs.length pt.ec 1 (ints sh.errs)) (hrr : Ro w 0 w.heap.size pt.ra sh.rows.length pt.rc 1 (ints sh.rows)) (hs : isSh sh = true) (he : sh.errs[k]? = some e) (hr : Ro w 0 w.heap.size a (now.length + 1) c 1 (ints now ++ [[.int .i64 x]])) (hl : now.length < sh.rows.length) (hl5 : sh.rows.length ≤ 5) (hb : ∀ n ∈ now, -100008 ≤ n ∧ n ≤ 100008) (hx : -100008 ≤ x ∧ x ≤ 100008) :
    Calls Tryz.prog 85 #[shV sh pt, .int .i64 (k : Int), .slice a (now.length + 1) c] w (RetV w (spanV (difN sh e (now ++ [x])))) := by
  have hlen : (now ++ [x]).length = now.length + 1 := by simp
  have h := ref_differs sh pt k e (now ++ [x]) a c w hre hrr hs he (by rw [hlen]; simpa using hr) (by rw [hlen]; omega) (fun n hn => by
    rcases List.mem_append.1 hn with hn | hn
    · exact hb n hn
    · rw [List.mem_singleton.1 hn]; exact hx) (by rw [hlen]; omega)
  rw [hlen] at h
  exact h
theorem dif_fir {sh : Sh} {e : Int} (he : 0 ≤ e) (now : List Int) : firF sh e now = none ↔ difN sh e now = (0, 0) := fir_none he (difN_E he now)
theorem all_fir {sh : Sh} {e r : Int} {now : List Int} {p : Nat} (h : ∀ m, r - e ≤ m → m < r - e + p → firF sh e (now ++ [m]) = none) (hz : firF sh e (now ++ [r - e + p]) = none) : ∀ m, r - e ≤ m → m < r - e + ((p + 1 : Nat) : Int) → firF sh e (now ++ [m]) = none := by
  intro m h1 h2
  by_cases hm : m < r - e + p
  · exact h m h1 hm
  · rw [show m = r - e + p by omega]; exact hz
theorem fir_more {sh : Sh} {e r : Int} {now : List Int} {p : Nat} (he : 0 ≤ e) (hr : sh.rows[now.length]? = some r) (hf : firF sh e now ≠ none) (h : ∀ m, r - e ≤ m → m < r - e + (p : Int) → firF sh e (now ++ [m]) = none) : (p : Int) ≤ 2 * e := by
  obtain ⟨n, hn, h2⟩ := fir_ex hr hf
  have hb := (mem_exL he).1 hn
  by_cases hc : n < r - e + p
  · exact absurd (h n hb.1 hc) h2
  · omega
theorem mem_snoc {now : List Int} {x : Int} (hb : ∀ n ∈ now, -100008 ≤ n ∧ n ≤ 100008) (hx : -100008 ≤ x ∧ x ≤ 100008) : ∀ n ∈ now ++ [x], -100008 ≤ n ∧ n ≤ 100008 := by
  intro n hn
  rcases List.mem_append.1 hn with hn | hn
  · exact hb n hn
  · rw [List.mem_singleton.1 hn]; exact hx

set_option maxRecDepth 20000 in
theorem ref_Proof_n (sh : Sh) (pt : Pt) (k : Nat) (e : Int) (w : World) (hre : Ro w 0 w.heap.size pt.ea sh.errs.length pt.ec 1 (ints sh.errs)) (hrr : Ro w 0 w.heap.size pt.ra sh.rows.length pt.rc 1 (ints sh.rows)) (hs : isSh sh = true) (he : sh.errs[k]? = some e) (hP : firF sh e [] = none) : Calls Tryz.prog 51 #[shV sh pt, (.int .i64 (k : Int))] w (Ret w (RSlB [] false)) := by
  have heb := errs_b (isSh_e hs) e (List.mem_of_getElem? he)
  have hbb := isSh_b hs
  have hxe := map_get (f := intC) he
  have hke := (List.getElem?_eq_some_iff.1 he).1
  have hz0 := (fir_dif heb.1).1 hP
  refine calls_T (av := [_, _]) Tryz.func51 rfl rfl rfl ?_
  refine t_seq ?_
  refine t_reg ?_
  refine to_box rfl rfl (fun b2 => ?_)
  refine to_as rfl rfl ?_
  refine to_as rfl rfl ?_
  refine to_nil ?_
  refine tn_code ?_
  refine t_seq ?_
  refine t_seq ?_
  refine t_reg ?_
  first | refine to_lda rfl rfl rfl ?_ | refine to_ldea rfl (by assumption) rfl rfl ?_
  refine to_mv rfl rfl ?_
  refine to_call0 rfl rfl (fun w s => ref_Differs sh pt k e w (rdw s) (rdw s) hs he) rfl ?_
  refine to_bs rfl rfl ?_
  refine to_eqs rfl rfl rfl rfl rfl rfl rfl ?_
  refine to_fix (s := 14) (b' := true) rfl (by rw [hz0]; rfl) ?_
  refine to_nil ?_
  refine tn_code ?_
  refine t_ifT rfl ?_
  refine t_seq ?_
  refine t_reg ?_
  refine to_as rfl rfl ?_
  refine to_as rfl rfl ?_
  refine to_nil ?_
  refine tn_code ?_
  refine t_ret2 rfl rfl (res_tmp rfl) (res_tmp rfl) (fun w' s => ?_)
  exact ⟨none, 0, rfl, Ro.nil _ _ _ _⟩

set_option maxRecDepth 20000 in
theorem ref_Proof_s (sh : Sh) (pt : Pt) (k : Nat) (e : Int) (X : List Int) (w : World) (hre : Ro w 0 w.heap.size pt.ea sh.errs.length pt.ec 1 (ints sh.errs)) (hrr : Ro w 0 w.heap.size pt.ra sh.rows.length pt.rc 1 (ints sh.rows)) (hs : isSh sh = true) (he : sh.errs[k]? = some e) (hP : firF sh e [] = some X) : Calls Tryz.prog 51 #[shV sh pt, (.int .i64 (k : Int))] w (Ret w (RSlB X true)) := by
  have heb := errs_b (isSh_e hs) e (List.mem_of_getElem? he)
  have hbb := isSh_b hs
  have hxe := map_get (f := intC) he
  have hke := (List.getElem?_eq_some_iff.1 he).1
  have hbl := bnd_len sh e
  have hz0 : rDif sh e ≠ (0, 0) := fun hh => by rw [(fir_dif heb.1).2 hh] at hP; cases hP
  refine calls_T (av := [_, _]) Tryz.func51 rfl rfl rfl ?_
  refine t_seq ?_
  refine t_reg ?_
  refine to_box rfl rfl (fun b2 => ?_)
  refine to_as rfl rfl ?_
  refine to_as rfl rfl ?_
  refine to_nil ?_
  refine tn_code ?_
  refine t_seq ?_
  refine t_seq ?_
  refine t_reg ?_
  first | refine to_lda rfl rfl rfl ?_ | refine to_ldea rfl (by assumption) rfl rfl ?_
  refine to_mv rfl rfl ?_
  refine to_call0 rfl rfl (fun w s => ref_Differs sh pt k e w (rdw s) (rdw s) hs he) rfl ?_
  refine to_bs rfl rfl ?_
  refine to_eqs rfl rfl rfl rfl rfl rfl rfl ?_
  refine to_fix (s := 14) (b' := false) rfl (span_ne hz0) ?_
  refine to_nil ?_
  refine tn_code ?_
  refine t_ifF rfl ?_
  refine t_skip ?_
  refine tn_code ?_
  refine t_seq ?_
  refine t_reg ?_
  first | refine to_lda rfl rfl rfl ?_ | refine to_ldea rfl (by assumption) rfl rfl ?_
  refine to_mv rfl rfl ?_
  refine to_callR rfl rfl (fun w s => ref_Bounds sh pt k e w (rdw s) (rdw s) hs he) rfl (fun v17 lo17 w17 hlo17 hR17 => ?_)
  obtain ⟨pa17, pc17, rfl, hro17⟩ := hR17
  rw [hbl] at *
  refine to_as rfl rfl ?_
  refine to_nil ?_
  refine tn_code ?_
  refine t_seq ?_
  refine t_reg ?_
  refine to_as rfl rfl ?_
  refine to_nil ?_
  refine tn_code ?_
  refine t_seq ?_
  refine t_seq ?_
  refine t_reg ?_
  refine to_as rfl rfl ?_
  refine to_nil ?_
  refine tn_code ?_
  refine t_blk ?_
  refine t_nilrow 3 1 ?_
  refine t_loop2 (ι := List Int × Option Addr × Nat) (fun ((now, a', c') : List Int × Option Addr × Nat) => now.length ≤ sh.rows.length ∧ firF sh e [] = firF sh e now ∧ ∀ n ∈ now, -100008 ≤ n ∧ n ≤ 100008) (fun ((now, a', c') : List Int × Option Addr × Nat) => [(1, (.int .i64 (k : Int))), (2, (.pointer (some ⟨b2, 0, none⟩))), (6, .slice pa17 sh.rows.length pc17), (7, .slice a' now.length c'), (8, (.int .i64 (now.length : Int)))]) (fun ((now, a', c') : List Int × Option Addr × Nat) => [.row a' now.length c' 3 1 (ints now), .own b2 (isC (shC sh pt) 33), .snap lo17 w17.heap.size w17, .snap 0 w.heap.size w]) (fun ((now, a', c') : List Int × Option Addr × Nat) => sh.rows.length - now.length) (([], none, 0)) [.row none 0 0 3 1 [], .own b2 (isC (shC sh pt) 33), .snap lo17 w17.heap.size w17, .snap 0 w.heap.size w] (rfl) (⟨Nat.zero_le _, rfl, fun n hn => by cases hn⟩) (⟨rfl, rfl, rfl, rfl, rfl, trivial⟩) ?_
  rintro ⟨now, a', c'⟩ ⟨hnl, hfe, hnb⟩
  try dsimp only at hk
  show T _ _ _ ⟨_, [(1, (.int .i64 (k : Int))), (2, (.pointer (some ⟨b2, 0, none⟩))), (6, .slice pa17 sh.rows.length pc17), (7, .slice a' now.length c'), (8, (.int .i64 (now.length : Int)))], _⟩ [.row a' now.length c' 3 1 (ints now), .own b2 (isC (shC sh pt) 33), .snap lo17 w17.heap.size w17, .snap 0 w.heap.size w]
  refine t_seq ?_
  refine t_seq ?_
  refine t_reg ?_
  refine to_mv rfl rfl ?_
  refine to_mv rfl rfl ?_
  refine to_lenS rfl rfl ?_
  refine to_lss rfl rfl rfl ?_
  refine to_nil ?_
  refine tn_code ?_
  refine t_if rfl (fun h1 => ?_) (fun h1 => ?_)
  · try simp only [decide_eq_true_eq, decide_eq_false_iff_not, Bool.not_eq_true', Bool.not_eq_false', Int.not_lt, Int.not_le, ne_eq, Decidable.not_not] at h1
    try have h1b := inB_iff.1 h1
    obtain ⟨r, hr⟩ := some_get (xs := sh.rows) (k := now.length) (by omega)
    have hrb := isSh_r hs (List.mem_of_getElem? hr)
    have hxr := bnd_get (e := e) hr
    have hfn : firF sh e now ≠ none := fun hh => by rw [hfe, hh] at hP; cases hP
    refine t_skip ?_
    refine tn_code ?_
    refine t_seq ?_
    refine t_blk ?_
    refine t_seq ?_
    refine t_reg ?_
    refine to_mv rfl rfl ?_
    refine to_mv rfl rfl ?_
    first | refine to_ix rfl rfl rfl (by first | omega | decide) (by first | omega | decide) rfl ?_ | refine to_ixi rfl rfl rfl (by omega) (by omega) (by omega) rfl ?_
    first | refine to_fa rfl rfl rfl (by simp only [Nat.reduceAdd]; rfl) rfl ?_ | refine to_fae rfl rfl rfl (by simp only [Nat.reduceAdd]; rfl) rfl ?_
    first | refine to_lds rfl rfl rfl ?_ | refine to_ldes rfl (by assumption) rfl rfl ?_
    refine to_as rfl rfl ?_
    refine to_nil ?_
    refine tn_code ?_
    refine t_seq ?_
    refine t_blk ?_
    refine t_loop2 (ι := Nat) (fun p => (p : Int) ≤ 2 * e ∧ ∀ m, r - e ≤ m → m < r - e + (p : Int) → firF sh e (now ++ [m]) = none) (fun p => [(1, (.int .i64 (k : Int))), (2, (.pointer (some ⟨b2, 0, none⟩))), (6, .slice pa17 sh.rows.length pc17), (7, .slice a' now.length c'), (8, (.int .i64 (now.length : Int))), (9, (.int .i64 (r - e + (p : Int))))]) (fun p => [.row a' now.length c' 3 1 (ints now), .own b2 (isC (shC sh pt) 33), .snap lo17 w17.heap.size w17, .snap 0 w.heap.size w]) (fun p => (2 * e).toNat - p) (0) [.row a' now.length c' 3 1 (ints now), .own b2 (isC (shC sh pt) 33), .snap lo17 w17.heap.size w17, .snap 0 w.heap.size w] (rfl) (⟨by omega, fun m h1 h2 => by omega⟩) (⟨rfl, rfl, rfl, rfl, rfl, congrArg (fun z => some (Value.int .i64 z)) (Int.add_zero (r - e)).symm, trivial⟩) ?_
    rintro p ⟨hp2, hall⟩
    show T _ _ _ ⟨_, [(1, (.int .i64 (k : Int))), (2, (.pointer (some ⟨b2, 0, none⟩))), (6, .slice pa17 sh.rows.length pc17), (7, .slice a' now.length c'), (8, (.int .i64 (now.length : Int))), (9, (.int .i64 (r - e + (p : Int))))], _⟩ [.row a' now.length c' 3 1 (ints now), .own b2 (isC (shC sh pt) 33), .snap lo17 w17.heap.size w17, .snap 0 w.heap.size w]
    refine t_seq ?_
    refine t_seq ?_
    have hzl : 0 + now.length = now.length := Nat.zero_add _
    refine t_nilrow 3 1 ?_
    refine t_regF [3, 5, 6, 7] [0, 1, 2, 4, 8] [3, 5, 6, 7, 9] [5, 3, 6, 7, 9] [.own b2 (isC (shC sh pt) 33), .snap 0 w.heap.size w] rfl (by kernel_rfl) (by kernel_rfl) ?_
    refine tf_q ?e1 rfl ?q1 ?r1
    case q1 =>
      first | refine to_lda rfl rfl rfl ?_ | refine to_ldea rfl (by assumption) rfl rfl ?_
      exact tfq_end
    refine tf_q ?e2 rfl ?q2 ?r2
    case q2 =>
      refine to_mv rfl rfl ?_
      exact tfq_end
    refine tf_q ?e3 rfl ?q3 ?r3
    case q3 =>
      refine to_mv rfl rfl ?_
      exact tfq_end
    refine tf_q ?e4 rfl ?q4 ?r4
    case q4 =>
      refine to_mv rfl rfl ?_
      exact tfq_end
    refine tf_q ?e5 rfl ?q5 ?r5
    case q5 =>
      refine to_bs rfl rfl ?_
      exact tfq_end
    refine tf_fork ?_ ?_
    · skip
      refine tp_s rfl ?_ (fun _ h => by cases h) rfl
      refine to_app rfl rfl rfl (scal_ints _) (by decide) (show (0 + now.length) * 8 ≤ 1099511627776 from by omega) (by decide) rfl (fun a32 c32 => ?_)
      rw [hzl]
      refine tp_se rfl ?_
      refine tp_s rfl ?_ (fun _ h => by cases h) rfl
      refine to_bsl rfl rfl rfl rfl (fun a34 => ?_)
      refine tp_se rfl ?_
      refine tp_s rfl ?_ (fun _ h => by cases h) rfl
      refine to_app rfl rfl rfl (by simp [scals, scal]) (by decide) (by omega) (by decide) rfl (fun a35 c35 => ?_)
      refine tp_se rfl ?_
      refine tp_s rfl ?_ (fun _ h => by cases h) rfl
      refine to_call0 rfl rfl (fun w s => c_dif1 (now := now) (x := r - e + (p : Int)) (rdw s) (rdw s) hs he (rdw s) (by omega) (by omega) hnb (by omega)) rfl ?_
      refine tp_se rfl ?_
      refine tp_q ?e6 rfl ?q6 ?r6
      case q6 =>
        refine to_eqs rfl rfl rfl rfl rfl rfl rfl ?_
        exact tpq_end
      refine tp_nil ?_
      refine tn_code ?_
      refine t_if rfl (fun h2 => ?_) (fun h2 => ?_)
      · try simp only [decide_eq_true_eq, decide_eq_false_iff_not, Bool.not_eq_true', Bool.not_eq_false', Int.not_lt, Int.not_le, ne_eq, Decidable.not_not] at h2
        try have h2b := inB_iff.1 h2
        have hz := (dif_fir heb.1 (now ++ [r - e + (p : Int)])).2 (zero_of h2)
        have hall2 := all_fir hall hz
        have hp3 := fir_more heb.1 hr hfn hall2
        refine t_skip ?_
        refine tn_code ?_
        refine t_blk ?_
        refine t_reg ?_
        refine to_mv rfl rfl ?_
        refine to_add rfl rfl (by omega) rfl ?_
        refine to_as rfl rfl ?_
        refine to_nil ?_
        refine tn_blk ?_
        exact tn_loop2 (p + 1) [.row a' now.length c' 3 1 (ints now), .own b2 (isC (shC sh pt) 33), .snap lo17 w17.heap.size w17, .snap 0 w.heap.size w] (rfl) (⟨hp3, hall2⟩) (by omega) (⟨rfl, rfl, rfl, rfl, rfl, congrArg (fun z => some (Value.int .i64 z)) (Int.add_assoc (r - e) p 1), trivial⟩)
      · try simp only [decide_eq_true_eq, decide_eq_false_iff_not, Bool.not_eq_true', Bool.not_eq_false', Int.not_lt, Int.not_le, ne_eq, Decidable.not_not] at h2
        try have h2b := inB_iff.1 h2
        have hnz : firF sh e (now ++ [r - e + (p : Int)]) ≠ none := fun hh => zero_ne h2 ((dif_fir heb.1 _).1 hh)
        refine t_exit ?_
        refine tx_code ?_
        refine tx_inv ?_
        refine tx_blk ?_
        refine tn_code ?_
        refine t_reg ?_
        refine to_mv rfl rfl ?_
        refine to_mv rfl rfl ?_
        refine to_bsl rfl rfl rfl rfl (fun a43 => ?_)
        refine to_app rfl rfl rfl (by simp [scals, scal]) (by decide) (by omega) (by decide) rfl (fun a44 c44 => ?_)
        refine to_as rfl rfl ?_
        refine to_nil ?_
        refine tn_blk ?_
        refine tn_code ?_
        refine t_reg ?_
        refine to_mv rfl rfl ?_
        refine to_add rfl rfl (by omega) rfl ?_
        refine to_as rfl rfl ?_
        refine to_nil ?_
        exact tn_loop2 ((now ++ [r - e + (p : Int)], a44, c44)) [.row a44 (now.length + 1) c44 3 1 (ints now ++ [[.int .i64 (r - e + (p : Int))]]), .own b2 (isC (shC sh pt) 33), .snap lo17 w17.heap.size w17, .snap 0 w.heap.size w] (by simp) (⟨by simp; omega, hfe.trans (fir_next heb.1 hr (by omega) (by omega) hall hnz), mem_snoc hnb (by omega)⟩) (by simp; omega) (⟨rfl, rfl, rfl, congrArg some (by simp), congrArg (fun z => some (Value.int .i64 z)) (by simp), trivial⟩)
    · skip
      refine tp_s rfl ?_ (fun _ h => by cases h) rfl
      refine to_bsl rfl rfl rfl rfl (fun a34 => ?_)
      refine tp_se rfl ?_
      refine tp_s rfl ?_ (fun _ h => by cases h) rfl
      refine to_app rfl rfl rfl (scal_ints _) (by decide) (show (0 + now.length) * 8 ≤ 1099511627776 from by omega) (by decide) rfl (fun a32 c32 => ?_)
      rw [hzl]
      refine tp_se rfl ?_
      refine tp_s rfl ?_ (fun _ h => by cases h) rfl
      refine to_app rfl rfl rfl (by simp [scals, scal]) (by decide) (by omega) (by decide) rfl (fun a35 c35 => ?_)
      refine tp_se rfl ?_
      refine tp_s rfl ?_ (fun _ h => by cases h) rfl
      refine to_call0 rfl rfl (fun w s => c_dif1 (now := now) (x := r - e + (p : Int)) (rdw s) (rdw s) hs he (rdw s) (by omega) (by omega) hnb (by omega)) rfl ?_
      refine tp_se rfl ?_
      refine tp_q ?e7 rfl ?q7 ?r7
      case q7 =>
        refine to_eqs rfl rfl rfl rfl rfl rfl rfl ?_
        exact tpq_end
      refine tp_nil ?_
      refine tn_code ?_
      refine t_if rfl (fun h3 => ?_) (fun h3 => ?_)
      · try simp only [decide_eq_true_eq, decide_eq_false_iff_not, Bool.not_eq_true', Bool.not_eq_false', Int.not_lt, Int.not_le, ne_eq, Decidable.not_not] at h3
        try have h3b := inB_iff.1 h3
        have hz := (dif_fir heb.1 (now ++ [r - e + (p : Int)])).2 (zero_of h3)
        have hall2 := all_fir hall hz
        have hp3 := fir_more heb.1 hr hfn hall2
        refine t_skip ?_
        refine tn_code ?_
        refine t_blk ?_
        refine t_reg ?_
        refine to_mv rfl rfl ?_
        refine to_add rfl rfl (by omega) rfl ?_
        refine to_as rfl rfl ?_
        refine to_nil ?_
        refine tn_blk ?_
        exact tn_loop2 (p + 1) [.row a' now.length c' 3 1 (ints now), .own b2 (isC (shC sh pt) 33), .snap lo17 w17.heap.size w17, .snap 0 w.heap.size w] (rfl) (⟨hp3, hall2⟩) (by omega) (⟨rfl, rfl, rfl, rfl, rfl, congrArg (fun z => some (Value.int .i64 z)) (Int.add_assoc (r - e) p 1), trivial⟩)
      · try simp only [decide_eq_true_eq, decide_eq_false_iff_not, Bool.not_eq_true', Bool.not_eq_false', Int.not_lt, Int.not_le, ne_eq, Decidable.not_not] at h3
        try have h3b := inB_iff.1 h3
        have hnz : firF sh e (now ++ [r - e + (p : Int)]) ≠ none := fun hh => zero_ne h3 ((dif_fir heb.1 _).1 hh)
        refine t_exit ?_
        refine tx_code ?_
        refine tx_inv ?_
        refine tx_blk ?_
        refine tn_code ?_
        refine t_reg ?_
        refine to_mv rfl rfl ?_
        refine to_mv rfl rfl ?_
        refine to_bsl rfl rfl rfl rfl (fun a43 => ?_)
        refine to_app rfl rfl rfl (by simp [scals, scal]) (by decide) (by omega) (by decide) rfl (fun a44 c44 => ?_)
        refine to_as rfl rfl ?_
        refine to_nil ?_
        refine tn_blk ?_
        refine tn_code ?_
        refine t_reg ?_
        refine to_mv rfl rfl ?_
        refine to_add rfl rfl (by omega) rfl ?_
        refine to_as rfl rfl ?_
        refine to_nil ?_
        exact tn_loop2 ((now ++ [r - e + (p : Int)], a44, c44)) [.row a44 (now.length + 1) c44 3 1 (ints now ++ [[.int .i64 (r - e + (p : Int))]]), .own b2 (isC (shC sh pt) 33), .snap lo17 w17.heap.size w17, .snap 0 w.heap.size w] (by simp) (⟨by simp; omega, hfe.trans (fir_next heb.1 hr (by omega) (by omega) hall hnz), mem_snoc hnb (by omega)⟩) (by simp; omega) (⟨rfl, rfl, rfl, congrArg some (by simp), congrArg (fun z => some (Value.int .i64 z)) (by simp), trivial⟩)
  · try simp only [decide_eq_true_eq, decide_eq_false_iff_not, Bool.not_eq_true', Bool.not_eq_false', Int.not_lt, Int.not_le, ne_eq, Decidable.not_not] at h1
    try have h1b := inB_iff.1 h1
    have hnle : now.length = sh.rows.length := by omega
    refine t_exit ?_
    refine tx_code ?_
    refine tx_inv ?_
    refine tx_blk ?_
    refine tn_code ?_
    refine t_seq ?_
    refine t_reg ?_
    refine to_mv rfl rfl ?_
    refine to_as rfl rfl ?_
    refine to_as rfl rfl ?_
    refine to_nil ?_
    refine tn_code ?_
    refine t_ret2 rfl rfl (res_tmp rfl) (res_tmp rfl) (fun w' s => ?_)
    have hfn : firF sh e now ≠ none := fun hh => by rw [hfe, hh] at hP; cases hP
    have hX : X = now := by have h9 := hfe.symm.trans hP; rw [fir_done hnle hfn] at h9; exact (Option.some.inj h9).symm
    subst hX
    exact ⟨a', c', rfl, ro_row s⟩

end Go.Proofs


namespace Go.Proofs
open Go Go.Sx Go.RowKit

set_option maxRecDepth 20000 in
theorem w_RoundFirsts_sF (sh : Sh) (pt : Pt) (gd : Int) (w : World) (hre : Ro w 0 w.heap.size pt.ea sh.errs.length pt.ec 1 (ints sh.errs)) (hrr : Ro w 0 w.heap.size pt.ra sh.rows.length pt.rc 1 (ints sh.rows)) (hsh : shortB sh = false) (hg : Gl w) : Calls Tryz.prog 11 #[shV sh pt, (.int .i64 gd)] w (RetV w (.bool true)) := by
  refine calls_T0 (av := [_, _]) Tryz.func11 rfl rfl rfl ?_
  refine t_seq ?_
  refine t_reg ?_
  refine to_box rfl rfl (fun b2 => ?_)
  refine to_as rfl rfl ?_
  refine to_nil ?_
  refine tn_code ?_
  refine t_seq ?_
  refine t_seq ?_
  refine t_reg ?_
  first | refine to_lda rfl rfl rfl ?_ | refine to_ldea rfl (by assumption) rfl rfl ?_
  refine to_call0 rfl rfl (fun w s => c_short sh pt w) rfl ?_
  refine to_fix (s := 14) (b' := false) rfl (hsh) ?_
  refine to_not rfl rfl ?_
  refine to_nil ?_
  refine tn_code ?_
  refine t_ifT rfl ?_
  refine t_seq ?_
  refine t_reg ?_
  refine to_call0 rfl rfl (fun w s => law_known w (gl_up hg (belowH_of s))) rfl ?_
  refine to_as rfl rfl ?_
  refine to_nil ?_
  refine tn_code ?_
  refine t_ret1 rfl rfl (res_tmp rfl) (fun w' s => ?_)
  rfl

set_option maxRecDepth 20000 in
theorem w_RoundFirsts_nS (sh : Sh) (pt : Pt) (gd : Int) (w : World) (hre : Ro w 0 w.heap.size pt.ea sh.errs.length pt.ec 1 (ints sh.errs)) (hrr : Ro w 0 w.heap.size pt.ra sh.rows.length pt.rc 1 (ints sh.rows)) (hsh : shortB sh = true) (hs : isSh sh = false) (hg : Gl w) : Calls Tryz.prog 11 #[shV sh pt, (.int .i64 gd)] w (RetV w (.bool true)) := by
  have hsl := short_b hsh
  have ho := okG_no hs gd
  have hl : sh.errs.length ≤ 1000000 := by omega
  refine calls_T0 (av := [_, _]) Tryz.func11 rfl rfl rfl ?_
  refine t_seq ?_
  refine t_reg ?_
  refine to_box rfl rfl (fun b2 => ?_)
  refine to_as rfl rfl ?_
  refine to_nil ?_
  refine tn_code ?_
  refine t_seq ?_
  refine t_seq ?_
  refine t_reg ?_
  first | refine to_lda rfl rfl rfl ?_ | refine to_ldea rfl (by assumption) rfl rfl ?_
  refine to_call0 rfl rfl (fun w s => c_short sh pt w) rfl ?_
  refine to_fix (s := 14) (b' := true) rfl (hsh) ?_
  refine to_not rfl rfl ?_
  refine to_nil ?_
  refine tn_code ?_
  refine t_ifF rfl ?_
  refine t_skip ?_
  refine tn_code ?_
  refine t_seq ?_
  refine t_reg ?_
  first | refine to_lda rfl rfl rfl ?_ | refine to_ldea rfl (by assumption) rfl rfl ?_
  refine to_mv rfl rfl ?_
  refine to_call0 rfl rfl (fun w s => r_First_f sh pt gd w (rdw s) (rdw s) hl ho) rfl ?_
  refine to_mv rfl rfl ?_
  refine to_ex rfl rfl rfl ?_
  refine to_ex rfl rfl rfl ?_
  refine to_as rfl rfl ?_
  refine to_as rfl rfl ?_
  refine to_nil ?_
  refine tn_code ?_
  refine t_seq ?_
  refine t_reg ?_
  first | refine to_lda rfl rfl rfl ?_ | refine to_ldea rfl (by assumption) rfl rfl ?_
  refine to_mv rfl rfl ?_
  refine to_callR rfl rfl (fun w s => r_Proof_f sh pt gd w (rdw s) (rdw s) hl ho) rfl (fun v26 lo26 w26 hlo26 hR26 => ?_)
  obtain ⟨pa26, pc26, rfl, hro26⟩ := hR26
  refine to_mv rfl rfl ?_
  refine to_ex rfl rfl rfl ?_
  refine to_ex rfl rfl rfl ?_
  refine to_as rfl rfl ?_
  refine to_as rfl rfl ?_
  refine to_nil ?_
  refine tn_code ?_
  refine t_seq ?_
  refine t_seq ?_
  refine t_reg ?_
  first | refine to_lda rfl rfl rfl ?_ | refine to_ldea rfl (by assumption) rfl rfl ?_
  refine to_call0 rfl rfl (fun w s => ref_Sheet sh pt w (rdw s) (rdw s)) rfl ?_
  refine to_fix (s := 30) (b' := false) rfl (hs) ?_
  refine to_not rfl rfl ?_
  refine to_mv rfl rfl ?_
  refine to_gf rfl rfl rfl rfl ?_
  refine to_gf rfl rfl rfl rfl ?_
  refine to_gf rfl rfl rfl rfl ?_
  refine to_gf rfl rfl rfl rfl ?_
  refine to_pkT rfl rfl rfl ?_
  refine to_nil ?_
  refine tn_code ?_
  refine t_ifT rfl ?_
  refine t_seq ?_
  refine t_reg ?_
  refine to_mv rfl rfl ?_
  refine to_eql rfl rfl rfl ?_
  refine to_fix (s := 39) (b' := true) rfl (rfl) ?_
  refine to_mv rfl rfl ?_
  refine to_gt rfl rfl ?_
  refine to_mv rfl rfl ?_
  refine to_gt rfl rfl ?_
  refine to_eql rfl rfl rfl ?_
  refine to_fix (s := 42) (b' := true) rfl (rfl) ?_
  refine to_pkT rfl rfl rfl ?_
  refine to_mv rfl rfl ?_
  refine to_gt rfl rfl ?_
  refine to_mv rfl rfl ?_
  refine to_gt rfl rfl ?_
  refine to_eql rfl rfl rfl ?_
  refine to_fix (s := 46) (b' := true) rfl (rfl) ?_
  refine to_pkT rfl rfl rfl ?_
  refine to_mv rfl rfl ?_
  refine to_gt rfl rfl ?_
  refine to_mv rfl rfl ?_
  refine to_gt rfl rfl ?_
  refine to_lenS rfl rfl ?_
  refine to_gt rfl rfl ?_
  refine to_eql rfl rfl rfl ?_
  refine to_fix (s := 51) (b' := true) rfl (rfl) ?_
  refine to_pkT rfl rfl rfl ?_
  refine to_mv rfl rfl ?_
  refine to_gt rfl rfl ?_
  refine to_call0 rfl rfl (fun w s => law_known w (gl_up hg (belowH_of s))) rfl ?_
  refine to_pkT rfl rfl rfl ?_
  refine to_as rfl rfl ?_
  refine to_nil ?_
  refine tn_code ?_
  refine t_ret1 rfl rfl (res_tmp rfl) (fun w' s => ?_)
  rfl

set_option maxRecDepth 20000 in
theorem w_RoundFirsts_nG (sh : Sh) (pt : Pt) (gd : Int) (w : World) (hre : Ro w 0 w.heap.size pt.ea sh.errs.length pt.ec 1 (ints sh.errs)) (hrr : Ro w 0 w.heap.size pt.ra sh.rows.length pt.rc 1 (ints sh.rows)) (hsh : shortB sh = true) (hs : isSh sh = true) (hgn : inB gd 0 (sh.errs.length - 1) = false) (hg : Gl w) : Calls Tryz.prog 11 #[shV sh pt, (.int .i64 gd)] w (RetV w (.bool true)) := by
  have hsl := short_b hsh
  have ho := okG_ng hgn
  have hl : sh.errs.length ≤ 1000000 := by omega
  refine calls_T0 (av := [_, _]) Tryz.func11 rfl rfl rfl ?_
  refine t_seq ?_
  refine t_reg ?_
  refine to_box rfl rfl (fun b2 => ?_)
  refine to_as rfl rfl ?_
  refine to_nil ?_
  refine tn_code ?_
  refine t_seq ?_
  refine t_seq ?_
  refine t_reg ?_
  first | refine to_lda rfl rfl rfl ?_ | refine to_ldea rfl (by assumption) rfl rfl ?_
  refine to_call0 rfl rfl (fun w s => c_short sh pt w) rfl ?_
  refine to_fix (s := 14) (b' := true) rfl (hsh) ?_
  refine to_not rfl rfl ?_
  refine to_nil ?_
  refine tn_code ?_
  refine t_ifF rfl ?_
  refine t_skip ?_
  refine tn_code ?_
  refine t_seq ?_
  refine t_reg ?_
  first | refine to_lda rfl rfl rfl ?_ | refine to_ldea rfl (by assumption) rfl rfl ?_
  refine to_mv rfl rfl ?_
  refine to_call0 rfl rfl (fun w s => r_First_f sh pt gd w (rdw s) (rdw s) hl ho) rfl ?_
  refine to_mv rfl rfl ?_
  refine to_ex rfl rfl rfl ?_
  refine to_ex rfl rfl rfl ?_
  refine to_as rfl rfl ?_
  refine to_as rfl rfl ?_
  refine to_nil ?_
  refine tn_code ?_
  refine t_seq ?_
  refine t_reg ?_
  first | refine to_lda rfl rfl rfl ?_ | refine to_ldea rfl (by assumption) rfl rfl ?_
  refine to_mv rfl rfl ?_
  refine to_callR rfl rfl (fun w s => r_Proof_f sh pt gd w (rdw s) (rdw s) hl ho) rfl (fun v26 lo26 w26 hlo26 hR26 => ?_)
  obtain ⟨pa26, pc26, rfl, hro26⟩ := hR26
  refine to_mv rfl rfl ?_
  refine to_ex rfl rfl rfl ?_
  refine to_ex rfl rfl rfl ?_
  refine to_as rfl rfl ?_
  refine to_as rfl rfl ?_
  refine to_nil ?_
  refine tn_code ?_
  refine t_seq ?_
  refine t_seq ?_
  refine t_reg ?_
  first | refine to_lda rfl rfl rfl ?_ | refine to_ldea rfl (by assumption) rfl rfl ?_
  refine to_call0 rfl rfl (fun w s => ref_Sheet sh pt w (rdw s) (rdw s)) rfl ?_
  refine to_fix (s := 30) (b' := true) rfl (hs) ?_
  refine to_not rfl rfl ?_
  refine to_mv rfl rfl ?_
  refine to_gt rfl rfl ?_
  first | refine to_lda rfl rfl rfl ?_ | refine to_ldea rfl (by assumption) rfl rfl ?_
  refine to_gt rfl rfl ?_
  refine to_mv rfl rfl ?_
  refine to_gt rfl rfl ?_
  refine to_call0 rfl rfl (fun w s => ref_Guard sh pt _ w (by omega)) rfl ?_
  refine to_fix (s := 35) (b' := false) rfl (hgn) ?_
  refine to_gt rfl rfl ?_
  refine to_not rfl rfl ?_
  refine to_pkF rfl rfl rfl ?_
  refine to_nil ?_
  refine tn_code ?_
  refine t_ifT rfl ?_
  refine t_seq ?_
  refine t_reg ?_
  refine to_mv rfl rfl ?_
  refine to_eql rfl rfl rfl ?_
  refine to_fix (s := 39) (b' := true) rfl (rfl) ?_
  refine to_mv rfl rfl ?_
  refine to_gt rfl rfl ?_
  refine to_mv rfl rfl ?_
  refine to_gt rfl rfl ?_
  refine to_eql rfl rfl rfl ?_
  refine to_fix (s := 42) (b' := true) rfl (rfl) ?_
  refine to_pkT rfl rfl rfl ?_
  refine to_mv rfl rfl ?_
  refine to_gt rfl rfl ?_
  refine to_mv rfl rfl ?_
  refine to_gt rfl rfl ?_
  refine to_eql rfl rfl rfl ?_
  refine to_fix (s := 46) (b' := true) rfl (rfl) ?_
  refine to_pkT rfl rfl rfl ?_
  refine to_mv rfl rfl ?_
  refine to_gt rfl rfl ?_
  refine to_mv rfl rfl ?_
  refine to_gt rfl rfl ?_
  refine to_lenS rfl rfl ?_
  refine to_gt rfl rfl ?_
  refine to_eql rfl rfl rfl ?_
  refine to_fix (s := 51) (b' := true) rfl (rfl) ?_
  refine to_pkT rfl rfl rfl ?_
  refine to_mv rfl rfl ?_
  refine to_gt rfl rfl ?_
  refine to_call0 rfl rfl (fun w s => law_known w (gl_up hg (belowH_of s))) rfl ?_
  refine to_pkT rfl rfl rfl ?_
  refine to_as rfl rfl ?_
  refine to_nil ?_
  refine tn_code ?_
  refine t_ret1 rfl rfl (res_tmp rfl) (fun w' s => ?_)
  rfl

set_option maxRecDepth 20000 in
theorem w_RoundFirsts_fTpT (sh : Sh) (pt : Pt) (gd : Int) (w : World) (hre : Ro w 0 w.heap.size pt.ea sh.errs.length pt.ec 1 (ints sh.errs)) (hrr : Ro w 0 w.heap.size pt.ra sh.rows.length pt.rc 1 (ints sh.rows)) (hsh : shortB sh = true) (hs : isSh sh = true) (k : Nat) (e : Int) (hgk : gd = (k : Int)) (he : sh.errs[k]? = some e) (i : Int) (hF : rFst sh e = (i, 0)) (X : List Int) (hP : firF sh e [] = some X) (hXl : X.length ≤ 1000) (hg : Gl w) : Calls Tryz.prog 11 #[shV sh pt, (.int .i64 gd)] w (RetV w (.bool true)) := by
  subst hgk
  have hsl := short_b hsh
  have heb := errs_b (isSh_e hs) e (List.mem_of_getElem? he)
  have hbb := isSh_b hs
  have hxe := map_get (f := intC) he
  have hke := (List.getElem?_eq_some_iff.1 he).1
  have hgt := grd_ok he
  refine calls_T0 (av := [_, _]) Tryz.func11 rfl rfl rfl ?_
  refine t_seq ?_
  refine t_reg ?_
  refine to_box rfl rfl (fun b2 => ?_)
  refine to_as rfl rfl ?_
  refine to_nil ?_
  refine tn_code ?_
  refine t_seq ?_
  refine t_seq ?_
  refine t_reg ?_
  first | refine to_lda rfl rfl rfl ?_ | refine to_ldea rfl (by assumption) rfl rfl ?_
  refine to_call0 rfl rfl (fun w s => c_short sh pt w) rfl ?_
  refine to_fix (s := 14) (b' := true) rfl (hsh) ?_
  refine to_not rfl rfl ?_
  refine to_nil ?_
  refine tn_code ?_
  refine t_ifF rfl ?_
  refine t_skip ?_
  refine tn_code ?_
  refine t_seq ?_
  refine t_reg ?_
  first | refine to_lda rfl rfl rfl ?_ | refine to_ldea rfl (by assumption) rfl rfl ?_
  refine to_mv rfl rfl ?_
  refine to_call0 rfl rfl (fun w s => c_First (rdw s) (rdw s) hs he hF) rfl ?_
  refine to_mv rfl rfl ?_
  refine to_ex rfl rfl rfl ?_
  refine to_ex rfl rfl rfl ?_
  refine to_as rfl rfl ?_
  refine to_as rfl rfl ?_
  refine to_nil ?_
  refine tn_code ?_
  refine t_seq ?_
  refine t_reg ?_
  first | refine to_lda rfl rfl rfl ?_ | refine to_ldea rfl (by assumption) rfl rfl ?_
  refine to_mv rfl rfl ?_
  refine to_callR rfl rfl (fun w s => c_Proof (rdw s) (rdw s) hs he (prf_some hP)) rfl (fun v26 lo26 w26 hlo26 hR26 => ?_)
  obtain ⟨pa26, pc26, rfl, hro26⟩ := hR26
  refine to_mv rfl rfl ?_
  refine to_ex rfl rfl rfl ?_
  refine to_ex rfl rfl rfl ?_
  refine to_as rfl rfl ?_
  refine to_as rfl rfl ?_
  refine to_nil ?_
  refine tn_code ?_
  refine t_seq ?_
  refine t_seq ?_
  refine t_reg ?_
  first | refine to_lda rfl rfl rfl ?_ | refine to_ldea rfl (by assumption) rfl rfl ?_
  refine to_call0 rfl rfl (fun w s => ref_Sheet sh pt w (rdw s) (rdw s)) rfl ?_
  refine to_fix (s := 30) (b' := true) rfl (hs) ?_
  refine to_not rfl rfl ?_
  refine to_mv rfl rfl ?_
  refine to_gt rfl rfl ?_
  first | refine to_lda rfl rfl rfl ?_ | refine to_ldea rfl (by assumption) rfl rfl ?_
  refine to_gt rfl rfl ?_
  refine to_mv rfl rfl ?_
  refine to_gt rfl rfl ?_
  refine to_call0 rfl rfl (fun w s => ref_Guard sh pt _ w (by omega)) rfl ?_
  refine to_fix (s := 35) (b' := true) rfl (hgt) ?_
  refine to_gt rfl rfl ?_
  refine to_not rfl rfl ?_
  refine to_pkF rfl rfl rfl ?_
  refine to_nil ?_
  refine tn_code ?_
  refine t_ifF rfl ?_
  refine t_skip ?_
  refine tn_code ?_
  refine t_seq ?_
  refine t_reg ?_
  first | refine to_lda rfl rfl rfl ?_ | refine to_ldea rfl (by assumption) rfl rfl ?_
  refine to_mv rfl rfl ?_
  refine to_call0 rfl rfl (fun w s => c_refFirst_t (rdw s) (rdw s) hs he hF) rfl ?_
  refine to_mv rfl rfl ?_
  refine to_ex rfl rfl rfl ?_
  refine to_ex rfl rfl rfl ?_
  refine to_fix (s := 61) (b' := true) rfl (rfl) ?_
  refine to_as rfl rfl ?_
  refine to_as rfl rfl ?_
  refine to_nil ?_
  refine tn_code ?_
  refine t_seq ?_
  refine t_seq ?_
  refine t_reg ?_
  refine to_mv rfl rfl ?_
  refine to_not rfl rfl ?_
  refine to_mv rfl rfl ?_
  refine to_gf rfl rfl rfl rfl ?_
  refine to_gf rfl rfl rfl rfl ?_
  refine to_gf rfl rfl rfl rfl ?_
  refine to_gf rfl rfl rfl rfl ?_
  refine to_gf rfl rfl rfl rfl ?_
  refine to_gf rfl rfl rfl rfl ?_
  refine to_pkF rfl rfl rfl ?_
  refine to_mv rfl rfl ?_
  refine to_gt rfl rfl ?_
  refine to_mv rfl rfl ?_
  refine to_gt rfl rfl ?_
  refine to_mv rfl rfl ?_
  refine to_gt rfl rfl ?_
  refine to_mv rfl rfl ?_
  refine to_gt rfl rfl ?_
  refine to_neq rfl rfl rfl ?_
  refine to_fix (s := 76) (b' := false) rfl (rfl) ?_
  refine to_gt rfl rfl ?_
  refine to_mv rfl rfl ?_
  refine to_gt rfl rfl ?_
  refine to_mv rfl rfl ?_
  refine to_gt rfl rfl ?_
  refine to_mv rfl rfl ?_
  refine to_gt rfl rfl ?_
  refine to_neq rfl rfl rfl ?_
  refine to_fix (s := 80) (b' := false) rfl (by simp) ?_
  refine to_gt rfl rfl ?_
  refine to_pkF rfl rfl rfl ?_
  refine to_gt rfl rfl ?_
  refine to_pkT rfl rfl rfl ?_
  refine to_pkF rfl rfl rfl ?_
  refine to_nil ?_
  refine tn_code ?_
  refine t_ifF rfl ?_
  refine t_skip ?_
  refine tn_code ?_
  refine t_seq ?_
  refine t_reg ?_
  first | refine to_lda rfl rfl rfl ?_ | refine to_ldea rfl (by assumption) rfl rfl ?_
  refine to_mv rfl rfl ?_
  refine to_callR rfl rfl (fun w s => ref_Proof_s sh pt k e X w (rdw s) (rdw s) hs he hP) rfl (fun v87 lo87 w87 hlo87 hR87 => ?_)
  obtain ⟨pa87, pc87, rfl, hro87⟩ := hR87
  refine to_mv rfl rfl ?_
  refine to_ex rfl rfl rfl ?_
  refine to_ex rfl rfl rfl ?_
  refine to_fix (s := 89) (b' := true) rfl (rfl) ?_
  refine to_as rfl rfl ?_
  refine to_as rfl rfl ?_
  refine to_nil ?_
  refine tn_code ?_
  refine t_seq ?_
  refine t_seq ?_
  refine t_reg ?_
  refine to_mv rfl rfl ?_
  refine to_not rfl rfl ?_
  refine to_nil ?_
  refine tn_code ?_
  refine t_ifF rfl ?_
  refine t_skip ?_
  refine tn_code ?_
  refine t_seq ?_
  refine t_reg ?_
  refine to_mv rfl rfl ?_
  refine to_eql rfl rfl rfl ?_
  refine to_fix (s := 103) (b' := true) rfl (rfl) ?_
  refine to_mv rfl rfl ?_
  refine to_gt rfl rfl ?_
  refine to_mv rfl rfl ?_
  refine to_gt rfl rfl ?_
  refine to_mv rfl rfl ?_
  refine to_gt rfl rfl ?_
  refine to_call0 rfl rfl (fun w s => ref_Same X X _ _ _ _ w (rdw s) (rdw s) hXl) rfl ?_
  refine to_fix (s := 107) (b' := true) rfl (decide_eq_true rfl) ?_
  refine to_pkT rfl rfl rfl ?_
  refine to_mv rfl rfl ?_
  refine to_gt rfl rfl ?_
  refine to_call0 rfl rfl (fun w s => law_known w (gl_up hg (belowH_of s))) rfl ?_
  refine to_pkT rfl rfl rfl ?_
  refine to_as rfl rfl ?_
  refine to_nil ?_
  refine tn_code ?_
  refine t_ret1 rfl rfl (res_tmp rfl) (fun w' s => ?_)
  rfl

set_option maxRecDepth 20000 in
theorem w_RoundFirsts_fTpF (sh : Sh) (pt : Pt) (gd : Int) (w : World) (hre : Ro w 0 w.heap.size pt.ea sh.errs.length pt.ec 1 (ints sh.errs)) (hrr : Ro w 0 w.heap.size pt.ra sh.rows.length pt.rc 1 (ints sh.rows)) (hsh : shortB sh = true) (hs : isSh sh = true) (k : Nat) (e : Int) (hgk : gd = (k : Int)) (he : sh.errs[k]? = some e) (i : Int) (hF : rFst sh e = (i, 0)) (hP : firF sh e [] = none) (hg : Gl w) : Calls Tryz.prog 11 #[shV sh pt, (.int .i64 gd)] w (RetV w (.bool true)) := by
  subst hgk
  have hsl := short_b hsh
  have heb := errs_b (isSh_e hs) e (List.mem_of_getElem? he)
  have hbb := isSh_b hs
  have hxe := map_get (f := intC) he
  have hke := (List.getElem?_eq_some_iff.1 he).1
  have hgt := grd_ok he
  refine calls_T0 (av := [_, _]) Tryz.func11 rfl rfl rfl ?_
  refine t_seq ?_
  refine t_reg ?_
  refine to_box rfl rfl (fun b2 => ?_)
  refine to_as rfl rfl ?_
  refine to_nil ?_
  refine tn_code ?_
  refine t_seq ?_
  refine t_seq ?_
  refine t_reg ?_
  first | refine to_lda rfl rfl rfl ?_ | refine to_ldea rfl (by assumption) rfl rfl ?_
  refine to_call0 rfl rfl (fun w s => c_short sh pt w) rfl ?_
  refine to_fix (s := 14) (b' := true) rfl (hsh) ?_
  refine to_not rfl rfl ?_
  refine to_nil ?_
  refine tn_code ?_
  refine t_ifF rfl ?_
  refine t_skip ?_
  refine tn_code ?_
  refine t_seq ?_
  refine t_reg ?_
  first | refine to_lda rfl rfl rfl ?_ | refine to_ldea rfl (by assumption) rfl rfl ?_
  refine to_mv rfl rfl ?_
  refine to_call0 rfl rfl (fun w s => c_First (rdw s) (rdw s) hs he hF) rfl ?_
  refine to_mv rfl rfl ?_
  refine to_ex rfl rfl rfl ?_
  refine to_ex rfl rfl rfl ?_
  refine to_as rfl rfl ?_
  refine to_as rfl rfl ?_
  refine to_nil ?_
  refine tn_code ?_
  refine t_seq ?_
  refine t_reg ?_
  first | refine to_lda rfl rfl rfl ?_ | refine to_ldea rfl (by assumption) rfl rfl ?_
  refine to_mv rfl rfl ?_
  refine to_callR rfl rfl (fun w s => c_Proof (rdw s) (rdw s) hs he (prf_none hP)) rfl (fun v26 lo26 w26 hlo26 hR26 => ?_)
  obtain ⟨pa26, pc26, rfl, hro26⟩ := hR26
  refine to_mv rfl rfl ?_
  refine to_ex rfl rfl rfl ?_
  refine to_ex rfl rfl rfl ?_
  refine to_as rfl rfl ?_
  refine to_as rfl rfl ?_
  refine to_nil ?_
  refine tn_code ?_
  refine t_seq ?_
  refine t_seq ?_
  refine t_reg ?_
  first | refine to_lda rfl rfl rfl ?_ | refine to_ldea rfl (by assumption) rfl rfl ?_
  refine to_call0 rfl rfl (fun w s => ref_Sheet sh pt w (rdw s) (rdw s)) rfl ?_
  refine to_fix (s := 30) (b' := true) rfl (hs) ?_
  refine to_not rfl rfl ?_
  refine to_mv rfl rfl ?_
  refine to_gt rfl rfl ?_
  first | refine to_lda rfl rfl rfl ?_ | refine to_ldea rfl (by assumption) rfl rfl ?_
  refine to_gt rfl rfl ?_
  refine to_mv rfl rfl ?_
  refine to_gt rfl rfl ?_
  refine to_call0 rfl rfl (fun w s => ref_Guard sh pt _ w (by omega)) rfl ?_
  refine to_fix (s := 35) (b' := true) rfl (hgt) ?_
  refine to_gt rfl rfl ?_
  refine to_not rfl rfl ?_
  refine to_pkF rfl rfl rfl ?_
  refine to_nil ?_
  refine tn_code ?_
  refine t_ifF rfl ?_
  refine t_skip ?_
  refine tn_code ?_
  refine t_seq ?_
  refine t_reg ?_
  first | refine to_lda rfl rfl rfl ?_ | refine to_ldea rfl (by assumption) rfl rfl ?_
  refine to_mv rfl rfl ?_
  refine to_call0 rfl rfl (fun w s => c_refFirst_t (rdw s) (rdw s) hs he hF) rfl ?_
  refine to_mv rfl rfl ?_
  refine to_ex rfl rfl rfl ?_
  refine to_ex rfl rfl rfl ?_
  refine to_fix (s := 61) (b' := true) rfl (rfl) ?_
  refine to_as rfl rfl ?_
  refine to_as rfl rfl ?_
  refine to_nil ?_
  refine tn_code ?_
  refine t_seq ?_
  refine t_seq ?_
  refine t_reg ?_
  refine to_mv rfl rfl ?_
  refine to_not rfl rfl ?_
  refine to_mv rfl rfl ?_
  refine to_gf rfl rfl rfl rfl ?_
  refine to_gf rfl rfl rfl rfl ?_
  refine to_gf rfl rfl rfl rfl ?_
  refine to_gf rfl rfl rfl rfl ?_
  refine to_gf rfl rfl rfl rfl ?_
  refine to_gf rfl rfl rfl rfl ?_
  refine to_pkF rfl rfl rfl ?_
  refine to_mv rfl rfl ?_
  refine to_gt rfl rfl ?_
  refine to_mv rfl rfl ?_
  refine to_gt rfl rfl ?_
  refine to_mv rfl rfl ?_
  refine to_gt rfl rfl ?_
  refine to_mv rfl rfl ?_
  refine to_gt rfl rfl ?_
  refine to_neq rfl rfl rfl ?_
  refine to_fix (s := 76) (b' := false) rfl (rfl) ?_
  refine to_gt rfl rfl ?_
  refine to_mv rfl rfl ?_
  refine to_gt rfl rfl ?_
  refine to_mv rfl rfl ?_
  refine to_gt rfl rfl ?_
  refine to_mv rfl rfl ?_
  refine to_gt rfl rfl ?_
  refine to_neq rfl rfl rfl ?_
  refine to_fix (s := 80) (b' := false) rfl (by simp) ?_
  refine to_gt rfl rfl ?_
  refine to_pkF rfl rfl rfl ?_
  refine to_gt rfl rfl ?_
  refine to_pkT rfl rfl rfl ?_
  refine to_pkF rfl rfl rfl ?_
  refine to_nil ?_
  refine tn_code ?_
  refine t_ifF rfl ?_
  refine t_skip ?_
  refine tn_code ?_
  refine t_seq ?_
  refine t_reg ?_
  first | refine to_lda rfl rfl rfl ?_ | refine to_ldea rfl (by assumption) rfl rfl ?_
  refine to_mv rfl rfl ?_
  refine to_callR rfl rfl (fun w s => ref_Proof_n sh pt k e w (rdw s) (rdw s) hs he hP) rfl (fun v87 lo87 w87 hlo87 hR87 => ?_)
  obtain ⟨pa87, pc87, rfl, hro87⟩ := hR87
  refine to_mv rfl rfl ?_
  refine to_ex rfl rfl rfl ?_
  refine to_ex rfl rfl rfl ?_
  refine to_fix (s := 89) (b' := false) rfl (rfl) ?_
  refine to_as rfl rfl ?_
  refine to_as rfl rfl ?_
  refine to_nil ?_
  refine tn_code ?_
  refine t_seq ?_
  refine t_seq ?_
  refine t_reg ?_
  refine to_mv rfl rfl ?_
  refine to_not rfl rfl ?_
  refine to_nil ?_
  refine tn_code ?_
  refine t_ifT rfl ?_
  refine t_seq ?_
  refine t_reg ?_
  refine to_mv rfl rfl ?_
  refine to_eql rfl rfl rfl ?_
  refine to_fix (s := 93) (b' := true) rfl (rfl) ?_
  refine to_mv rfl rfl ?_
  refine to_gt rfl rfl ?_
  refine to_mv rfl rfl ?_
  refine to_gt rfl rfl ?_
  refine to_lenS rfl rfl ?_
  refine to_gt rfl rfl ?_
  refine to_eql rfl rfl rfl ?_
  refine to_fix (s := 97) (b' := true) rfl (rfl) ?_
  refine to_pkT rfl rfl rfl ?_
  refine to_mv rfl rfl ?_
  refine to_gt rfl rfl ?_
  refine to_call0 rfl rfl (fun w s => law_known w (gl_up hg (belowH_of s))) rfl ?_
  refine to_pkT rfl rfl rfl ?_
  refine to_as rfl rfl ?_
  refine to_nil ?_
  refine tn_code ?_
  refine t_ret1 rfl rfl (res_tmp rfl) (fun w' s => ?_)
  rfl

set_option maxRecDepth 20000 in
theorem w_RoundFirsts_fFpT (sh : Sh) (pt : Pt) (gd : Int) (w : World) (hre : Ro w 0 w.heap.size pt.ea sh.errs.length pt.ec 1 (ints sh.errs)) (hrr : Ro w 0 w.heap.size pt.ra sh.rows.length pt.rc 1 (ints sh.rows)) (hsh : shortB sh = true) (hs : isSh sh = true) (k : Nat) (e : Int) (hgk : gd = (k : Int)) (he : sh.errs[k]? = some e) (hF : rFst sh e = (0, 5)) (X : List Int) (hP : firF sh e [] = some X) (hXl : X.length ≤ 1000) (hg : Gl w) : Calls Tryz.prog 11 #[shV sh pt, (.int .i64 gd)] w (RetV w (.bool true)) := by
  subst hgk
  have hsl := short_b hsh
  have heb := errs_b (isSh_e hs) e (List.mem_of_getElem? he)
  have hbb := isSh_b hs
  have hxe := map_get (f := intC) he
  have hke := (List.getElem?_eq_some_iff.1 he).1
  have hgt := grd_ok he
  refine calls_T0 (av := [_, _]) Tryz.func11 rfl rfl rfl ?_
  refine t_seq ?_
  refine t_reg ?_
  refine to_box rfl rfl (fun b2 => ?_)
  refine to_as rfl rfl ?_
  refine to_nil ?_
  refine tn_code ?_
  refine t_seq ?_
  refine t_seq ?_
  refine t_reg ?_
  first | refine to_lda rfl rfl rfl ?_ | refine to_ldea rfl (by assumption) rfl rfl ?_
  refine to_call0 rfl rfl (fun w s => c_short sh pt w) rfl ?_
  refine to_fix (s := 14) (b' := true) rfl (hsh) ?_
  refine to_not rfl rfl ?_
  refine to_nil ?_
  refine tn_code ?_
  refine t_ifF rfl ?_
  refine t_skip ?_
  refine tn_code ?_
  refine t_seq ?_
  refine t_reg ?_
  first | refine to_lda rfl rfl rfl ?_ | refine to_ldea rfl (by assumption) rfl rfl ?_
  refine to_mv rfl rfl ?_
  refine to_call0 rfl rfl (fun w s => c_First (rdw s) (rdw s) hs he hF) rfl ?_
  refine to_mv rfl rfl ?_
  refine to_ex rfl rfl rfl ?_
  refine to_ex rfl rfl rfl ?_
  refine to_as rfl rfl ?_
  refine to_as rfl rfl ?_
  refine to_nil ?_
  refine tn_code ?_
  refine t_seq ?_
  refine t_reg ?_
  first | refine to_lda rfl rfl rfl ?_ | refine to_ldea rfl (by assumption) rfl rfl ?_
  refine to_mv rfl rfl ?_
  refine to_callR rfl rfl (fun w s => c_Proof (rdw s) (rdw s) hs he (prf_some hP)) rfl (fun v26 lo26 w26 hlo26 hR26 => ?_)
  obtain ⟨pa26, pc26, rfl, hro26⟩ := hR26
  refine to_mv rfl rfl ?_
  refine to_ex rfl rfl rfl ?_
  refine to_ex rfl rfl rfl ?_
  refine to_as rfl rfl ?_
  refine to_as rfl rfl ?_
  refine to_nil ?_
  refine tn_code ?_
  refine t_seq ?_
  refine t_seq ?_
  refine t_reg ?_
  first | refine to_lda rfl rfl rfl ?_ | refine to_ldea rfl (by assumption) rfl rfl ?_
  refine to_call0 rfl rfl (fun w s => ref_Sheet sh pt w (rdw s) (rdw s)) rfl ?_
  refine to_fix (s := 30) (b' := true) rfl (hs) ?_
  refine to_not rfl rfl ?_
  refine to_mv rfl rfl ?_
  refine to_gt rfl rfl ?_
  first | refine to_lda rfl rfl rfl ?_ | refine to_ldea rfl (by assumption) rfl rfl ?_
  refine to_gt rfl rfl ?_
  refine to_mv rfl rfl ?_
  refine to_gt rfl rfl ?_
  refine to_call0 rfl rfl (fun w s => ref_Guard sh pt _ w (by omega)) rfl ?_
  refine to_fix (s := 35) (b' := true) rfl (hgt) ?_
  refine to_gt rfl rfl ?_
  refine to_not rfl rfl ?_
  refine to_pkF rfl rfl rfl ?_
  refine to_nil ?_
  refine tn_code ?_
  refine t_ifF rfl ?_
  refine t_skip ?_
  refine tn_code ?_
  refine t_seq ?_
  refine t_reg ?_
  first | refine to_lda rfl rfl rfl ?_ | refine to_ldea rfl (by assumption) rfl rfl ?_
  refine to_mv rfl rfl ?_
  refine to_call0 rfl rfl (fun w s => c_refFirst_n (rdw s) (rdw s) hs he hF) rfl ?_
  refine to_mv rfl rfl ?_
  refine to_ex rfl rfl rfl ?_
  refine to_ex rfl rfl rfl ?_
  refine to_fix (s := 61) (b' := false) rfl (rfl) ?_
  refine to_as rfl rfl ?_
  refine to_as rfl rfl ?_
  refine to_nil ?_
  refine tn_code ?_
  refine t_seq ?_
  refine t_seq ?_
  refine t_reg ?_
  refine to_mv rfl rfl ?_
  refine to_not rfl rfl ?_
  refine to_mv rfl rfl ?_
  refine to_gt rfl rfl ?_
  refine to_mv rfl rfl ?_
  refine to_gt rfl rfl ?_
  refine to_neq rfl rfl rfl ?_
  refine to_fix (s := 66) (b' := false) rfl (rfl) ?_
  refine to_gt rfl rfl ?_
  refine to_mv rfl rfl ?_
  refine to_gt rfl rfl ?_
  refine to_mv rfl rfl ?_
  refine to_gt rfl rfl ?_
  refine to_neq rfl rfl rfl ?_
  refine to_fix (s := 69) (b' := false) rfl (rfl) ?_
  refine to_gt rfl rfl ?_
  refine to_pkF rfl rfl rfl ?_
  refine to_pkT rfl rfl rfl ?_
  refine to_mv rfl rfl ?_
  refine to_gt rfl rfl ?_
  refine to_mv rfl rfl ?_
  refine to_gt rfl rfl ?_
  refine to_mv rfl rfl ?_
  refine to_gf rfl rfl rfl rfl ?_
  refine to_gf rfl rfl rfl rfl ?_
  refine to_gf rfl rfl rfl rfl ?_
  refine to_gf rfl rfl rfl rfl ?_
  refine to_gf rfl rfl rfl rfl ?_
  refine to_gf rfl rfl rfl rfl ?_
  refine to_gf rfl rfl rfl rfl ?_
  refine to_gt rfl rfl ?_
  refine to_pkF rfl rfl rfl ?_
  refine to_pkF rfl rfl rfl ?_
  refine to_nil ?_
  refine tn_code ?_
  refine t_ifF rfl ?_
  refine t_skip ?_
  refine tn_code ?_
  refine t_seq ?_
  refine t_reg ?_
  first | refine to_lda rfl rfl rfl ?_ | refine to_ldea rfl (by assumption) rfl rfl ?_
  refine to_mv rfl rfl ?_
  refine to_callR rfl rfl (fun w s => ref_Proof_s sh pt k e X w (rdw s) (rdw s) hs he hP) rfl (fun v87 lo87 w87 hlo87 hR87 => ?_)
  obtain ⟨pa87, pc87, rfl, hro87⟩ := hR87
  refine to_mv rfl rfl ?_
  refine to_ex rfl rfl rfl ?_
  refine to_ex rfl rfl rfl ?_
  refine to_fix (s := 89) (b' := true) rfl (rfl) ?_
  refine to_as rfl rfl ?_
  refine to_as rfl rfl ?_
  refine to_nil ?_
  refine tn_code ?_
  refine t_seq ?_
  refine t_seq ?_
  refine t_reg ?_
  refine to_mv rfl rfl ?_
  refine to_not rfl rfl ?_
  refine to_nil ?_
  refine tn_code ?_
  refine t_ifF rfl ?_
  refine t_skip ?_
  refine tn_code ?_
  refine t_seq ?_
  refine t_reg ?_
  refine to_mv rfl rfl ?_
  refine to_eql rfl rfl rfl ?_
  refine to_fix (s := 103) (b' := true) rfl (rfl) ?_
  refine to_mv rfl rfl ?_
  refine to_gt rfl rfl ?_
  refine to_mv rfl rfl ?_
  refine to_gt rfl rfl ?_
  refine to_mv rfl rfl ?_
  refine to_gt rfl rfl ?_
  refine to_call0 rfl rfl (fun w s => ref_Same X X _ _ _ _ w (rdw s) (rdw s) hXl) rfl ?_
  refine to_fix (s := 107) (b' := true) rfl (decide_eq_true rfl) ?_
  refine to_pkT rfl rfl rfl ?_
  refine to_mv rfl rfl ?_
  refine to_gt rfl rfl ?_
  refine to_call0 rfl rfl (fun w s => law_known w (gl_up hg (belowH_of s))) rfl ?_
  refine to_pkT rfl rfl rfl ?_
  refine to_as rfl rfl ?_
  refine to_nil ?_
  refine tn_code ?_
  refine t_ret1 rfl rfl (res_tmp rfl) (fun w' s => ?_)
  rfl

set_option maxRecDepth 20000 in
theorem w_RoundFirsts_fFpF (sh : Sh) (pt : Pt) (gd : Int) (w : World) (hre : Ro w 0 w.heap.size pt.ea sh.errs.length pt.ec 1 (ints sh.errs)) (hrr : Ro w 0 w.heap.size pt.ra sh.rows.length pt.rc 1 (ints sh.rows)) (hsh : shortB sh = true) (hs : isSh sh = true) (k : Nat) (e : Int) (hgk : gd = (k : Int)) (he : sh.errs[k]? = some e) (hF : rFst sh e = (0, 5)) (hP : firF sh e [] = none) (hg : Gl w) : Calls Tryz.prog 11 #[shV sh pt, (.int .i64 gd)] w (RetV w (.bool true)) := by
  subst hgk
  have hsl := short_b hsh
  have heb := errs_b (isSh_e hs) e (List.mem_of_getElem? he)
  have hbb := isSh_b hs
  have hxe := map_get (f := intC) he
  have hke := (List.getElem?_eq_some_iff.1 he).1
  have hgt := grd_ok he
  refine calls_T0 (av := [_, _]) Tryz.func11 rfl rfl rfl ?_
  refine t_seq ?_
  refine t_reg ?_
  refine to_box rfl rfl (fun b2 => ?_)
  refine to_as rfl rfl ?_
  refine to_nil ?_
  refine tn_code ?_
  refine t_seq ?_
  refine t_seq ?_
  refine t_reg ?_
  first | refine to_lda rfl rfl rfl ?_ | refine to_ldea rfl (by assumption) rfl rfl ?_
  refine to_call0 rfl rfl (fun w s => c_short sh pt w) rfl ?_
  refine to_fix (s := 14) (b' := true) rfl (hsh) ?_
  refine to_not rfl rfl ?_
  refine to_nil ?_
  refine tn_code ?_
  refine t_ifF rfl ?_
  refine t_skip ?_
  refine tn_code ?_
  refine t_seq ?_
  refine t_reg ?_
  first | refine to_lda rfl rfl rfl ?_ | refine to_ldea rfl (by assumption) rfl rfl ?_
  refine to_mv rfl rfl ?_
  refine to_call0 rfl rfl (fun w s => c_First (rdw s) (rdw s) hs he hF) rfl ?_
  refine to_mv rfl rfl ?_
  refine to_ex rfl rfl rfl ?_
  refine to_ex rfl rfl rfl ?_
  refine to_as rfl rfl ?_
  refine to_as rfl rfl ?_
  refine to_nil ?_
  refine tn_code ?_
  refine t_seq ?_
  refine t_reg ?_
  first | refine to_lda rfl rfl rfl ?_ | refine to_ldea rfl (by assumption) rfl rfl ?_
  refine to_mv rfl rfl ?_
  refine to_callR rfl rfl (fun w s => c_Proof (rdw s) (rdw s) hs he (prf_none hP)) rfl (fun v26 lo26 w26 hlo26 hR26 => ?_)
  obtain ⟨pa26, pc26, rfl, hro26⟩ := hR26
  refine to_mv rfl rfl ?_
  refine to_ex rfl rfl rfl ?_
  refine to_ex rfl rfl rfl ?_
  refine to_as rfl rfl ?_
  refine to_as rfl rfl ?_
  refine to_nil ?_
  refine tn_code ?_
  refine t_seq ?_
  refine t_seq ?_
  refine t_reg ?_
  first | refine to_lda rfl rfl rfl ?_ | refine to_ldea rfl (by assumption) rfl rfl ?_
  refine to_call0 rfl rfl (fun w s => ref_Sheet sh pt w (rdw s) (rdw s)) rfl ?_
  refine to_fix (s := 30) (b' := true) rfl (hs) ?_
  refine to_not rfl rfl ?_
  refine to_mv rfl rfl ?_
  refine to_gt rfl rfl ?_
  first | refine to_lda rfl rfl rfl ?_ | refine to_ldea rfl (by assumption) rfl rfl ?_
  refine to_gt rfl rfl ?_
  refine to_mv rfl rfl ?_
  refine to_gt rfl rfl ?_
  refine to_call0 rfl rfl (fun w s => ref_Guard sh pt _ w (by omega)) rfl ?_
  refine to_fix (s := 35) (b' := true) rfl (hgt) ?_
  refine to_gt rfl rfl ?_
  refine to_not rfl rfl ?_
  refine to_pkF rfl rfl rfl ?_
  refine to_nil ?_
  refine tn_code ?_
  refine t_ifF rfl ?_
  refine t_skip ?_
  refine tn_code ?_
  refine t_seq ?_
  refine t_reg ?_
  first | refine to_lda rfl rfl rfl ?_ | refine to_ldea rfl (by assumption) rfl rfl ?_
  refine to_mv rfl rfl ?_
  refine to_call0 rfl rfl (fun w s => c_refFirst_n (rdw s) (rdw s) hs he hF) rfl ?_
  refine to_mv rfl rfl ?_
  refine to_ex rfl rfl rfl ?_
  refine to_ex rfl rfl rfl ?_
  refine to_fix (s := 61) (b' := false) rfl (rfl) ?_
  refine to_as rfl rfl ?_
  refine to_as rfl rfl ?_
  refine to_nil ?_
  refine tn_code ?_
  refine t_seq ?_
  refine t_seq ?_
  refine t_reg ?_
  refine to_mv rfl rfl ?_
  refine to_not rfl rfl ?_
  refine to_mv rfl rfl ?_
  refine to_gt rfl rfl ?_
  refine to_mv rfl rfl ?_
  refine to_gt rfl rfl ?_
  refine to_neq rfl rfl rfl ?_
  refine to_fix (s := 66) (b' := false) rfl (rfl) ?_
  refine to_gt rfl rfl ?_
  refine to_mv rfl rfl ?_
  refine to_gt rfl rfl ?_
  refine to_mv rfl rfl ?_
  refine to_gt rfl rfl ?_
  refine to_neq rfl rfl rfl ?_
  refine to_fix (s := 69) (b' := false) rfl (rfl) ?_
  refine to_gt rfl rfl ?_
  refine to_pkF rfl rfl rfl ?_
  refine to_pkT rfl rfl rfl ?_
  refine to_mv rfl rfl ?_
  refine to_gt rfl rfl ?_
  refine to_mv rfl rfl ?_
  refine to_gt rfl rfl ?_
  refine to_mv rfl rfl ?_
  refine to_gf rfl rfl rfl rfl ?_
  refine to_gf rfl rfl rfl rfl ?_
  refine to_gf rfl rfl rfl rfl ?_
  refine to_gf rfl rfl rfl rfl ?_
  refine to_gf rfl rfl rfl rfl ?_
  refine to_gf rfl rfl rfl rfl ?_
  refine to_gf rfl rfl rfl rfl ?_
  refine to_gt rfl rfl ?_
  refine to_pkF rfl rfl rfl ?_
  refine to_pkF rfl rfl rfl ?_
  refine to_nil ?_
  refine tn_code ?_
  refine t_ifF rfl ?_
  refine t_skip ?_
  refine tn_code ?_
  refine t_seq ?_
  refine t_reg ?_
  first | refine to_lda rfl rfl rfl ?_ | refine to_ldea rfl (by assumption) rfl rfl ?_
  refine to_mv rfl rfl ?_
  refine to_callR rfl rfl (fun w s => ref_Proof_n sh pt k e w (rdw s) (rdw s) hs he hP) rfl (fun v87 lo87 w87 hlo87 hR87 => ?_)
  obtain ⟨pa87, pc87, rfl, hro87⟩ := hR87
  refine to_mv rfl rfl ?_
  refine to_ex rfl rfl rfl ?_
  refine to_ex rfl rfl rfl ?_
  refine to_fix (s := 89) (b' := false) rfl (rfl) ?_
  refine to_as rfl rfl ?_
  refine to_as rfl rfl ?_
  refine to_nil ?_
  refine tn_code ?_
  refine t_seq ?_
  refine t_seq ?_
  refine t_reg ?_
  refine to_mv rfl rfl ?_
  refine to_not rfl rfl ?_
  refine to_nil ?_
  refine tn_code ?_
  refine t_ifT rfl ?_
  refine t_seq ?_
  refine t_reg ?_
  refine to_mv rfl rfl ?_
  refine to_eql rfl rfl rfl ?_
  refine to_fix (s := 93) (b' := true) rfl (rfl) ?_
  refine to_mv rfl rfl ?_
  refine to_gt rfl rfl ?_
  refine to_mv rfl rfl ?_
  refine to_gt rfl rfl ?_
  refine to_lenS rfl rfl ?_
  refine to_gt rfl rfl ?_
  refine to_eql rfl rfl rfl ?_
  refine to_fix (s := 97) (b' := true) rfl (rfl) ?_
  refine to_pkT rfl rfl rfl ?_
  refine to_mv rfl rfl ?_
  refine to_gt rfl rfl ?_
  refine to_call0 rfl rfl (fun w s => law_known w (gl_up hg (belowH_of s))) rfl ?_
  refine to_pkT rfl rfl rfl ?_
  refine to_as rfl rfl ?_
  refine to_nil ?_
  refine tn_code ?_
  refine t_ret1 rfl rfl (res_tmp rfl) (fun w' s => ?_)
  rfl

theorem w_RoundFirsts (sh : Sh) (pt : Pt) (gd : Int) (w : World) (hre : Ro w 0 w.heap.size pt.ea sh.errs.length pt.ec 1 (ints sh.errs)) (hrr : Ro w 0 w.heap.size pt.ra sh.rows.length pt.rc 1 (ints sh.rows)) (hg : Gl w) : Calls Tryz.prog 11 #[shV sh pt, .int .i64 gd] w (RetV w (.bool true)) := by
  rcases bool_tf (shortB sh) with hsh | hsh
  · rcases bool_tf (isSh sh) with hs | hs
    · rcases bool_tf (inB gd 0 (sh.errs.length - 1)) with hgn | hgn
      · obtain ⟨k, e, hk, he⟩ := grd_ex hgn
        have heb := errs_b (isSh_e hs) e (List.mem_of_getElem? he)
        have hbb := isSh_b hs
        have hF : (∃ i : Int, rFst sh e = (i, 0)) ∨ rFst sh e = (0, 5) := by
          rcases rFst_cases sh e with ⟨i, _, h, _⟩ | ⟨h, _⟩
          · exact .inl ⟨i, h⟩
          · exact .inr h
        cases hP : firF sh e [] with
        | none =>
          rcases hF with ⟨i, hF⟩ | hF
          · exact w_RoundFirsts_fTpF sh pt gd w hre hrr hsh hs k e hk he i hF hP hg
          · exact w_RoundFirsts_fFpF sh pt gd w hre hrr hsh hs k e hk he hF hP hg
        | some X =>
          have hXl : X.length ≤ 1000 := by
            have := truK_len (fir_some heb.1 hP).1
            omega
          rcases hF with ⟨i, hF⟩ | hF
          · exact w_RoundFirsts_fTpT sh pt gd w hre hrr hsh hs k e hk he i hF X hP hXl hg
          · exact w_RoundFirsts_fFpT sh pt gd w hre hrr hsh hs k e hk he hF X hP hXl hg
      · exact w_RoundFirsts_nG sh pt gd w hre hrr hsh hs hgn hg
    · exact w_RoundFirsts_nS sh pt gd w hre hrr hsh hs hg
  · exact w_RoundFirsts_sF sh pt gd w hre hrr hsh hg

end Go.Proofs


namespace Go.Proofs.YtebellbkmioadaaGreatDoor
open Go Go.Sx Go.RowKit Go.WideShapes Go.ChangeShapes

section
variable {H : Type} {enc : TypeId × Value → H}
set_option maxRecDepth 100000 in
theorem roundFirsts_law (W : World) (base : Nat) (args : Array Value) (ds : List (DataW H)) (p : List MemPlace) (hval : ∀ (j : Nat) t v, Tryz.f11.params[j]? = some t → args[j]? = some v → Value.okWide Tryz.prog W .any base t v)
    (hA : DataW.TrodAll enc Tryz.prog W 0 (fun _ => true) true Tryz.f11.params.toList args.toList ds p) (hg : Gl W) : Calls Tryz.prog 11 args W (RetV W (.bool true)) := by
  obtain ⟨l⟩ := args
  rw [Tryz.params11] at hA hval
  obtain ⟨v0, l0, d0, e0, p0, q0, hl0, rfl, h0, hA0⟩ := trodAll_cons hA
  have hl0' : l = v0 :: l0 := hl0
  subst hl0'
  obtain ⟨v1, l1, d1, e1, p1, q1, hl1, rfl, h1, hA1⟩ := trodAll_cons hA0
  subst hl1
  obtain rfl := trodAll_nil hA1
  obtain ⟨sh0, pt0, rfl, hre0, hrr0⟩ := open_sh (hval 0 33 v0 rfl rfl) h0
  obtain ⟨n1, rfl, _⟩ := open_i u3 (hval 1 3 v1 rfl rfl) h1
  exact w_RoundFirsts sh0 pt0 n1 W hre0 hrr0 hg
end

set_option maxRecDepth 100000 in
theorem roundFirsts_lifted (os : Os) (started : os.Started) (H : Type) (enc : TypeId × Value → H) :
    ReturnsInHanded {} Tryz.checked os 11 .any (fun w args => (Rows.roundFirstsSpec.pre enc Tryz.prog Tryz.f11 [] false w args ∧ laidMetH Tryz.prog laidL w) ∧ sizedMet enc Tryz.prog Tryz.f11 (OpenSpec.ofChange Rows.roundFirstsSpec) false w args)
      (Rows.roundFirstsSpec.post enc Tryz.prog Tryz.f11 false true false false) :=
  law_lifted started (by kernel_rfl) Tryz.func11 rfl rfl (by kernel_rfl) (fun ds h => by
      match ds, h with
      | [_, _], _ => rfl)
    (ChangeSpec.witness_shaped (enc := enc) (C := Tryz.checked) (os := os) (X := fun w _ => laidMetH Tryz.prog laidL w) false (World.laidAll Tryz.prog os laidL) #[.agg #[.int .i64 0, .int .i64 0, .slice none 0 0, .slice none 0 0], .int .i64 0] 8 (World.laidAll_os _ _ _)
      (World.shaped_of_ZipB (by kernel_rfl) (by kernel_rfl)) (by kernel_rfl) (by kernel_rfl) (by kernel_rfl)
      (by rw [MakeChecks.laidMetH_plain _ _ _ (by kernel_rfl)]; exact laidMet_laidAll _ (by kernel_rfl) (by kernel_rfl)))
    (fun W base args ds p hval hA hg => roundFirsts_law W base args ds p hval hA hg)

theorem roundFirsts_holds : Rows.RoundFirstsSaid :=
  OpenClaim.holds_of_wide 11 Tryz.f11 rfl rfl rfl rfl rfl rfl rfl ⟨rfl, rfl, rfl, rfl, rfl⟩ rfl rfl rfl rfl rfl (by kernel_rfl) Tryz.func11 (by kernel_rfl)
    (of_decide_eq_true (by kernel_rfl)) (by unfold Func.isWrapper; first | (rw [if_pos (by decide +kernel)]; kernel_rfl) | (rw [if_neg (by decide +kernel)]; exact ⟨rfl, rfl⟩))
    (fun os started H enc _ => roundFirsts_lifted os started H enc)

theorem roundFirsts_card : Rows.RoundFirstsCardSaid :=
  Claim7.holds_tied_plain_at .later [] [.data, .data, .data, .data, .pinned] true (true, "96da020e9171284ac76ac3c82595ce7ceccbab9aed8a1f73712d8b3a4229c7e5") true
    roundFirsts_holds (fun _ h => by cases h) (by kernel_rfl) (fun _ h => by cases h) roundFirsts_row_tie rfl ⟨rfl, rfl⟩ (by kernel_rfl) rfl
    (fun f fn hf hfn => by
      obtain rfl : f = 11 := Option.some.inj ((show Tryz.prog.funcNamed "ephemerist/ephemeristlaw04.RoundFirsts" = some 11 by kernel_rfl).symm.trans hf) |>.symm
      obtain rfl : fn = Tryz.f11 := (Option.some.inj (Tryz.func11.symm.trans hfn)).symm
      exact ⟨by kernel_rfl, fun j t ht => by
        rw [Tryz.params11] at ht
        have hm : t ∈ [33, 3] := by simpa using Array.mem_of_getElem? ht
        have hall : ([33, 3].all fun u => !Tryz.prog.wantsStandIn u) = true := by kernel_rfl
        exact (show Tryz.prog.wantsStandIn t = false by simpa using List.all_eq_true.1 hall t hm)⟩)
    (by kernel_rfl)
end Go.Proofs.YtebellbkmioadaaGreatDoor

