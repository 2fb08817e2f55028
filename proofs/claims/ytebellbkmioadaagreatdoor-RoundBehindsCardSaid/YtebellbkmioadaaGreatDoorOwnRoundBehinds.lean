/- RoundBehinds: for every input the law returns true, and each argument reads behind the call as it read before. Conditions: the package-level variables that the row lists hold what the program's text lays (tied by the card). -/
import Derived.Test.YtebellbkmioadaaGreatDoorOwnC
import Derived.Test.YtebellbkmioadaaGreatDoorOwnE
import Derived.Test.YtebellbkmioadaaGreatDoorOwnF
import Derived.LaidOnce
import Derived.SevenTiedAt
import Derived.Test.YtebellbkmioadaaGreatDoorTie
import Derived.Test.YtebellbkmioadaaGreatDoorCards
set_option linter.unusedVariables false
set_option linter.unusedSimpArgs false
namespace Go.Proofs
open Go Go.Sx

/-! # Plain laws of round: rounding -/

/-! ## Numbers behind a figure -/

theorem fig_mono {sh : Sh} {v w : Int} (hs : isSh sh = true) (h : v ≤ w) : fig sh v ≤ fig sh w := toF_mono (isSh_b hs).1.1 h
/-! ## Lists that lie on a map from one place on -/

end Go.Proofs


namespace Go.Proofs
open Go Go.Sx

/-! # Plain laws of round: what is sure -/

/-! ## More guard figures -/

/-! ## Totals of truths -/

/-! ## The other sign -/

end Go.Proofs


namespace Go.Proofs
open Go Go.Sx

/-! # Plain laws of round: totals that fail -/

theorem rng_pair : ∀ (n : Nat) (lo : Int), (rngN lo n).Pairwise (· < ·)
  | 0, _ => List.Pairwise.nil
  | n + 1, lo => List.Pairwise.cons (fun x hx => by have := mem_rngN.1 hx; omega) (rng_pair n (lo + 1))
/-! ## What is behind figures -/

/-- A sum of one number of each list. -/
def IsSum : List (List Int) → Int → Prop
  | [], y => y = 0
  | l :: ls, y => ∃ n ∈ l, IsSum ls (y - n)
theorem isSum_snoc : ∀ {ls : List (List Int)} {l : List Int} {y : Int}, IsSum (ls ++ [l]) y ↔ ∃ n ∈ l, IsSum ls (y - n)
  | [], l, y => by simp [IsSum]
  | a :: ls, l, y => by
    simp only [List.cons_append, IsSum, isSum_snoc (ls := ls)]
    constructor
    · rintro ⟨m, hm, n, hn, h⟩
      exact ⟨n, hn, m, hm, by rwa [show y - n - m = y - m - n by omega]⟩
    · rintro ⟨n, hn, m, hm, h⟩
      exact ⟨m, hm, n, hn, by rwa [show y - m - n = y - n - m by omega]⟩
/-- The first lists but one. -/
def skipK (ls : List (List Int)) (but : Nat) : Nat → List (List Int)
  | 0 => []
  | i + 1 => if i = but then skipK ls but i else skipK ls but i ++ [ls.getD i []]
theorem skip_t (ls : List (List Int)) (but : Nat) : skipK ls but (but + 1) = skipK ls but but := by simp [skipK]
theorem skip_f {ls : List (List Int)} {but i : Nat} {l : List Int} (h : ¬ i = but) (hl : ls[i]? = some l) : skipK ls but (i + 1) = skipK ls but i ++ [l] := by simp [skipK, h, hl, List.getD]
theorem sumI_le2 : ∀ {ps : List (List Int × Sp)}, (∀ q ∈ ps, q.2.1 ≤ q.2.2) → sumI (ps.map (·.2.1)) ≤ sumI (ps.map (·.2.2))
  | [], _ => Int.le_refl _
  | q :: ps, h => by
    have ih := sumI_le2 (fun z hz => h z (List.mem_cons_of_mem _ hz))
    have h1 := h q (List.mem_cons_self ..)
    simp only [List.map_cons, sumI_cons]; omega
/-- Lists that are ranges have all sums between. -/
theorem isSum_rng {lsR : List (List Int × Sp)} : (∀ p ∈ lsR, p.2.1 ≤ p.2.2 ∧ ∀ n, n ∈ p.1 ↔ p.2.1 ≤ n ∧ n ≤ p.2.2) → ∀ y, IsSum (lsR.map (·.1)) y ↔ sumI (lsR.map (·.2.1)) ≤ y ∧ y ≤ sumI (lsR.map (·.2.2)) := by
  induction lsR with
  | nil => intro _ y; simp [IsSum, sumI]; omega
  | cons p ps ih =>
    intro h y
    have h1 := h p (List.mem_cons_self ..)
    have ih := ih (fun q hq => h q (List.mem_cons_of_mem _ hq))
    have hle := sumI_le2 (fun q hq => (h q (List.mem_cons_of_mem _ hq)).1)
    simp only [List.map_cons, IsSum, sumI_cons]
    constructor
    · rintro ⟨n, hn, h2⟩
      have := (h1.2 n).1 hn
      have := (ih _).1 h2
      omega
    · intro h2
      by_cases hc : y - p.2.2 ≤ sumI (ps.map (·.2.1))
      · exact ⟨y - sumI (ps.map (·.2.1)), (h1.2 _).2 (by omega), (ih _).2 (by omega)⟩
      · exact ⟨p.2.2, (h1.2 _).2 (by omega), (ih _).2 (by omega)⟩
/-- The numbers of a row with its figure: a range. -/
theorem prn_rng {sh : Sh} {e r fg : Int} (hs : isSh sh = true) (he : 0 ≤ e) (h : prnE sh e r fg ≠ []) : ((endsI (prnE sh e r fg)).getD (0, 0)).1 ≤ ((endsI (prnE sh e r fg)).getD (0, 0)).2 ∧ ∀ n, n ∈ prnE sh e r fg ↔ ((endsI (prnE sh e r fg)).getD (0, 0)).1 ≤ n ∧ n ≤ ((endsI (prnE sh e r fg)).getD (0, 0)).2 := by
  have hE := ends_ne h
  generalize (endsI (prnE sh e r fg)).getD (0, 0) = z at hE
  have hm : ∀ n, n ∈ prnE sh e r fg ↔ (r - e ≤ n ∧ n ≤ r + e) ∧ fig sh n = fg := fun n => by
    rw [prnE, List.mem_filter, mem_exL he]; simp
  have h1 := (hm _).1 hE.1
  have h2 := (hm _).1 hE.2.1
  refine ⟨(hE.2.2 _ hE.1).2, fun n => ⟨fun hn => hE.2.2 n hn, fun hn => (hm n).2 ⟨by omega, ?_⟩⟩⟩
  have h3 := fig_mono hs hn.1
  have h4 := fig_mono hs hn.2
  omega
theorem tot_rng {sh : Sh} {lo total : Int} {N : Nat} (hs : isSh sh = true) (h : totL sh lo total N ≠ []) : ∀ n, (lo ≤ n ∧ n < lo + N ∧ fig sh n = total) ↔ ((endsI (totL sh lo total N)).getD (0, 0)).1 ≤ n ∧ n ≤ ((endsI (totL sh lo total N)).getD (0, 0)).2 := by
  have hE := ends_ne h
  generalize (endsI (totL sh lo total N)).getD (0, 0) = z at hE
  have hm : ∀ n, n ∈ totL sh lo total N ↔ (lo ≤ n ∧ n < lo + N) ∧ fig sh n = total := fun n => by
    rw [totL, List.mem_filter, mem_rngN]; simp
  have h1 := (hm _).1 hE.1
  have h2 := (hm _).1 hE.2.1
  refine fun n => ⟨fun hn => hE.2.2 n ((hm n).2 ⟨⟨hn.1, hn.2.1⟩, hn.2.2⟩), fun hn => ⟨by omega, by omega, ?_⟩⟩
  have h3 := fig_mono hs hn.1
  have h4 := fig_mono hs hn.2
  omega
/-- The rows' lists. -/
def prnA (sh : Sh) (e : Int) (fs : List Int) : Nat → List (List Int)
  | 0 => []
  | j + 1 => prnA sh e fs j ++ [prnE sh e (sh.rows.getD j 0) (fs.getD j 0)]
theorem prnA_len (sh : Sh) (e : Int) (fs : List Int) : ∀ j, (prnA sh e fs j).length = j
  | 0 => rfl
  | j + 1 => by rw [prnA, List.length_append, prnA_len sh e fs j]; rfl
theorem prnA_get {sh : Sh} {e : Int} {fs : List Int} : ∀ {j k : Nat}, k < j → (prnA sh e fs j)[k]? = some (prnE sh e (sh.rows.getD k 0) (fs.getD k 0))
  | 0, k, h => absurd h (Nat.not_lt_zero _)
  | j + 1, k, h => by
    rw [prnA]
    by_cases hk : k = j
    · subst hk
      rw [List.getElem?_append_right (by rw [prnA_len]; exact Nat.le_refl _), prnA_len]; simp
    · rw [List.getElem?_append_left (by rw [prnA_len]; omega)]
      exact prnA_get (by omega)
/-- Can a number be behind a row? -/
def canB (sh : Sh) (ls : List (List Int)) (i : Nat) (total x : Int) : Prop := ∃ y, IsSum (skipK ls i ls.length) y ∧ fig sh (x + y) = total
theorem isSum_nil {ls : List (List Int)} {y : Int} (h : [] ∈ ls) : ¬ IsSum ls y := by
  induction ls generalizing y with
  | nil => simp at h
  | cons l ls ih =>
    rintro ⟨n, hn, h2⟩
    rcases List.mem_cons.1 h with rfl | h
    · simp at hn
    · exact ih h h2
theorem skip_mem {ls : List (List Int)} {but j : Nat} {l : List Int} (hj : ls[j]? = some l) (hne : ¬ j = but) : ∀ i, j < i → l ∈ skipK ls but i
  | 0, h => absurd h (Nat.not_lt_zero _)
  | i + 1, h => by
    simp only [skipK]
    by_cases hji : j = i
    · subst hji
      rw [if_neg hne]; simp [List.getD, hj]
    · have := skip_mem hj hne i (by omega)
      split
      · exact this
      · exact List.mem_append_left _ this
/-- The sums of all rows but one. -/
theorem skip_rng {sh : Sh} {e : Int} {fs : List Int} (hs : isSh sh = true) (he : 0 ≤ e) (hl : fs.length = sh.rows.length) (hh : hasJ sh e fs sh.rows.length) (i : Nat) (hi : i < sh.rows.length) (x : Sp) (hx : (ownJ sh e fs sh.rows.length)[i]? = some x) (y : Int) :
    IsSum (skipK (prnA sh e fs sh.rows.length) i sh.rows.length) y ↔ loK (ownJ sh e fs sh.rows.length) sh.rows.length - x.1 ≤ y ∧ y ≤ hiK (ownJ sh e fs sh.rows.length) sh.rows.length - x.2 := by
  have key : ∀ k, k ≤ sh.rows.length → ∃ lsR : List (List Int × Sp), (∀ p ∈ lsR, p.2.1 ≤ p.2.2 ∧ ∀ n, n ∈ p.1 ↔ p.2.1 ≤ n ∧ n ≤ p.2.2) ∧ lsR.map (·.1) = skipK (prnA sh e fs sh.rows.length) i k ∧
      sumI (lsR.map (·.2.1)) = loK (ownJ sh e fs sh.rows.length) k - (if i < k then x.1 else 0) ∧ sumI (lsR.map (·.2.2)) = hiK (ownJ sh e fs sh.rows.length) k - (if i < k then x.2 else 0) := by
    intro k
    induction k with
    | zero => intro _; exact ⟨[], by simp, rfl, by simp [loK, sumI], by simp [hiK, sumI]⟩
    | succ k ih =>
      intro hk
      obtain ⟨lsR, h1, h2, h3, h4⟩ := ih (by omega)
      obtain ⟨r, hr⟩ := some_get (xs := sh.rows) (k := k) (by omega)
      obtain ⟨fg, hf⟩ := some_get (xs := fs) (k := k) (by omega)
      have hol := ownJ_len (e := e) hl sh.rows.length (by omega)
      have hown : (ownJ sh e fs sh.rows.length)[k]? = some ((endsI (prnE sh e r fg)).getD (0, 0)) := by
        have pre : ∀ j, k < j → j ≤ sh.rows.length → (ownJ sh e fs j)[k]? = some ((endsI (prnE sh e r fg)).getD (0, 0)) := by
          intro j
          induction j with
          | zero => intro h; exact absurd h (Nat.not_lt_zero _)
          | succ j ihj =>
            intro hkj hjl
            obtain ⟨r', hr'⟩ := some_get (xs := sh.rows) (k := j) (by omega)
            obtain ⟨f', hf'⟩ := some_get (xs := fs) (k := j) (by omega)
            have hlj := ownJ_len (e := e) hl j (by omega)
            rw [ownJ_succ hr' hf']
            by_cases hkj2 : k = j
            · subst hkj2
              rw [hr] at hr'; rw [hf] at hf'; cases hr'; cases hf'
              rw [List.getElem?_append_right (by omega), hlj]; simp
            · rw [List.getElem?_append_left (by omega)]
              exact ihj (by omega) (by omega)
        exact pre _ (by omega) (Nat.le_refl _)
      by_cases hki : k = i
      · subst hki
        rw [hx] at hown
        have hxe := Option.some.inj hown
        refine ⟨lsR, h1, by rw [skip_t]; exact h2, ?_, ?_⟩
        · rw [h3, loK_succ hx]; simp <;> omega
        · rw [h4, hiK_succ hx]; simp <;> omega
      · have hpg := prnA_get (sh := sh) (e := e) (fs := fs) (k := k) (j := sh.rows.length) (by omega)
        have e1 : sh.rows.getD k 0 = r := by simp [List.getD, hr]
        have e2 : fs.getD k 0 = fg := by simp [List.getD, hf]
        rw [e1, e2] at hpg
        have hp := prn_rng hs he (hh k (by omega) r fg hr hf)
        refine ⟨lsR ++ [(prnE sh e r fg, (endsI (prnE sh e r fg)).getD (0, 0))], ?_, ?_, ?_, ?_⟩
        · intro p hpm
          rcases List.mem_append.1 hpm with hpm | hpm
          · exact h1 p hpm
          · rw [List.mem_singleton.1 hpm]; exact hp
        · rw [skip_f hki hpg, List.map_append, h2]; rfl
        · rw [List.map_append, sumI_app, h3, loK_succ hown]
          simp only [List.map_cons, List.map_nil, sumI_cons, sumI_nil]
          by_cases hik : i < k
          · rw [if_pos hik, if_pos (by omega)]; omega
          · rw [if_neg hik, if_neg (by omega)]; omega
        · rw [List.map_append, sumI_app, h4, hiK_succ hown]
          simp only [List.map_cons, List.map_nil, sumI_cons, sumI_nil]
          by_cases hik : i < k
          · rw [if_pos hik, if_pos (by omega)]; omega
          · rw [if_neg hik, if_neg (by omega)]; omega
  obtain ⟨lsR, h1, h2, h3, h4⟩ := key _ (Nat.le_refl _)
  rw [← h2, isSum_rng h1, h3, h4, if_pos hi, if_pos hi]
theorem own_get {sh : Sh} {e : Int} {fs : List Int} (hl : fs.length = sh.rows.length) {k : Nat} {r fg : Int} (hr : sh.rows[k]? = some r) (hf : fs[k]? = some fg) : (ownJ sh e fs sh.rows.length)[k]? = some ((endsI (prnE sh e r fg)).getD (0, 0)) := by
  have hk := (List.getElem?_eq_some_iff.1 hr).1
  have pre : ∀ j, k < j → j ≤ sh.rows.length → (ownJ sh e fs j)[k]? = some ((endsI (prnE sh e r fg)).getD (0, 0)) := by
    intro j
    induction j with
    | zero => intro h; exact absurd h (Nat.not_lt_zero _)
    | succ j ihj =>
      intro hkj hjl
      obtain ⟨r', hr'⟩ := some_get (xs := sh.rows) (k := j) (by omega)
      obtain ⟨f', hf'⟩ := some_get (xs := fs) (k := j) (by omega)
      have hlj := ownJ_len (e := e) hl j (by omega)
      rw [ownJ_succ hr' hf']
      by_cases hkj2 : k = j
      · subst hkj2
        rw [hr] at hr'; rw [hf] at hf'; cases hr'; cases hf'
        rw [List.getElem?_append_right (by omega), hlj]; simp
      · rw [List.getElem?_append_left (by omega)]
        exact ihj (by omega) (by omega)
  exact pre _ hk (Nat.le_refl _)
/-- Low and high sums, against one row's. -/
theorem lohi {own : List Sp} (ho : ∀ x ∈ own, x.1 ≤ x.2) {i : Nat} {x : Sp} (hx : own[i]? = some x) : ∀ k, loK own k ≤ hiK own k ∧ (i < k → x.2 - x.1 ≤ hiK own k - loK own k)
  | 0 => by simp [loK, hiK, sumI]
  | k + 1 => by
    have ih := lohi ho hx k
    cases hk : own[k]? with
    | none =>
      have hle := List.getElem?_eq_none_iff.1 hk
      have hil := (List.getElem?_eq_some_iff.1 hx).1
      have e1 : loK own (k + 1) = loK own k := by rw [loK, loK, List.take_of_length_le (by omega), List.take_of_length_le (by omega)]
      have e2 : hiK own (k + 1) = hiK own k := by rw [hiK, hiK, List.take_of_length_le (by omega), List.take_of_length_le (by omega)]
      rw [e1, e2]; exact ⟨ih.1, fun _ => ih.2 (by omega)⟩
    | some v =>
      have hv := ho v (List.mem_of_getElem? hk)
      rw [loK_succ hk, hiK_succ hk]
      refine ⟨by omega, fun h => ?_⟩
      by_cases hik : i = k
      · subst hik; rw [hx] at hk; cases hk; omega
      · have := ih.2 (by omega); omega
/-- What can be behind a row: a range, by its ends. -/
theorem can_rng {sh : Sh} {e total : Int} {fs : List Int} (hs : isSh sh = true) (he : 0 ≤ e) (hl : fs.length = sh.rows.length) (hh : hasJ sh e fs sh.rows.length)
    {i : Nat} {r fg : Int} (hr : sh.rows[i]? = some r) (hf : fs[i]? = some fg) (x : Sp) (hx : x = (endsI (prnE sh e r fg)).getD (0, 0)) (low high : Int) (hlow : low = loK (ownJ sh e fs sh.rows.length) sh.rows.length) (hhigh : high = hiK (ownJ sh e fs sh.rows.length) sh.rows.length) :
    (totL sh low total (high - low + 1).toNat = [] → ∀ n ∈ prnE sh e r fg, ¬ canB sh (prnA sh e fs sh.rows.length) i total n) ∧
    (totL sh low total (high - low + 1).toNat ≠ [] → ∀ all, all = (endsI (totL sh low total (high - low + 1).toNat)).getD (0, 0) →
      (bhV low high all x).1 ≤ (bhV low high all x).2 ∧ ∀ n, (n ∈ prnE sh e r fg ∧ canB sh (prnA sh e fs sh.rows.length) i total n) ↔ (bhV low high all x).1 ≤ n ∧ n ≤ (bhV low high all x).2) := by
  have hi := (List.getElem?_eq_some_iff.1 hr).1
  have hown := own_get (e := e) hl hr hf
  rw [← hx] at hown
  have hsk := skip_rng hs he hl hh i hi x hown
  rw [← hlow, ← hhigh] at hsk
  have hp := prn_rng hs he (hh i hi r fg hr hf)
  rw [← hx] at hp
  have hob : ∀ z ∈ ownJ sh e fs sh.rows.length, z.1 ≤ z.2 := by
    intro z hz
    obtain ⟨j, hj⟩ := List.mem_iff_getElem?.1 hz
    have hjl := (List.getElem?_eq_some_iff.1 hj).1
    rw [ownJ_len (e := e) hl sh.rows.length (by omega)] at hjl
    obtain ⟨r', hr'⟩ := some_get (xs := sh.rows) (k := j) (by omega)
    obtain ⟨f', hf'⟩ := some_get (xs := fs) (k := j) (by omega)
    have h5 := own_get (e := e) hl hr' hf'
    rw [hj] at h5
    rw [Option.some.inj h5]
    exact (prn_rng hs he (hh j (by omega) r' f' hr' hf')).1
  have hlh := lohi hob hown sh.rows.length
  rw [← hlow, ← hhigh] at hlh
  have hd := hlh.2 hi
  have hlh := hlh.1
  have hcan : ∀ n, canB sh (prnA sh e fs sh.rows.length) i total n ↔ ∃ y, (low - x.1 ≤ y ∧ y ≤ high - x.2) ∧ fig sh (n + y) = total := fun n => by
    simp only [canB, prnA_len, hsk]
  constructor
  · intro hT n hn hc
    obtain ⟨y, hy, hf⟩ := (hcan n).1 hc
    have h1 := (hp.2 n).1 hn
    have : n + y ∈ totL sh low total (high - low + 1).toNat := by
      rw [totL, List.mem_filter, mem_rngN]
      exact ⟨by omega, decide_eq_true hf⟩
    rw [hT] at this; cases this
  · intro hT all hall
    have ht := tot_rng hs hT
    have hE := ends_ne hT
    rw [← hall] at ht hE
    have ha1 := totL_bd hE.1
    have ha2 := totL_bd hE.2.1
    have ha3 := (hE.2.2 _ hE.1).2
    have hbv : bhV low high all x = (max x.1 (all.1 - (high - x.2)), min x.2 (all.2 - (low - x.1))) := rfl
    rw [hbv]
    simp only
    refine ⟨by omega, fun n => ?_⟩
    rw [hp.2, hcan]
    constructor
    · rintro ⟨h1, y, h2, h3⟩
      have := (ht (n + y)).1 ⟨by omega, by omega, h3⟩
      omega
    · intro h1
      refine ⟨by omega, ?_⟩
      by_cases hc : all.1 - n ≤ low - x.1
      · exact ⟨low - x.1, by omega, ((ht _).2 (by omega)).2.2⟩
      · exact ⟨all.1 - n, by omega, ((ht _).2 (by omega)).2.2⟩
end Go.Proofs


namespace Go.Proofs
open Go Go.Sx Go.RowKit

theorem toF_q {u v q : Int} (hu : 1 ≤ u) (h1 : q * u ≤ v) (h2 : v < q * u + u) : toF u 1 v = q ∧ (toF u 2 v = if v - q * u > 0 then q + 1 else q) ∧ (toF u 3 v = if 2 * (v - q * u) ≥ u then q + 1 else q) ∧ (toF u 4 v = if 2 * (v - q * u) > u ∨ 2 * (v - q * u) = u ∧ q % 2 ≠ 0 then q + 1 else q) := by
  have e1 : v / u = q := ediv_uniq (by omega) h1 h2
  have e2 := near_eq v (u := u) (by omega)
  rw [e1] at e2
  refine ⟨?_, ?_, ?_, ?_⟩
  · simp only [toF, if_true]; exact e1
  · simp only [toF, show ¬ ((2 : Int) = 1) from by decide, if_false, if_true]
    split
    · have : (-v) / u = -(q + 1) := ediv_uniq (by omega) (by rw [Int.neg_mul, Int.add_mul, Int.one_mul]; omega) (by rw [Int.neg_mul, Int.add_mul, Int.one_mul]; omega)
      omega
    · have : (-v) / u = -q := ediv_uniq (by omega) (by rw [Int.neg_mul]; omega) (by rw [Int.neg_mul]; omega)
      omega
  · simp only [toF, show ¬ ((3 : Int) = 1) from by decide, show ¬ ((3 : Int) = 2) from by decide, if_false, if_true]
    exact e2
  · simp only [toF, show ¬ ((4 : Int) = 1) from by decide, show ¬ ((4 : Int) = 2) from by decide, show ¬ ((4 : Int) = 3) from by decide, if_false]
    have e3 : 2 * u * q = 2 * (q * u) := by rw [Int.mul_assoc, Int.mul_comm u q]
    have e4 : 2 * u * (q + 1) = 2 * (q * u) + 2 * u := by rw [Int.mul_add, e3, Int.mul_one]
    by_cases hc : u ≤ 2 * (v - q * u)
    · rw [if_pos hc] at e2
      rw [e2, e4]
      split <;> split <;> omega
    · rw [if_neg hc] at e2
      rw [e2, e3]
      split <;> split <;> omega

set_option maxRecDepth 20000 in
theorem ref_To1 (v u : Int) (w : World) (hu : 1 ≤ u ∧ u ≤ 1048576) (hv : -1099511627776 ≤ v ∧ v ≤ 1099511627776) : Calls Tryz.prog 18 #[(.int .i64 v), (.int .i64 u), (.int .i64 1)] w (RetV w (.int .i64 (toF u 1 v))) := by
  have hu0 : 0 < u := by omega
  have hb := tdiv_bd v (B := 1099511627776) hu0 (by omega) (by omega)
  have hc := tdiv_cases v hu0
  have he := ediv_bd v hu0
  have hm : (v.tdiv u - 1) * u = v.tdiv u * u - u := by rw [Int.sub_mul, Int.one_mul]
  refine calls_T0 (av := [_, _, _]) Tryz.func18 rfl rfl rfl ?_
  refine t_seq ?_
  refine t_reg ?_
  refine to_as rfl rfl ?_
  refine to_nil ?_
  refine tn_code ?_
  refine t_seq ?_
  refine t_reg ?_
  refine to_mv rfl rfl ?_
  refine to_mv rfl rfl ?_
  refine to_quoE rfl rfl (by omega) (wrap_id (by omega)) rfl ?_
  refine to_as rfl rfl ?_
  refine to_nil ?_
  refine tn_code ?_
  refine t_seq ?_
  refine t_seq ?_
  refine t_reg ?_
  refine to_mv rfl rfl ?_
  refine to_mv rfl rfl ?_
  refine to_mv rfl rfl ?_
  refine to_mul rfl rfl (by first | omega | exact mul_ok (by omega) (by omega) (by omega) (by omega)) rfl ?_
  refine to_lss rfl rfl rfl ?_
  refine to_nil ?_
  refine tn_code ?_
  refine t_if rfl (fun h1 => ?_) (fun h1 => ?_)
  · try simp only [decide_eq_true_eq, decide_eq_false_iff_not, Bool.not_eq_true', Bool.not_eq_false', Int.not_lt, Int.not_le, ne_eq, Decidable.not_not] at h1
    try have h1b := inB_iff.1 h1
    rcases hc with ⟨e, hx⟩ | ⟨e, hx⟩
    · exfalso; omega
    rw [← e] at he
    have hq := toF_q hu.1 he.1 he.2
    refine t_reg ?_
    refine to_mv rfl rfl ?_
    refine to_sub rfl rfl (by omega) rfl ?_
    refine to_as rfl rfl ?_
    refine to_nil ?_
    refine tn_code ?_
    refine t_seq ?_
    refine t_reg ?_
    refine to_mv rfl rfl ?_
    refine to_mv rfl rfl ?_
    refine to_mv rfl rfl ?_
    refine to_mul rfl rfl (by first | omega | exact mul_ok (by omega) (by omega) (by omega) (by omega)) rfl ?_
    refine to_sub rfl rfl (by omega) rfl ?_
    refine to_as rfl rfl ?_
    refine to_nil ?_
    refine tn_code ?_
    refine t_seq ?_
    refine t_reg ?_
    refine to_as rfl rfl ?_
    refine to_nil ?_
    refine tn_code ?_
    refine t_seq ?_
    refine t_seq ?_
    refine t_reg ?_
    refine to_mv rfl rfl ?_
    refine to_nil ?_
    refine tn_code ?_
    refine t_blk ?_
    refine t_seq ?_
    refine t_reg ?_
    refine to_eql rfl rfl rfl ?_
    refine to_fix (s := 27) (b' := false) rfl (rfl) ?_
    refine to_as rfl rfl ?_
    refine to_nil ?_
    refine tn_code ?_
    refine t_ifF rfl ?_
    refine t_seq ?_
    refine t_reg ?_
    refine to_eql rfl rfl rfl ?_
    refine to_fix (s := 31) (b' := false) rfl (rfl) ?_
    refine to_as rfl rfl ?_
    refine to_nil ?_
    refine tn_code ?_
    refine t_ifF rfl ?_
    refine t_seq ?_
    refine t_reg ?_
    refine to_eql rfl rfl rfl ?_
    refine to_fix (s := 37) (b' := false) rfl (rfl) ?_
    refine to_as rfl rfl ?_
    refine to_nil ?_
    refine tn_code ?_
    refine t_ifF rfl ?_
    refine t_skip ?_
    refine tn_blk ?_
    refine tn_code ?_
    refine t_seq ?_
    refine t_seq ?_
    refine t_reg ?_
    refine to_mv rfl rfl ?_
    refine to_nil ?_
    refine tn_code ?_
    refine t_ifF rfl ?_
    refine t_skip ?_
    refine tn_code ?_
    refine t_seq ?_
    refine t_reg ?_
    refine to_mv rfl rfl ?_
    refine to_as rfl rfl ?_
    refine to_nil ?_
    refine tn_code ?_
    refine t_ret1 rfl rfl (res_tmp rfl) (fun w' s => ?_)
    refine congrArg (Value.int .i64) ?_
    exact hq.1.symm
  · try simp only [decide_eq_true_eq, decide_eq_false_iff_not, Bool.not_eq_true', Bool.not_eq_false', Int.not_lt, Int.not_le, ne_eq, Decidable.not_not] at h1
    try have h1b := inB_iff.1 h1
    rcases hc with ⟨e, hx⟩ | ⟨e, hx⟩
    rotate_left
    · exfalso; omega
    rw [← e] at he
    have hq := toF_q hu.1 he.1 he.2
    refine t_skip ?_
    refine tn_code ?_
    refine t_seq ?_
    refine t_reg ?_
    refine to_mv rfl rfl ?_
    refine to_mv rfl rfl ?_
    refine to_mv rfl rfl ?_
    refine to_mul rfl rfl (by first | omega | exact mul_ok (by omega) (by omega) (by omega) (by omega)) rfl ?_
    refine to_sub rfl rfl (by omega) rfl ?_
    refine to_as rfl rfl ?_
    refine to_nil ?_
    refine tn_code ?_
    refine t_seq ?_
    refine t_reg ?_
    refine to_as rfl rfl ?_
    refine to_nil ?_
    refine tn_code ?_
    refine t_seq ?_
    refine t_seq ?_
    refine t_reg ?_
    refine to_mv rfl rfl ?_
    refine to_nil ?_
    refine tn_code ?_
    refine t_blk ?_
    refine t_seq ?_
    refine t_reg ?_
    refine to_eql rfl rfl rfl ?_
    refine to_fix (s := 27) (b' := false) rfl (rfl) ?_
    refine to_as rfl rfl ?_
    refine to_nil ?_
    refine tn_code ?_
    refine t_ifF rfl ?_
    refine t_seq ?_
    refine t_reg ?_
    refine to_eql rfl rfl rfl ?_
    refine to_fix (s := 31) (b' := false) rfl (rfl) ?_
    refine to_as rfl rfl ?_
    refine to_nil ?_
    refine tn_code ?_
    refine t_ifF rfl ?_
    refine t_seq ?_
    refine t_reg ?_
    refine to_eql rfl rfl rfl ?_
    refine to_fix (s := 37) (b' := false) rfl (rfl) ?_
    refine to_as rfl rfl ?_
    refine to_nil ?_
    refine tn_code ?_
    refine t_ifF rfl ?_
    refine t_skip ?_
    refine tn_blk ?_
    refine tn_code ?_
    refine t_seq ?_
    refine t_seq ?_
    refine t_reg ?_
    refine to_mv rfl rfl ?_
    refine to_nil ?_
    refine tn_code ?_
    refine t_ifF rfl ?_
    refine t_skip ?_
    refine tn_code ?_
    refine t_seq ?_
    refine t_reg ?_
    refine to_mv rfl rfl ?_
    refine to_as rfl rfl ?_
    refine to_nil ?_
    refine tn_code ?_
    refine t_ret1 rfl rfl (res_tmp rfl) (fun w' s => ?_)
    refine congrArg (Value.int .i64) ?_
    exact hq.1.symm

set_option maxRecDepth 20000 in
theorem ref_To2 (v u : Int) (w : World) (hu : 1 ≤ u ∧ u ≤ 1048576) (hv : -1099511627776 ≤ v ∧ v ≤ 1099511627776) : Calls Tryz.prog 18 #[(.int .i64 v), (.int .i64 u), (.int .i64 2)] w (RetV w (.int .i64 (toF u 2 v))) := by
  have hu0 : 0 < u := by omega
  have hb := tdiv_bd v (B := 1099511627776) hu0 (by omega) (by omega)
  have hc := tdiv_cases v hu0
  have he := ediv_bd v hu0
  have hm : (v.tdiv u - 1) * u = v.tdiv u * u - u := by rw [Int.sub_mul, Int.one_mul]
  refine calls_T0 (av := [_, _, _]) Tryz.func18 rfl rfl rfl ?_
  refine t_seq ?_
  refine t_reg ?_
  refine to_as rfl rfl ?_
  refine to_nil ?_
  refine tn_code ?_
  refine t_seq ?_
  refine t_reg ?_
  refine to_mv rfl rfl ?_
  refine to_mv rfl rfl ?_
  refine to_quoE rfl rfl (by omega) (wrap_id (by omega)) rfl ?_
  refine to_as rfl rfl ?_
  refine to_nil ?_
  refine tn_code ?_
  refine t_seq ?_
  refine t_seq ?_
  refine t_reg ?_
  refine to_mv rfl rfl ?_
  refine to_mv rfl rfl ?_
  refine to_mv rfl rfl ?_
  refine to_mul rfl rfl (by first | omega | exact mul_ok (by omega) (by omega) (by omega) (by omega)) rfl ?_
  refine to_lss rfl rfl rfl ?_
  refine to_nil ?_
  refine tn_code ?_
  refine t_if rfl (fun h1 => ?_) (fun h1 => ?_)
  · try simp only [decide_eq_true_eq, decide_eq_false_iff_not, Bool.not_eq_true', Bool.not_eq_false', Int.not_lt, Int.not_le, ne_eq, Decidable.not_not] at h1
    try have h1b := inB_iff.1 h1
    rcases hc with ⟨e, hx⟩ | ⟨e, hx⟩
    · exfalso; omega
    rw [← e] at he
    have hq := toF_q hu.1 he.1 he.2
    refine t_reg ?_
    refine to_mv rfl rfl ?_
    refine to_sub rfl rfl (by omega) rfl ?_
    refine to_as rfl rfl ?_
    refine to_nil ?_
    refine tn_code ?_
    refine t_seq ?_
    refine t_reg ?_
    refine to_mv rfl rfl ?_
    refine to_mv rfl rfl ?_
    refine to_mv rfl rfl ?_
    refine to_mul rfl rfl (by first | omega | exact mul_ok (by omega) (by omega) (by omega) (by omega)) rfl ?_
    refine to_sub rfl rfl (by omega) rfl ?_
    refine to_as rfl rfl ?_
    refine to_nil ?_
    refine tn_code ?_
    refine t_seq ?_
    refine t_reg ?_
    refine to_as rfl rfl ?_
    refine to_nil ?_
    refine tn_code ?_
    refine t_seq ?_
    refine t_seq ?_
    refine t_reg ?_
    refine to_mv rfl rfl ?_
    refine to_nil ?_
    refine tn_code ?_
    refine t_blk ?_
    refine t_seq ?_
    refine t_reg ?_
    refine to_eql rfl rfl rfl ?_
    refine to_fix (s := 27) (b' := true) rfl (rfl) ?_
    refine to_as rfl rfl ?_
    refine to_nil ?_
    refine tn_code ?_
    refine t_ifT rfl ?_
    refine t_reg ?_
    refine to_mv rfl rfl ?_
    refine to_gtr rfl rfl rfl ?_
    refine to_as rfl rfl ?_
    refine to_nil ?_
    refine tn_blk ?_
    refine tn_code ?_
    refine t_seq ?_
    refine t_seq ?_
    refine t_reg ?_
    refine to_mv rfl rfl ?_
    refine to_nil ?_
    refine tn_code ?_
    refine t_if rfl (fun h2 => ?_) (fun h2 => ?_)
    · try simp only [decide_eq_true_eq, decide_eq_false_iff_not, Bool.not_eq_true', Bool.not_eq_false', Int.not_lt, Int.not_le, ne_eq, Decidable.not_not] at h2
      try have h2b := inB_iff.1 h2
      refine t_reg ?_
      refine to_mv rfl rfl ?_
      refine to_add rfl rfl (by omega) rfl ?_
      refine to_as rfl rfl ?_
      refine to_nil ?_
      refine tn_code ?_
      refine t_seq ?_
      refine t_reg ?_
      refine to_mv rfl rfl ?_
      refine to_as rfl rfl ?_
      refine to_nil ?_
      refine tn_code ?_
      refine t_ret1 rfl rfl (res_tmp rfl) (fun w' s => ?_)
      refine congrArg (Value.int .i64) ?_
      rw [hq.2.1]; split <;> omega
    · try simp only [decide_eq_true_eq, decide_eq_false_iff_not, Bool.not_eq_true', Bool.not_eq_false', Int.not_lt, Int.not_le, ne_eq, Decidable.not_not] at h2
      try have h2b := inB_iff.1 h2
      refine t_skip ?_
      refine tn_code ?_
      refine t_seq ?_
      refine t_reg ?_
      refine to_mv rfl rfl ?_
      refine to_as rfl rfl ?_
      refine to_nil ?_
      refine tn_code ?_
      refine t_ret1 rfl rfl (res_tmp rfl) (fun w' s => ?_)
      refine congrArg (Value.int .i64) ?_
      rw [hq.2.1]; split <;> omega
  · try simp only [decide_eq_true_eq, decide_eq_false_iff_not, Bool.not_eq_true', Bool.not_eq_false', Int.not_lt, Int.not_le, ne_eq, Decidable.not_not] at h1
    try have h1b := inB_iff.1 h1
    rcases hc with ⟨e, hx⟩ | ⟨e, hx⟩
    rotate_left
    · exfalso; omega
    rw [← e] at he
    have hq := toF_q hu.1 he.1 he.2
    refine t_skip ?_
    refine tn_code ?_
    refine t_seq ?_
    refine t_reg ?_
    refine to_mv rfl rfl ?_
    refine to_mv rfl rfl ?_
    refine to_mv rfl rfl ?_
    refine to_mul rfl rfl (by first | omega | exact mul_ok (by omega) (by omega) (by omega) (by omega)) rfl ?_
    refine to_sub rfl rfl (by omega) rfl ?_
    refine to_as rfl rfl ?_
    refine to_nil ?_
    refine tn_code ?_
    refine t_seq ?_
    refine t_reg ?_
    refine to_as rfl rfl ?_
    refine to_nil ?_
    refine tn_code ?_
    refine t_seq ?_
    refine t_seq ?_
    refine t_reg ?_
    refine to_mv rfl rfl ?_
    refine to_nil ?_
    refine tn_code ?_
    refine t_blk ?_
    refine t_seq ?_
    refine t_reg ?_
    refine to_eql rfl rfl rfl ?_
    refine to_fix (s := 27) (b' := true) rfl (rfl) ?_
    refine to_as rfl rfl ?_
    refine to_nil ?_
    refine tn_code ?_
    refine t_ifT rfl ?_
    refine t_reg ?_
    refine to_mv rfl rfl ?_
    refine to_gtr rfl rfl rfl ?_
    refine to_as rfl rfl ?_
    refine to_nil ?_
    refine tn_blk ?_
    refine tn_code ?_
    refine t_seq ?_
    refine t_seq ?_
    refine t_reg ?_
    refine to_mv rfl rfl ?_
    refine to_nil ?_
    refine tn_code ?_
    refine t_if rfl (fun h3 => ?_) (fun h3 => ?_)
    · try simp only [decide_eq_true_eq, decide_eq_false_iff_not, Bool.not_eq_true', Bool.not_eq_false', Int.not_lt, Int.not_le, ne_eq, Decidable.not_not] at h3
      try have h3b := inB_iff.1 h3
      refine t_reg ?_
      refine to_mv rfl rfl ?_
      refine to_add rfl rfl (by omega) rfl ?_
      refine to_as rfl rfl ?_
      refine to_nil ?_
      refine tn_code ?_
      refine t_seq ?_
      refine t_reg ?_
      refine to_mv rfl rfl ?_
      refine to_as rfl rfl ?_
      refine to_nil ?_
      refine tn_code ?_
      refine t_ret1 rfl rfl (res_tmp rfl) (fun w' s => ?_)
      refine congrArg (Value.int .i64) ?_
      rw [hq.2.1]; split <;> omega
    · try simp only [decide_eq_true_eq, decide_eq_false_iff_not, Bool.not_eq_true', Bool.not_eq_false', Int.not_lt, Int.not_le, ne_eq, Decidable.not_not] at h3
      try have h3b := inB_iff.1 h3
      refine t_skip ?_
      refine tn_code ?_
      refine t_seq ?_
      refine t_reg ?_
      refine to_mv rfl rfl ?_
      refine to_as rfl rfl ?_
      refine to_nil ?_
      refine tn_code ?_
      refine t_ret1 rfl rfl (res_tmp rfl) (fun w' s => ?_)
      refine congrArg (Value.int .i64) ?_
      rw [hq.2.1]; split <;> omega

set_option maxRecDepth 20000 in
theorem ref_To3 (v u : Int) (w : World) (hu : 1 ≤ u ∧ u ≤ 1048576) (hv : -1099511627776 ≤ v ∧ v ≤ 1099511627776) : Calls Tryz.prog 18 #[(.int .i64 v), (.int .i64 u), (.int .i64 3)] w (RetV w (.int .i64 (toF u 3 v))) := by
  have hu0 : 0 < u := by omega
  have hb := tdiv_bd v (B := 1099511627776) hu0 (by omega) (by omega)
  have hc := tdiv_cases v hu0
  have he := ediv_bd v hu0
  have hm : (v.tdiv u - 1) * u = v.tdiv u * u - u := by rw [Int.sub_mul, Int.one_mul]
  refine calls_T0 (av := [_, _, _]) Tryz.func18 rfl rfl rfl ?_
  refine t_seq ?_
  refine t_reg ?_
  refine to_as rfl rfl ?_
  refine to_nil ?_
  refine tn_code ?_
  refine t_seq ?_
  refine t_reg ?_
  refine to_mv rfl rfl ?_
  refine to_mv rfl rfl ?_
  refine to_quoE rfl rfl (by omega) (wrap_id (by omega)) rfl ?_
  refine to_as rfl rfl ?_
  refine to_nil ?_
  refine tn_code ?_
  refine t_seq ?_
  refine t_seq ?_
  refine t_reg ?_
  refine to_mv rfl rfl ?_
  refine to_mv rfl rfl ?_
  refine to_mv rfl rfl ?_
  refine to_mul rfl rfl (by first | omega | exact mul_ok (by omega) (by omega) (by omega) (by omega)) rfl ?_
  refine to_lss rfl rfl rfl ?_
  refine to_nil ?_
  refine tn_code ?_
  refine t_if rfl (fun h1 => ?_) (fun h1 => ?_)
  · try simp only [decide_eq_true_eq, decide_eq_false_iff_not, Bool.not_eq_true', Bool.not_eq_false', Int.not_lt, Int.not_le, ne_eq, Decidable.not_not] at h1
    try have h1b := inB_iff.1 h1
    rcases hc with ⟨e, hx⟩ | ⟨e, hx⟩
    · exfalso; omega
    rw [← e] at he
    have hq := toF_q hu.1 he.1 he.2
    refine t_reg ?_
    refine to_mv rfl rfl ?_
    refine to_sub rfl rfl (by omega) rfl ?_
    refine to_as rfl rfl ?_
    refine to_nil ?_
    refine tn_code ?_
    refine t_seq ?_
    refine t_reg ?_
    refine to_mv rfl rfl ?_
    refine to_mv rfl rfl ?_
    refine to_mv rfl rfl ?_
    refine to_mul rfl rfl (by first | omega | exact mul_ok (by omega) (by omega) (by omega) (by omega)) rfl ?_
    refine to_sub rfl rfl (by omega) rfl ?_
    refine to_as rfl rfl ?_
    refine to_nil ?_
    refine tn_code ?_
    refine t_seq ?_
    refine t_reg ?_
    refine to_as rfl rfl ?_
    refine to_nil ?_
    refine tn_code ?_
    refine t_seq ?_
    refine t_seq ?_
    refine t_reg ?_
    refine to_mv rfl rfl ?_
    refine to_nil ?_
    refine tn_code ?_
    refine t_blk ?_
    refine t_seq ?_
    refine t_reg ?_
    refine to_eql rfl rfl rfl ?_
    refine to_fix (s := 27) (b' := false) rfl (rfl) ?_
    refine to_as rfl rfl ?_
    refine to_nil ?_
    refine tn_code ?_
    refine t_ifF rfl ?_
    refine t_seq ?_
    refine t_reg ?_
    refine to_eql rfl rfl rfl ?_
    refine to_fix (s := 31) (b' := true) rfl (rfl) ?_
    refine to_as rfl rfl ?_
    refine to_nil ?_
    refine tn_code ?_
    refine t_ifT rfl ?_
    refine t_reg ?_
    refine to_mv rfl rfl ?_
    refine to_mul rfl rfl (by first | omega | exact mul_ok (by omega) (by omega) (by omega) (by omega)) rfl ?_
    refine to_mv rfl rfl ?_
    refine to_geq rfl rfl rfl ?_
    refine to_as rfl rfl ?_
    refine to_nil ?_
    refine tn_blk ?_
    refine tn_code ?_
    refine t_seq ?_
    refine t_seq ?_
    refine t_reg ?_
    refine to_mv rfl rfl ?_
    refine to_nil ?_
    refine tn_code ?_
    refine t_if rfl (fun h2 => ?_) (fun h2 => ?_)
    · try simp only [decide_eq_true_eq, decide_eq_false_iff_not, Bool.not_eq_true', Bool.not_eq_false', Int.not_lt, Int.not_le, ne_eq, Decidable.not_not] at h2
      try have h2b := inB_iff.1 h2
      refine t_reg ?_
      refine to_mv rfl rfl ?_
      refine to_add rfl rfl (by omega) rfl ?_
      refine to_as rfl rfl ?_
      refine to_nil ?_
      refine tn_code ?_
      refine t_seq ?_
      refine t_reg ?_
      refine to_mv rfl rfl ?_
      refine to_as rfl rfl ?_
      refine to_nil ?_
      refine tn_code ?_
      refine t_ret1 rfl rfl (res_tmp rfl) (fun w' s => ?_)
      refine congrArg (Value.int .i64) ?_
      rw [hq.2.2.1]; split <;> omega
    · try simp only [decide_eq_true_eq, decide_eq_false_iff_not, Bool.not_eq_true', Bool.not_eq_false', Int.not_lt, Int.not_le, ne_eq, Decidable.not_not] at h2
      try have h2b := inB_iff.1 h2
      refine t_skip ?_
      refine tn_code ?_
      refine t_seq ?_
      refine t_reg ?_
      refine to_mv rfl rfl ?_
      refine to_as rfl rfl ?_
      refine to_nil ?_
      refine tn_code ?_
      refine t_ret1 rfl rfl (res_tmp rfl) (fun w' s => ?_)
      refine congrArg (Value.int .i64) ?_
      rw [hq.2.2.1]; split <;> omega
  · try simp only [decide_eq_true_eq, decide_eq_false_iff_not, Bool.not_eq_true', Bool.not_eq_false', Int.not_lt, Int.not_le, ne_eq, Decidable.not_not] at h1
    try have h1b := inB_iff.1 h1
    rcases hc with ⟨e, hx⟩ | ⟨e, hx⟩
    rotate_left
    · exfalso; omega
    rw [← e] at he
    have hq := toF_q hu.1 he.1 he.2
    refine t_skip ?_
    refine tn_code ?_
    refine t_seq ?_
    refine t_reg ?_
    refine to_mv rfl rfl ?_
    refine to_mv rfl rfl ?_
    refine to_mv rfl rfl ?_
    refine to_mul rfl rfl (by first | omega | exact mul_ok (by omega) (by omega) (by omega) (by omega)) rfl ?_
    refine to_sub rfl rfl (by omega) rfl ?_
    refine to_as rfl rfl ?_
    refine to_nil ?_
    refine tn_code ?_
    refine t_seq ?_
    refine t_reg ?_
    refine to_as rfl rfl ?_
    refine to_nil ?_
    refine tn_code ?_
    refine t_seq ?_
    refine t_seq ?_
    refine t_reg ?_
    refine to_mv rfl rfl ?_
    refine to_nil ?_
    refine tn_code ?_
    refine t_blk ?_
    refine t_seq ?_
    refine t_reg ?_
    refine to_eql rfl rfl rfl ?_
    refine to_fix (s := 27) (b' := false) rfl (rfl) ?_
    refine to_as rfl rfl ?_
    refine to_nil ?_
    refine tn_code ?_
    refine t_ifF rfl ?_
    refine t_seq ?_
    refine t_reg ?_
    refine to_eql rfl rfl rfl ?_
    refine to_fix (s := 31) (b' := true) rfl (rfl) ?_
    refine to_as rfl rfl ?_
    refine to_nil ?_
    refine tn_code ?_
    refine t_ifT rfl ?_
    refine t_reg ?_
    refine to_mv rfl rfl ?_
    refine to_mul rfl rfl (by first | omega | exact mul_ok (by omega) (by omega) (by omega) (by omega)) rfl ?_
    refine to_mv rfl rfl ?_
    refine to_geq rfl rfl rfl ?_
    refine to_as rfl rfl ?_
    refine to_nil ?_
    refine tn_blk ?_
    refine tn_code ?_
    refine t_seq ?_
    refine t_seq ?_
    refine t_reg ?_
    refine to_mv rfl rfl ?_
    refine to_nil ?_
    refine tn_code ?_
    refine t_if rfl (fun h3 => ?_) (fun h3 => ?_)
    · try simp only [decide_eq_true_eq, decide_eq_false_iff_not, Bool.not_eq_true', Bool.not_eq_false', Int.not_lt, Int.not_le, ne_eq, Decidable.not_not] at h3
      try have h3b := inB_iff.1 h3
      refine t_reg ?_
      refine to_mv rfl rfl ?_
      refine to_add rfl rfl (by omega) rfl ?_
      refine to_as rfl rfl ?_
      refine to_nil ?_
      refine tn_code ?_
      refine t_seq ?_
      refine t_reg ?_
      refine to_mv rfl rfl ?_
      refine to_as rfl rfl ?_
      refine to_nil ?_
      refine tn_code ?_
      refine t_ret1 rfl rfl (res_tmp rfl) (fun w' s => ?_)
      refine congrArg (Value.int .i64) ?_
      rw [hq.2.2.1]; split <;> omega
    · try simp only [decide_eq_true_eq, decide_eq_false_iff_not, Bool.not_eq_true', Bool.not_eq_false', Int.not_lt, Int.not_le, ne_eq, Decidable.not_not] at h3
      try have h3b := inB_iff.1 h3
      refine t_skip ?_
      refine tn_code ?_
      refine t_seq ?_
      refine t_reg ?_
      refine to_mv rfl rfl ?_
      refine to_as rfl rfl ?_
      refine to_nil ?_
      refine tn_code ?_
      refine t_ret1 rfl rfl (res_tmp rfl) (fun w' s => ?_)
      refine congrArg (Value.int .i64) ?_
      rw [hq.2.2.1]; split <;> omega

set_option maxRecDepth 20000 in
theorem ref_To4 (v u : Int) (w : World) (hu : 1 ≤ u ∧ u ≤ 1048576) (hv : -1099511627776 ≤ v ∧ v ≤ 1099511627776) : Calls Tryz.prog 18 #[(.int .i64 v), (.int .i64 u), (.int .i64 4)] w (RetV w (.int .i64 (toF u 4 v))) := by
  have hu0 : 0 < u := by omega
  have hb := tdiv_bd v (B := 1099511627776) hu0 (by omega) (by omega)
  have hc := tdiv_cases v hu0
  have he := ediv_bd v hu0
  have hm : (v.tdiv u - 1) * u = v.tdiv u * u - u := by rw [Int.sub_mul, Int.one_mul]
  refine calls_T0 (av := [_, _, _]) Tryz.func18 rfl rfl rfl ?_
  refine t_seq ?_
  refine t_reg ?_
  refine to_as rfl rfl ?_
  refine to_nil ?_
  refine tn_code ?_
  refine t_seq ?_
  refine t_reg ?_
  refine to_mv rfl rfl ?_
  refine to_mv rfl rfl ?_
  refine to_quoE rfl rfl (by omega) (wrap_id (by omega)) rfl ?_
  refine to_as rfl rfl ?_
  refine to_nil ?_
  refine tn_code ?_
  refine t_seq ?_
  refine t_seq ?_
  refine t_reg ?_
  refine to_mv rfl rfl ?_
  refine to_mv rfl rfl ?_
  refine to_mv rfl rfl ?_
  refine to_mul rfl rfl (by first | omega | exact mul_ok (by omega) (by omega) (by omega) (by omega)) rfl ?_
  refine to_lss rfl rfl rfl ?_
  refine to_nil ?_
  refine tn_code ?_
  refine t_if rfl (fun h1 => ?_) (fun h1 => ?_)
  · try simp only [decide_eq_true_eq, decide_eq_false_iff_not, Bool.not_eq_true', Bool.not_eq_false', Int.not_lt, Int.not_le, ne_eq, Decidable.not_not] at h1
    try have h1b := inB_iff.1 h1
    rcases hc with ⟨e, hx⟩ | ⟨e, hx⟩
    · exfalso; omega
    rw [← e] at he
    have hq := toF_q hu.1 he.1 he.2
    refine t_reg ?_
    refine to_mv rfl rfl ?_
    refine to_sub rfl rfl (by omega) rfl ?_
    refine to_as rfl rfl ?_
    refine to_nil ?_
    refine tn_code ?_
    refine t_seq ?_
    refine t_reg ?_
    refine to_mv rfl rfl ?_
    refine to_mv rfl rfl ?_
    refine to_mv rfl rfl ?_
    refine to_mul rfl rfl (by first | omega | exact mul_ok (by omega) (by omega) (by omega) (by omega)) rfl ?_
    refine to_sub rfl rfl (by omega) rfl ?_
    refine to_as rfl rfl ?_
    refine to_nil ?_
    refine tn_code ?_
    refine t_seq ?_
    refine t_reg ?_
    refine to_as rfl rfl ?_
    refine to_nil ?_
    refine tn_code ?_
    refine t_seq ?_
    refine t_seq ?_
    refine t_reg ?_
    refine to_mv rfl rfl ?_
    refine to_nil ?_
    refine tn_code ?_
    refine t_blk ?_
    refine t_seq ?_
    refine t_reg ?_
    refine to_eql rfl rfl rfl ?_
    refine to_fix (s := 27) (b' := false) rfl (rfl) ?_
    refine to_as rfl rfl ?_
    refine to_nil ?_
    refine tn_code ?_
    refine t_ifF rfl ?_
    refine t_seq ?_
    refine t_reg ?_
    refine to_eql rfl rfl rfl ?_
    refine to_fix (s := 31) (b' := false) rfl (rfl) ?_
    refine to_as rfl rfl ?_
    refine to_nil ?_
    refine tn_code ?_
    refine t_ifF rfl ?_
    refine t_seq ?_
    refine t_reg ?_
    refine to_eql rfl rfl rfl ?_
    refine to_fix (s := 37) (b' := true) rfl (rfl) ?_
    refine to_as rfl rfl ?_
    refine to_nil ?_
    refine tn_code ?_
    refine t_ifT rfl ?_
    refine t_reg ?_
    refine to_mv rfl rfl ?_
    refine to_mul rfl rfl (by first | omega | exact mul_ok (by omega) (by omega) (by omega) (by omega)) rfl ?_
    refine to_mv rfl rfl ?_
    refine to_gtr rfl rfl rfl ?_
    refine to_mv rfl rfl ?_
    refine to_gs rfl rfl rfl (fun h2 => ?_) (fun h2 => ?_)
    · try simp only [decide_eq_true_eq, decide_eq_false_iff_not, Bool.not_eq_true', Bool.not_eq_false', Int.not_lt, Int.not_le, ne_eq, Decidable.not_not] at h2
      try have h2b := inB_iff.1 h2
      refine to_gf rfl rfl rfl rfl ?_
      refine to_gf rfl rfl rfl rfl ?_
      refine to_gf rfl rfl rfl rfl ?_
      refine to_gf rfl rfl rfl rfl ?_
      refine to_gf rfl rfl rfl rfl ?_
      refine to_gf rfl rfl rfl rfl ?_
      refine to_gf rfl rfl rfl rfl ?_
      refine to_gf rfl rfl rfl rfl ?_
      refine to_gf rfl rfl rfl rfl ?_
      refine to_pkT rfl rfl rfl ?_
      refine to_as rfl rfl ?_
      refine to_nil ?_
      refine tn_blk ?_
      refine tn_code ?_
      refine t_seq ?_
      refine t_seq ?_
      refine t_reg ?_
      refine to_mv rfl rfl ?_
      refine to_nil ?_
      refine tn_code ?_
      refine t_ifT rfl ?_
      refine t_reg ?_
      refine to_mv rfl rfl ?_
      refine to_add rfl rfl (by omega) rfl ?_
      refine to_as rfl rfl ?_
      refine to_nil ?_
      refine tn_code ?_
      refine t_seq ?_
      refine t_reg ?_
      refine to_mv rfl rfl ?_
      refine to_as rfl rfl ?_
      refine to_nil ?_
      refine tn_code ?_
      refine t_ret1 rfl rfl (res_tmp rfl) (fun w' s => ?_)
      refine congrArg (Value.int .i64) ?_
      have hm1 := tmod2 (v.tdiv u)
      have hm2 := tmod2 (v.tdiv u - 1)
      rw [hq.2.2.2]; split <;> simp_all <;> omega
    · try simp only [decide_eq_true_eq, decide_eq_false_iff_not, Bool.not_eq_true', Bool.not_eq_false', Int.not_lt, Int.not_le, ne_eq, Decidable.not_not] at h2
      try have h2b := inB_iff.1 h2
      refine to_gt rfl rfl ?_
      refine to_mv rfl rfl ?_
      refine to_gt rfl rfl ?_
      refine to_mul rfl rfl (by first | omega | exact mul_ok (by omega) (by omega) (by omega) (by omega)) rfl ?_
      refine to_gt rfl rfl ?_
      refine to_mv rfl rfl ?_
      refine to_gt rfl rfl ?_
      refine to_eql rfl rfl rfl ?_
      refine to_gt rfl rfl ?_
      refine to_mv rfl rfl ?_
      refine to_gs rfl rfl rfl (fun h3 => ?_) (fun h3 => ?_)
      · try simp only [decide_eq_true_eq, decide_eq_false_iff_not, Bool.not_eq_true', Bool.not_eq_false', Int.not_lt, Int.not_le, ne_eq, Decidable.not_not] at h3
        try have h3b := inB_iff.1 h3
        refine to_gt rfl rfl ?_
        refine to_mv rfl rfl ?_
        refine to_gt rfl rfl ?_
        refine to_remw rfl rfl (by decide) rfl ?_
        refine to_gt rfl rfl ?_
        refine to_neq rfl rfl rfl ?_
        refine to_gt rfl rfl ?_
        refine to_pkT rfl rfl rfl ?_
        refine to_pkF rfl rfl rfl ?_
        refine to_as rfl rfl ?_
        refine to_nil ?_
        refine tn_blk ?_
        refine tn_code ?_
        refine t_seq ?_
        refine t_seq ?_
        refine t_reg ?_
        refine to_mv rfl rfl ?_
        refine to_nil ?_
        refine tn_code ?_
        refine t_if rfl (fun h4 => ?_) (fun h4 => ?_)
        · try simp only [decide_eq_true_eq, decide_eq_false_iff_not, Bool.not_eq_true', Bool.not_eq_false', Int.not_lt, Int.not_le, ne_eq, Decidable.not_not] at h4
          try have h4b := inB_iff.1 h4
          refine t_reg ?_
          refine to_mv rfl rfl ?_
          refine to_add rfl rfl (by omega) rfl ?_
          refine to_as rfl rfl ?_
          refine to_nil ?_
          refine tn_code ?_
          refine t_seq ?_
          refine t_reg ?_
          refine to_mv rfl rfl ?_
          refine to_as rfl rfl ?_
          refine to_nil ?_
          refine tn_code ?_
          refine t_ret1 rfl rfl (res_tmp rfl) (fun w' s => ?_)
          refine congrArg (Value.int .i64) ?_
          have hm1 := tmod2 (v.tdiv u)
          have hm2 := tmod2 (v.tdiv u - 1)
          rw [hq.2.2.2]; split <;> simp_all <;> omega
        · try simp only [decide_eq_true_eq, decide_eq_false_iff_not, Bool.not_eq_true', Bool.not_eq_false', Int.not_lt, Int.not_le, ne_eq, Decidable.not_not] at h4
          try have h4b := inB_iff.1 h4
          refine t_skip ?_
          refine tn_code ?_
          refine t_seq ?_
          refine t_reg ?_
          refine to_mv rfl rfl ?_
          refine to_as rfl rfl ?_
          refine to_nil ?_
          refine tn_code ?_
          refine t_ret1 rfl rfl (res_tmp rfl) (fun w' s => ?_)
          refine congrArg (Value.int .i64) ?_
          have hm1 := tmod2 (v.tdiv u)
          have hm2 := tmod2 (v.tdiv u - 1)
          rw [hq.2.2.2]; split <;> simp_all <;> omega
      · try simp only [decide_eq_true_eq, decide_eq_false_iff_not, Bool.not_eq_true', Bool.not_eq_false', Int.not_lt, Int.not_le, ne_eq, Decidable.not_not] at h3
        try have h3b := inB_iff.1 h3
        refine to_gf rfl rfl rfl rfl ?_
        refine to_gf rfl rfl rfl rfl ?_
        refine to_gf rfl rfl rfl rfl ?_
        refine to_gt rfl rfl ?_
        refine to_pkF rfl rfl rfl ?_
        refine to_pkF rfl rfl rfl ?_
        refine to_as rfl rfl ?_
        refine to_nil ?_
        refine tn_blk ?_
        refine tn_code ?_
        refine t_seq ?_
        refine t_seq ?_
        refine t_reg ?_
        refine to_mv rfl rfl ?_
        refine to_nil ?_
        refine tn_code ?_
        refine t_ifF rfl ?_
        refine t_skip ?_
        refine tn_code ?_
        refine t_seq ?_
        refine t_reg ?_
        refine to_mv rfl rfl ?_
        refine to_as rfl rfl ?_
        refine to_nil ?_
        refine tn_code ?_
        refine t_ret1 rfl rfl (res_tmp rfl) (fun w' s => ?_)
        refine congrArg (Value.int .i64) ?_
        have hm1 := tmod2 (v.tdiv u)
        have hm2 := tmod2 (v.tdiv u - 1)
        rw [hq.2.2.2]; split <;> simp_all <;> omega
  · try simp only [decide_eq_true_eq, decide_eq_false_iff_not, Bool.not_eq_true', Bool.not_eq_false', Int.not_lt, Int.not_le, ne_eq, Decidable.not_not] at h1
    try have h1b := inB_iff.1 h1
    rcases hc with ⟨e, hx⟩ | ⟨e, hx⟩
    rotate_left
    · exfalso; omega
    rw [← e] at he
    have hq := toF_q hu.1 he.1 he.2
    refine t_skip ?_
    refine tn_code ?_
    refine t_seq ?_
    refine t_reg ?_
    refine to_mv rfl rfl ?_
    refine to_mv rfl rfl ?_
    refine to_mv rfl rfl ?_
    refine to_mul rfl rfl (by first | omega | exact mul_ok (by omega) (by omega) (by omega) (by omega)) rfl ?_
    refine to_sub rfl rfl (by omega) rfl ?_
    refine to_as rfl rfl ?_
    refine to_nil ?_
    refine tn_code ?_
    refine t_seq ?_
    refine t_reg ?_
    refine to_as rfl rfl ?_
    refine to_nil ?_
    refine tn_code ?_
    refine t_seq ?_
    refine t_seq ?_
    refine t_reg ?_
    refine to_mv rfl rfl ?_
    refine to_nil ?_
    refine tn_code ?_
    refine t_blk ?_
    refine t_seq ?_
    refine t_reg ?_
    refine to_eql rfl rfl rfl ?_
    refine to_fix (s := 27) (b' := false) rfl (rfl) ?_
    refine to_as rfl rfl ?_
    refine to_nil ?_
    refine tn_code ?_
    refine t_ifF rfl ?_
    refine t_seq ?_
    refine t_reg ?_
    refine to_eql rfl rfl rfl ?_
    refine to_fix (s := 31) (b' := false) rfl (rfl) ?_
    refine to_as rfl rfl ?_
    refine to_nil ?_
    refine tn_code ?_
    refine t_ifF rfl ?_
    refine t_seq ?_
    refine t_reg ?_
    refine to_eql rfl rfl rfl ?_
    refine to_fix (s := 37) (b' := true) rfl (rfl) ?_
    refine to_as rfl rfl ?_
    refine to_nil ?_
    refine tn_code ?_
    refine t_ifT rfl ?_
    refine t_reg ?_
    refine to_mv rfl rfl ?_
    refine to_mul rfl rfl (by first | omega | exact mul_ok (by omega) (by omega) (by omega) (by omega)) rfl ?_
    refine to_mv rfl rfl ?_
    refine to_gtr rfl rfl rfl ?_
    refine to_mv rfl rfl ?_
    refine to_gs rfl rfl rfl (fun h5 => ?_) (fun h5 => ?_)
    · try simp only [decide_eq_true_eq, decide_eq_false_iff_not, Bool.not_eq_true', Bool.not_eq_false', Int.not_lt, Int.not_le, ne_eq, Decidable.not_not] at h5
      try have h5b := inB_iff.1 h5
      refine to_gf rfl rfl rfl rfl ?_
      refine to_gf rfl rfl rfl rfl ?_
      refine to_gf rfl rfl rfl rfl ?_
      refine to_gf rfl rfl rfl rfl ?_
      refine to_gf rfl rfl rfl rfl ?_
      refine to_gf rfl rfl rfl rfl ?_
      refine to_gf rfl rfl rfl rfl ?_
      refine to_gf rfl rfl rfl rfl ?_
      refine to_gf rfl rfl rfl rfl ?_
      refine to_pkT rfl rfl rfl ?_
      refine to_as rfl rfl ?_
      refine to_nil ?_
      refine tn_blk ?_
      refine tn_code ?_
      refine t_seq ?_
      refine t_seq ?_
      refine t_reg ?_
      refine to_mv rfl rfl ?_
      refine to_nil ?_
      refine tn_code ?_
      refine t_ifT rfl ?_
      refine t_reg ?_
      refine to_mv rfl rfl ?_
      refine to_add rfl rfl (by omega) rfl ?_
      refine to_as rfl rfl ?_
      refine to_nil ?_
      refine tn_code ?_
      refine t_seq ?_
      refine t_reg ?_
      refine to_mv rfl rfl ?_
      refine to_as rfl rfl ?_
      refine to_nil ?_
      refine tn_code ?_
      refine t_ret1 rfl rfl (res_tmp rfl) (fun w' s => ?_)
      refine congrArg (Value.int .i64) ?_
      have hm1 := tmod2 (v.tdiv u)
      have hm2 := tmod2 (v.tdiv u - 1)
      rw [hq.2.2.2]; split <;> simp_all <;> omega
    · try simp only [decide_eq_true_eq, decide_eq_false_iff_not, Bool.not_eq_true', Bool.not_eq_false', Int.not_lt, Int.not_le, ne_eq, Decidable.not_not] at h5
      try have h5b := inB_iff.1 h5
      refine to_gt rfl rfl ?_
      refine to_mv rfl rfl ?_
      refine to_gt rfl rfl ?_
      refine to_mul rfl rfl (by first | omega | exact mul_ok (by omega) (by omega) (by omega) (by omega)) rfl ?_
      refine to_gt rfl rfl ?_
      refine to_mv rfl rfl ?_
      refine to_gt rfl rfl ?_
      refine to_eql rfl rfl rfl ?_
      refine to_gt rfl rfl ?_
      refine to_mv rfl rfl ?_
      refine to_gs rfl rfl rfl (fun h6 => ?_) (fun h6 => ?_)
      · try simp only [decide_eq_true_eq, decide_eq_false_iff_not, Bool.not_eq_true', Bool.not_eq_false', Int.not_lt, Int.not_le, ne_eq, Decidable.not_not] at h6
        try have h6b := inB_iff.1 h6
        refine to_gt rfl rfl ?_
        refine to_mv rfl rfl ?_
        refine to_gt rfl rfl ?_
        refine to_remw rfl rfl (by decide) rfl ?_
        refine to_gt rfl rfl ?_
        refine to_neq rfl rfl rfl ?_
        refine to_gt rfl rfl ?_
        refine to_pkT rfl rfl rfl ?_
        refine to_pkF rfl rfl rfl ?_
        refine to_as rfl rfl ?_
        refine to_nil ?_
        refine tn_blk ?_
        refine tn_code ?_
        refine t_seq ?_
        refine t_seq ?_
        refine t_reg ?_
        refine to_mv rfl rfl ?_
        refine to_nil ?_
        refine tn_code ?_
        refine t_if rfl (fun h7 => ?_) (fun h7 => ?_)
        · try simp only [decide_eq_true_eq, decide_eq_false_iff_not, Bool.not_eq_true', Bool.not_eq_false', Int.not_lt, Int.not_le, ne_eq, Decidable.not_not] at h7
          try have h7b := inB_iff.1 h7
          refine t_reg ?_
          refine to_mv rfl rfl ?_
          refine to_add rfl rfl (by omega) rfl ?_
          refine to_as rfl rfl ?_
          refine to_nil ?_
          refine tn_code ?_
          refine t_seq ?_
          refine t_reg ?_
          refine to_mv rfl rfl ?_
          refine to_as rfl rfl ?_
          refine to_nil ?_
          refine tn_code ?_
          refine t_ret1 rfl rfl (res_tmp rfl) (fun w' s => ?_)
          refine congrArg (Value.int .i64) ?_
          have hm1 := tmod2 (v.tdiv u)
          have hm2 := tmod2 (v.tdiv u - 1)
          rw [hq.2.2.2]; split <;> simp_all <;> omega
        · try simp only [decide_eq_true_eq, decide_eq_false_iff_not, Bool.not_eq_true', Bool.not_eq_false', Int.not_lt, Int.not_le, ne_eq, Decidable.not_not] at h7
          try have h7b := inB_iff.1 h7
          refine t_skip ?_
          refine tn_code ?_
          refine t_seq ?_
          refine t_reg ?_
          refine to_mv rfl rfl ?_
          refine to_as rfl rfl ?_
          refine to_nil ?_
          refine tn_code ?_
          refine t_ret1 rfl rfl (res_tmp rfl) (fun w' s => ?_)
          refine congrArg (Value.int .i64) ?_
          have hm1 := tmod2 (v.tdiv u)
          have hm2 := tmod2 (v.tdiv u - 1)
          rw [hq.2.2.2]; split <;> simp_all <;> omega
      · try simp only [decide_eq_true_eq, decide_eq_false_iff_not, Bool.not_eq_true', Bool.not_eq_false', Int.not_lt, Int.not_le, ne_eq, Decidable.not_not] at h6
        try have h6b := inB_iff.1 h6
        refine to_gf rfl rfl rfl rfl ?_
        refine to_gf rfl rfl rfl rfl ?_
        refine to_gf rfl rfl rfl rfl ?_
        refine to_gt rfl rfl ?_
        refine to_pkF rfl rfl rfl ?_
        refine to_pkF rfl rfl rfl ?_
        refine to_as rfl rfl ?_
        refine to_nil ?_
        refine tn_blk ?_
        refine tn_code ?_
        refine t_seq ?_
        refine t_seq ?_
        refine t_reg ?_
        refine to_mv rfl rfl ?_
        refine to_nil ?_
        refine tn_code ?_
        refine t_ifF rfl ?_
        refine t_skip ?_
        refine tn_code ?_
        refine t_seq ?_
        refine t_reg ?_
        refine to_mv rfl rfl ?_
        refine to_as rfl rfl ?_
        refine to_nil ?_
        refine tn_code ?_
        refine t_ret1 rfl rfl (res_tmp rfl) (fun w' s => ?_)
        refine congrArg (Value.int .i64) ?_
        have hm1 := tmod2 (v.tdiv u)
        have hm2 := tmod2 (v.tdiv u - 1)
        rw [hq.2.2.2]; split <;> simp_all <;> omega

theorem ref_To (v u r : Int) (w : World) (hu : 1 ≤ u ∧ u ≤ 1048576) (hv : -1099511627776 ≤ v ∧ v ≤ 1099511627776) (hr : 1 ≤ r ∧ r ≤ 4) : Calls Tryz.prog 18 #[.int .i64 v, .int .i64 u, .int .i64 r] w (RetV w (.int .i64 (toF u r v))) := by
  obtain rfl | rfl | rfl | rfl : r = 1 ∨ r = 2 ∨ r = 3 ∨ r = 4 := by omega
  · exact ref_To1 v u w hu hv
  · exact ref_To2 v u w hu hv
  · exact ref_To3 v u w hu hv
  · exact ref_To4 v u w hu hv

end Go.Proofs


namespace Go.Proofs
open Go Go.Sx Go.RowKit

end Go.Proofs


namespace Go.Proofs
open Go Go.Sx Go.RowKit

theorem ref_arg {sh : Sh} (hs : isSh sh = true) : (1 ≤ sh.unit ∧ sh.unit ≤ 1048576) ∧ (1 ≤ sh.rule ∧ sh.rule ≤ 4) := by
  have := isSh_b hs
  omega
def RSpS (xs : List Sp) : Nat → World → Value → Prop := fun lo w1 v => ∃ a1 c1, v = .slice a1 xs.length c1 ∧ Ro w1 lo w1.heap.size a1 xs.length c1 2 (spans xs)
theorem rsps_of {xs : List Sp} {n c lo : Nat} {a : Option Addr} {w : World} (hn : xs.length = n) (h : Ro w lo w.heap.size a n c 2 (spans xs)) : RSpS xs lo w (.slice a n c) := by
  subst hn; exact ⟨a, c, rfl, h⟩

set_option maxRecDepth 20000 in
theorem ref_of (sh : Sh) (pt : Pt) (v : Int) (w : World) (hs : isSh sh = true) (hv : -1099511627776 ≤ v ∧ v ≤ 1099511627776) : Calls Tryz.prog 71 #[shV sh pt, (.int .i64 v)] w (RetV w (.int .i64 (fig sh v))) := by
  refine calls_T0 (av := [_, _]) Tryz.func71 rfl rfl rfl ?_
  refine t_seq ?_
  refine t_reg ?_
  refine to_box rfl rfl (fun b2 => ?_)
  refine to_as rfl rfl ?_
  refine to_nil ?_
  refine tn_code ?_
  refine t_seq ?_
  refine t_reg ?_
  refine to_mv rfl rfl ?_
  first | refine to_fa rfl rfl rfl (by simp only [Nat.reduceAdd]; rfl) rfl ?_ | refine to_fae rfl rfl rfl (by simp only [Nat.reduceAdd]; rfl) rfl ?_
  first | refine to_lds rfl rfl rfl ?_ | refine to_ldes rfl (by assumption) rfl rfl ?_
  first | refine to_fa rfl rfl rfl (by simp only [Nat.reduceAdd]; rfl) rfl ?_ | refine to_fae rfl rfl rfl (by simp only [Nat.reduceAdd]; rfl) rfl ?_
  first | refine to_lds rfl rfl rfl ?_ | refine to_ldes rfl (by assumption) rfl rfl ?_
  refine to_call0 rfl rfl (fun w s => ref_To v sh.unit sh.rule w (ref_arg hs).1 hv (ref_arg hs).2) rfl ?_
  refine to_as rfl rfl ?_
  refine to_nil ?_
  refine tn_code ?_
  refine t_ret1 rfl rfl (res_tmp rfl) (fun w' s => ?_)
  rfl

set_option maxRecDepth 20000 in
theorem ref_Bounds (sh : Sh) (pt : Pt) (k : Nat) (e : Int) (w : World) (hre : Ro w 0 w.heap.size pt.ea sh.errs.length pt.ec 1 (ints sh.errs)) (hrr : Ro w 0 w.heap.size pt.ra sh.rows.length pt.rc 1 (ints sh.rows)) (hs : isSh sh = true) (he : sh.errs[k]? = some e) : Calls Tryz.prog 70 #[shV sh pt, (.int .i64 (k : Int))] w (Ret w (RSpS (bndL sh e))) := by
  have heb := errs_b (isSh_e hs) e (List.mem_of_getElem? he)
  have hbb := isSh_b hs
  have hxe := map_get (f := intC) he
  have hke := (List.getElem?_eq_some_iff.1 he).1
  refine calls_T (av := [_, _]) Tryz.func70 rfl rfl rfl ?_
  refine t_seq ?_
  refine t_reg ?_
  refine to_box rfl rfl (fun b2 => ?_)
  refine to_as rfl rfl ?_
  refine to_nil ?_
  refine tn_code ?_
  refine t_seq ?_
  refine t_reg ?_
  refine to_as rfl rfl ?_
  refine to_nil ?_
  refine tn_code ?_
  refine t_seq ?_
  refine t_seq ?_
  refine t_reg ?_
  refine to_as rfl rfl ?_
  refine to_nil ?_
  refine tn_code ?_
  refine t_blk ?_
  refine t_nilrow 53 2 ?_
  refine t_loop2 (ι := Nat × Option Addr × Nat) (fun ((i, a', c') : Nat × Option Addr × Nat) => i ≤ sh.rows.length) (fun ((i, a', c') : Nat × Option Addr × Nat) => [(1, (.int .i64 (k : Int))), (2, (.pointer (some ⟨b2, 0, none⟩))), (5, .slice a' i c'), (6, (.int .i64 (i : Int)))]) (fun ((i, a', c') : Nat × Option Addr × Nat) => [.row a' i c' 53 2 (spans ((sh.rows.take i).map fun r => (r - e, r + e))), .own b2 (isC (shC sh pt) 33), .snap 0 w.heap.size w]) (fun ((i, a', c') : Nat × Option Addr × Nat) => sh.rows.length - i) ((0, none, 0)) [.row none 0 0 53 2 [], .own b2 (isC (shC sh pt) 33), .snap 0 w.heap.size w] (rfl) (Nat.zero_le _) (⟨rfl, rfl, rfl, rfl, trivial⟩) ?_
  rintro ⟨i, a', c'⟩ hk
  try dsimp only at hk
  show T _ _ _ ⟨_, [(1, (.int .i64 (k : Int))), (2, (.pointer (some ⟨b2, 0, none⟩))), (5, .slice a' i c'), (6, (.int .i64 (i : Int)))], _⟩ [.row a' i c' 53 2 (spans ((sh.rows.take i).map fun r => (r - e, r + e))), .own b2 (isC (shC sh pt) 33), .snap 0 w.heap.size w]
  refine t_seq ?_
  refine t_seq ?_
  refine t_reg ?_
  refine to_mv rfl rfl ?_
  first | refine to_fa rfl rfl rfl (by simp only [Nat.reduceAdd]; rfl) rfl ?_ | refine to_fae rfl rfl rfl (by simp only [Nat.reduceAdd]; rfl) rfl ?_
  first | refine to_lds rfl rfl rfl ?_ | refine to_ldes rfl (by assumption) rfl rfl ?_
  refine to_lenS rfl rfl ?_
  refine to_lss rfl rfl rfl ?_
  refine to_nil ?_
  refine tn_code ?_
  refine t_if rfl (fun h1 => ?_) (fun h1 => ?_)
  · try simp only [decide_eq_true_eq, decide_eq_false_iff_not, Bool.not_eq_true', Bool.not_eq_false', Int.not_lt, Int.not_le, ne_eq, Decidable.not_not] at h1
    try have h1b := inB_iff.1 h1
    obtain ⟨r, hr⟩ := some_get (xs := sh.rows) (k := i) (by omega)
    have hrb := isSh_r hs (List.mem_of_getElem? hr)
    have hxr := map_get (f := intC) hr
    refine t_skip ?_
    refine tn_code ?_
    refine t_seq ?_
    refine t_blk ?_
    refine t_regM [24, 25] [.own b2 (isC (shC sh pt) 33), .snap 0 w.heap.size w] rfl (by kernel_rfl) (by kernel_rfl) ?_
    refine tm_q ?e1 rfl ?q1 ?r1
    case q1 =>
      refine to_mv rfl rfl ?_
      exact tmq_end
    refine tm_q ?e2 rfl ?q2 ?r2
    case q2 =>
      first | refine to_fa rfl rfl rfl (by simp only [Nat.reduceAdd]; rfl) rfl ?_ | refine to_fae rfl rfl rfl (by simp only [Nat.reduceAdd]; rfl) rfl ?_
      exact tmq_end
    refine tm_q ?e3 rfl ?q3 ?r3
    case q3 =>
      first | refine to_lds rfl rfl rfl ?_ | refine to_ldes rfl (by assumption) rfl rfl ?_
      exact tmq_end
    refine tm_q ?e4 rfl ?q4 ?r4
    case q4 =>
      refine to_mv rfl rfl ?_
      exact tmq_end
    refine tm_q ?e5 rfl ?q5 ?r5
    case q5 =>
      first | refine to_ix rfl rfl rfl (by first | omega | decide) (by first | omega | decide) rfl ?_ | refine to_ixi rfl rfl rfl (by omega) (by omega) (by omega) rfl ?_
      exact tmq_end
    refine tm_q ?e6 rfl ?q6 ?r6
    case q6 =>
      first | refine to_lds rfl rfl rfl ?_ | refine to_ldes rfl (by assumption) rfl rfl ?_
      exact tmq_end
    refine tm_q ?e7 rfl ?q7 ?r7
    case q7 =>
      first | refine to_fa rfl rfl rfl (by simp only [Nat.reduceAdd]; rfl) rfl ?_ | refine to_fae rfl rfl rfl (by simp only [Nat.reduceAdd]; rfl) rfl ?_
      exact tmq_end
    refine tm_q ?e8 rfl ?q8 ?r8
    case q8 =>
      first | refine to_lds rfl rfl rfl ?_ | refine to_ldes rfl (by assumption) rfl rfl ?_
      exact tmq_end
    refine tm_q ?e9 rfl ?q9 ?r9
    case q9 =>
      refine to_mv rfl rfl ?_
      exact tmq_end
    refine tm_q ?e10 rfl ?q10 ?r10
    case q10 =>
      first | refine to_ix rfl rfl rfl (by first | omega | decide) (by first | omega | decide) rfl ?_ | refine to_ixi rfl rfl rfl (by omega) (by omega) (by omega) rfl ?_
      exact tmq_end
    refine tm_q ?e11 rfl ?q11 ?r11
    case q11 =>
      first | refine to_lds rfl rfl rfl ?_ | refine to_ldes rfl (by assumption) rfl rfl ?_
      exact tmq_end
    refine tm_q ?e12 rfl ?q12 ?r12
    case q12 =>
      refine to_sub rfl rfl (by omega) rfl ?_
      exact tmq_end
    refine tm_q ?e13 rfl ?q13 ?r13
    case q13 =>
      first | refine to_fa rfl rfl rfl (by simp only [Nat.reduceAdd]; rfl) rfl ?_ | refine to_fae rfl rfl rfl (by simp only [Nat.reduceAdd]; rfl) rfl ?_
      exact tmq_end
    refine tm_q ?e14 rfl ?q14 ?r14
    case q14 =>
      first | refine to_lds rfl rfl rfl ?_ | refine to_ldes rfl (by assumption) rfl rfl ?_
      exact tmq_end
    refine tm_q ?e15 rfl ?q15 ?r15
    case q15 =>
      refine to_mv rfl rfl ?_
      exact tmq_end
    refine tm_q ?e16 rfl ?q16 ?r16
    case q16 =>
      first | refine to_ix rfl rfl rfl (by first | omega | decide) (by first | omega | decide) rfl ?_ | refine to_ixi rfl rfl rfl (by omega) (by omega) (by omega) rfl ?_
      exact tmq_end
    refine tm_q ?e17 rfl ?q17 ?r17
    case q17 =>
      first | refine to_lds rfl rfl rfl ?_ | refine to_ldes rfl (by assumption) rfl rfl ?_
      exact tmq_end
    refine tm_q ?e18 rfl ?q18 ?r18
    case q18 =>
      first | refine to_fa rfl rfl rfl (by simp only [Nat.reduceAdd]; rfl) rfl ?_ | refine to_fae rfl rfl rfl (by simp only [Nat.reduceAdd]; rfl) rfl ?_
      exact tmq_end
    refine tm_q ?e19 rfl ?q19 ?r19
    case q19 =>
      first | refine to_lds rfl rfl rfl ?_ | refine to_ldes rfl (by assumption) rfl rfl ?_
      exact tmq_end
    refine tm_q ?e20 rfl ?q20 ?r20
    case q20 =>
      refine to_mv rfl rfl ?_
      exact tmq_end
    refine tm_q ?e21 rfl ?q21 ?r21
    case q21 =>
      first | refine to_ix rfl rfl rfl (by first | omega | decide) (by first | omega | decide) rfl ?_ | refine to_ixi rfl rfl rfl (by omega) (by omega) (by omega) rfl ?_
      exact tmq_end
    refine tm_q ?e22 rfl ?q22 ?r22
    case q22 =>
      first | refine to_lds rfl rfl rfl ?_ | refine to_ldes rfl (by assumption) rfl rfl ?_
      exact tmq_end
    refine tm_q ?e23 rfl ?q23 ?r23
    case q23 =>
      refine to_add rfl rfl (by omega) rfl ?_
      exact tmq_end
    refine tm_q ?e24 rfl ?q24 ?r24
    case q24 =>
      refine to_bs rfl rfl ?_
      exact tmq_end
    refine tm_s rfl ?_ (fun _ h => by cases h) rfl
    refine to_bsl rfl rfl rfl rfl (fun a38 => ?_)
    refine tm_se rfl ?_
    refine tm_s rfl ?_ (fun _ h => by cases h) rfl
    refine to_app rfl rfl rfl (by simp [scals, scal]) (by decide) (by omega) (by decide) rfl (fun a39 c39 => ?_)
    refine tm_se rfl ?_
    refine tm_q ?e25 rfl ?q25 ?r25
    case q25 =>
      refine to_as rfl rfl ?_
      exact tmq_end
    refine tm_nil ?_
    refine tn_blk ?_
    refine tn_code ?_
    refine t_reg ?_
    refine to_mv rfl rfl ?_
    refine to_add rfl rfl (by omega) rfl ?_
    refine to_as rfl rfl ?_
    refine to_nil ?_
    exact tn_loop2 ((i + 1, a39, c39)) [.row a39 (i + 1) c39 53 2 (spans ((sh.rows.take i).map fun r => (r - e, r + e)) ++ [[Value.int .i64 (r - e), Value.int .i64 (r + e)]]), .own b2 (isC (shC sh pt) 33), .snap 0 w.heap.size w] (by dsimp only; rw [mapk_succ hr]) (by dsimp only; omega) (by dsimp only; omega) (⟨rfl, rfl, rfl, rfl, trivial⟩)
  · try simp only [decide_eq_true_eq, decide_eq_false_iff_not, Bool.not_eq_true', Bool.not_eq_false', Int.not_lt, Int.not_le, ne_eq, Decidable.not_not] at h1
    try have h1b := inB_iff.1 h1
    have hk2 : i = sh.rows.length := by omega
    subst hk2
    refine t_exit ?_
    refine tx_code ?_
    refine tx_inv ?_
    refine tx_blk ?_
    refine tn_code ?_
    refine t_seq ?_
    refine t_reg ?_
    refine to_mv rfl rfl ?_
    refine to_as rfl rfl ?_
    refine to_nil ?_
    refine tn_code ?_
    refine t_ret1 rfl rfl (res_tmp rfl) (fun w' s => ?_)
    rw [List.take_length] at s; exact rsps_of (by simp [bndL]) (ro_row s)

theorem bnd_len (sh : Sh) (e : Int) : (bndL sh e).length = sh.rows.length := by simp [bndL]
theorem bnd_get {sh : Sh} {e r : Int} {i : Nat} (hr : sh.rows[i]? = some r) : (spans (bndL sh e))[i]? = some (spanC (r - e, r + e)) := by
  have : (bndL sh e)[i]? = some (r - e, r + e) := by simp [bndL, hr]
  exact map_get (f := spanC) this
end Go.Proofs


namespace Go.Proofs
open Go Go.Sx Go.RowKit

end Go.Proofs


namespace Go.Proofs
open Go Go.Sx Go.RowKit

def shortB (sh : Sh) : Bool := decide (sh.errs.length ≤ 7) && decide (sh.rows.length ≤ 7)
theorem short_b {sh : Sh} (h : shortB sh = true) : sh.errs.length ≤ 7 ∧ sh.rows.length ≤ 7 := by simpa [shortB] using h
theorem c_short (sh : Sh) (pt : Pt) (w : World) : Calls Tryz.prog 20 #[shV sh pt] w (RetV w (.bool (shortB sh))) := law_short sh pt w
theorem okG_no {sh : Sh} (h : isSh sh = false) (gd : Int) : okG sh gd = false := by simp [okG, h]
theorem okG_ng {sh : Sh} {gd : Int} (h : inB gd 0 (sh.errs.length - 1) = false) : okG sh gd = false := by simp [okG, h]
theorem grd_ok {sh : Sh} {k : Nat} {e : Int} (h : sh.errs[k]? = some e) : inB (k : Int) 0 (sh.errs.length - 1) = true := by
  have := (List.getElem?_eq_some_iff.1 h).1
  exact inB_iff.2 (by omega)
theorem grd_ex {sh : Sh} {gd : Int} (h : inB gd 0 (sh.errs.length - 1) = true) : ∃ (k : Nat) (e : Int), gd = (k : Int) ∧ sh.errs[k]? = some e := by
  have hb := inB_iff.1 h
  obtain ⟨k, rfl⟩ := Int.eq_ofNat_of_zero_le hb.1
  obtain ⟨e, he⟩ := some_get (xs := sh.errs) (k := k) (by omega)
  exact ⟨k, e, rfl, he⟩
end Go.Proofs


namespace Go.Proofs
open Go Go.Sx Go.RowKit

end Go.Proofs


namespace Go.Proofs
open Go Go.Sx Go.RowKit

end Go.Proofs


namespace Go.Proofs
open Go Go.Sx Go.RowKit

end Go.Proofs


namespace Go.Proofs
open Go Go.Sx Go.RowKit

theorem rngN_snoc : ∀ (k : Nat) (lo : Int), rngN lo (k + 1) = rngN lo k ++ [lo + k]
  | 0, lo => by simp [rngN]
  | k + 1, lo => by
    rw [rngN, rngN_snoc k (lo + 1)]
    show _ = (lo :: rngN (lo + 1) k) ++ _
    rw [List.cons_append]; congr 3; omega
end Go.Proofs


namespace Go.Proofs
open Go Go.Sx Go.RowKit

end Go.Proofs


namespace Go.Proofs
open Go Go.Sx Go.RowKit

end Go.Proofs


namespace Go.Proofs
open Go Go.Sx Go.RowKit

/-! A drawn region in which two operations that turn the world may come in either order. -/
section
variable {P : Program} {ops : Array Oper} {md : Region.Mode} {C : World → Prop} {S : List Nat}
end
section
variable {x : Cx} {S : List Nat} {k : Nat} {ops : Array Oper} {rest l1 l2 : List (Nat × Oper)} {ks : List KI} {E : Env} {Hb H : List Seg}
end

end Go.Proofs


namespace Go.Proofs
open Go Go.Sx Go.RowKit

end Go.Proofs


namespace Go.Proofs
open Go Go.Sx Go.RowKit

def prnK (sh : Sh) (e r fg : Int) (p : Nat) : List Int := (rngN (r - e) p).filter fun n => decide (fig sh n = fg)
theorem prnK_succ (sh : Sh) (e r fg : Int) (p : Nat) : prnK sh e r fg (p + 1) = if fig sh (r - e + p) = fg then prnK sh e r fg p ++ [r - e + p] else prnK sh e r fg p := by
  simp only [prnK]
  rw [rngN_snoc, List.filter_append]
  split
  · rename_i h; simp [h]
  · rename_i h; simp [h]
theorem prnK_len (sh : Sh) (e r fg : Int) : ∀ p, (prnK sh e r fg p).length ≤ p
  | 0 => by simp [prnK, rngN]
  | p + 1 => by
    have := prnK_len sh e r fg p
    rw [prnK_succ]
    split
    · simp; omega
    · omega
theorem prnK_end {sh : Sh} {e r fg : Int} {p : Nat} (hp : (p : Int) = 2 * e + 1) : prnK sh e r fg p = prnE sh e r fg := by
  simp only [prnK, prnE, exL]
  rw [show p = (2 * e + 1).toNat by omega]
structure Inn where
  lo : Nat
  wd : World
  a : Option Addr
  c : Nat
  xs : List Int
def innS (Ls : List Inn) : List Seg := Ls.map fun x => .snap x.lo x.wd.heap.size x.wd
abbrev innC (x : Inn) : List Value := [.slice x.a x.xs.length x.c]
def xsO (Ls : List Inn) : List (List Int) := Ls.map (·.xs)
theorem xsO_get {Ls : List Inn} {i : Nat} {x : Inn} (h : Ls[i]? = some x) : (xsO Ls)[i]? = some x.xs := by simp [xsO, h]
/-- What others gives: the sums of one number of each list but one. -/
def ROth (Ls : List Inn) (but : Nat) : Nat → World → Value → Prop := fun lo w1 v => ∃ (Q : List Int) (a1 : Option Addr) (c1 : Nat), v = .slice a1 Q.length c1 ∧ Ro w1 lo w1.heap.size a1 Q.length c1 1 (ints Q) ∧ (∀ y, y ∈ Q ↔ IsSum (skipK (xsO Ls) but Ls.length) y) ∧ Q.length ≤ 1419857 ∧ ∀ y ∈ Q, -500040 ≤ y ∧ y ≤ 500040
theorem oth_t {Ls : List Inn} {O : List Int} {but i : Nat} (h : ∀ y, y ∈ O ↔ IsSum (skipK (xsO Ls) but i) y) (hi : i = but) : ∀ y, y ∈ O ↔ IsSum (skipK (xsO Ls) but (i + 1)) y := by
  subst hi; rw [skip_t]; exact h
theorem oth_f {Ls : List Inn} {O N : List Int} {but i : Nat} {x : Inn} (h : ∀ y, y ∈ O ↔ IsSum (skipK (xsO Ls) but i) y) (hi : ¬ i = but) (hx : Ls[i]? = some x) (hN : ∀ y, y ∈ N ↔ ∃ u ∈ O.take O.length, ∃ n ∈ x.xs, y = u + n) : ∀ y, y ∈ N ↔ IsSum (skipK (xsO Ls) but (i + 1)) y := by
  intro y
  rw [skip_f hi (xsO_get hx), isSum_snoc, hN, List.take_length]
  constructor
  · rintro ⟨u, hu, n, hn, rfl⟩
    exact ⟨n, hn, by rw [← h, show u + n - n = u by omega]; exact hu⟩
  · rintro ⟨n, hn, hs⟩
    exact ⟨y - n, (h _).2 hs, n, hn, by omega⟩
def InN (O xs N : List Int) (k j : Nat) (u : Int) : Prop := ∀ y, y ∈ N ↔ (∃ v ∈ O.take k, ∃ n ∈ xs, y = v + n) ∨ ∃ n ∈ xs.take j, y = u + n
theorem inN_0 {O xs N : List Int} {k : Nat} {u : Int} (h : ∀ y, y ∈ N ↔ ∃ v ∈ O.take k, ∃ n ∈ xs, y = v + n) : InN O xs N k 0 u := fun y => by rw [h]; simp
theorem inN_add {O xs N : List Int} {k j : Nat} {u n : Int} (h : InN O xs N k j u) (hn : xs[j]? = some n) : InN O xs (N ++ [u + n]) k (j + 1) u := fun y => by
  rw [List.mem_append, h, take_snoc hn]
  simp only [List.mem_append, List.mem_singleton]
  constructor
  · rintro ((h1 | ⟨m, hm, rfl⟩) | rfl)
    · exact .inl h1
    · exact .inr ⟨m, .inl hm, rfl⟩
    · exact .inr ⟨n, .inr rfl, rfl⟩
  · rintro (h1 | ⟨m, hm | rfl, rfl⟩)
    · exact .inl (.inl h1)
    · exact .inl (.inr ⟨m, hm, rfl⟩)
    · exact .inr rfl
theorem inN_has {O xs N : List Int} {k j : Nat} {u n : Int} (h : InN O xs N k j u) (hn : xs[j]? = some n) (hc : N.contains (u + n) = true) : InN O xs N k (j + 1) u := fun y => by
  have hm : u + n ∈ N := by simpa using hc
  rw [h, take_snoc hn]
  simp only [List.mem_append, List.mem_singleton]
  constructor
  · rintro (h1 | ⟨m, hm, rfl⟩)
    · exact .inl h1
    · exact .inr ⟨m, .inl hm, rfl⟩
  · rintro (h1 | ⟨m, hm2 | rfl, rfl⟩)
    · exact .inl h1
    · exact .inr ⟨m, hm2, rfl⟩
    · exact (h _).1 hm
theorem inN_end {O xs N : List Int} {k : Nat} {u : Int} (h : InN O xs N k xs.length u) (hu : O[k]? = some u) : ∀ y, y ∈ N ↔ ∃ v ∈ O.take (k + 1), ∃ n ∈ xs, y = v + n := fun y => by
  rw [h, take_snoc hu, List.take_length]
  constructor
  · rintro (⟨v, hv, h1⟩ | ⟨n, hn, rfl⟩)
    · exact ⟨v, List.mem_append_left _ hv, h1⟩
    · exact ⟨u, by simp, n, hn, rfl⟩
  · rintro ⟨v, hv, n, hn, rfl⟩
    rcases List.mem_append.1 hv with hv | hv
    · exact .inl ⟨v, hv, n, hn, rfl⟩
    · rw [List.mem_singleton.1 hv]; exact .inr ⟨n, hn, rfl⟩
theorem inN_bd {O xs N : List Int} {k j i : Nat} {u : Int} (h : InN O xs N k j u) (hO : ∀ y ∈ O, -(100008 * (i : Int)) ≤ y ∧ y ≤ 100008 * (i : Int)) (hu : -(100008 * (i : Int)) ≤ u ∧ u ≤ 100008 * (i : Int)) (hx : ∀ n ∈ xs, -100008 ≤ n ∧ n ≤ 100008) : ∀ y ∈ N, -(100008 * ((i + 1 : Nat) : Int)) ≤ y ∧ y ≤ 100008 * ((i + 1 : Nat) : Int) := by
  intro y hy
  rcases (h y).1 hy with ⟨v, hv, n, hn, rfl⟩ | ⟨n, hn, rfl⟩
  · have h1 := hO v (List.mem_of_mem_take hv)
    have h2 := hx n hn
    omega
  · have h2 := hx n (List.mem_of_mem_take hn)
    omega

set_option maxRecDepth 20000 in
theorem ref_printing (sh : Sh) (pt : Pt) (k : Nat) (e : Int) (i : Nat) (r fg : Int) (w : World) (hre : Ro w 0 w.heap.size pt.ea sh.errs.length pt.ec 1 (ints sh.errs)) (hrr : Ro w 0 w.heap.size pt.ra sh.rows.length pt.rc 1 (ints sh.rows)) (hs : isSh sh = true) (he : sh.errs[k]? = some e) (hr : sh.rows[i]? = some r) : Calls Tryz.prog 93 #[shV sh pt, (.int .i64 (k : Int)), (.int .i64 (i : Int)), (.int .i64 fg)] w (Ret w (RSl (prnE sh e r fg))) := by
  have heb := errs_b (isSh_e hs) e (List.mem_of_getElem? he)
  have hbb := isSh_b hs
  have hxe := map_get (f := intC) he
  have hke := (List.getElem?_eq_some_iff.1 he).1
  have hbl := bnd_len sh e
  have hrb := isSh_r hs (List.mem_of_getElem? hr)
  have hxr := bnd_get (e := e) hr
  have hir := (List.getElem?_eq_some_iff.1 hr).1
  refine calls_T (av := [_, _, _, _]) Tryz.func93 rfl rfl rfl ?_
  refine t_seq ?_
  refine t_reg ?_
  refine to_box rfl rfl (fun b4 => ?_)
  refine to_as rfl rfl ?_
  refine to_nil ?_
  refine tn_code ?_
  refine t_seq ?_
  refine t_reg ?_
  first | refine to_lda rfl rfl rfl ?_ | refine to_ldea rfl (by assumption) rfl rfl ?_
  refine to_mv rfl rfl ?_
  refine to_callR rfl rfl (fun w s => ref_Bounds sh pt k e w (rdw s) (rdw s) hs he) rfl (fun v14 lo14 w14 hlo14 hR14 => ?_)
  obtain ⟨pa14, pc14, rfl, hro14⟩ := hR14
  rw [hbl] at *
  refine to_mv rfl rfl ?_
  first | refine to_ix rfl rfl rfl (by first | omega | decide) (by first | omega | decide) rfl ?_ | refine to_ixi rfl rfl rfl (by omega) (by omega) (by omega) rfl ?_
  first | refine to_lda rfl rfl rfl ?_ | refine to_ldea rfl (by assumption) rfl rfl ?_
  refine to_alloc rfl (fun b9 => ?_)
  first | refine to_st rfl rfl rfl rfl ?_ | refine to_ste rfl rfl (by assumption) rfl rfl ?_
  refine to_nil ?_
  refine tn_code ?_
  refine t_seq ?_
  refine t_reg ?_
  refine to_as rfl rfl ?_
  refine to_nil ?_
  refine tn_code ?_
  refine t_seq ?_
  refine t_seq ?_
  refine t_reg ?_
  first | refine to_fa rfl rfl rfl (by simp only [Nat.reduceAdd]; rfl) rfl ?_ | refine to_fae rfl rfl rfl (by simp only [Nat.reduceAdd]; rfl) rfl ?_
  first | refine to_lds rfl rfl rfl ?_ | refine to_ldes rfl (by assumption) rfl rfl ?_
  refine to_as rfl rfl ?_
  refine to_nil ?_
  refine tn_code ?_
  refine t_blk ?_
  refine t_nilrow 3 1 ?_
  refine t_loop2 (ι := Nat × Option Addr × Nat) (fun ((p, a', c') : Nat × Option Addr × Nat) => (p : Int) ≤ 2 * e + 1) (fun ((p, a', c') : Nat × Option Addr × Nat) => [(3, (.int .i64 fg)), (4, (.pointer (some ⟨b4, 0, none⟩))), (9, (.pointer (some ⟨b9, 0, none⟩))), (10, .slice a' (prnK sh e r fg p).length c'), (11, (.int .i64 (r - e + (p : Int))))]) (fun ((p, a', c') : Nat × Option Addr × Nat) => [.row a' (prnK sh e r fg p).length c' 3 1 (ints (prnK sh e r fg p)), .own b9 (isC (spanC (r - e, r + e)) 53), .own b4 (isC (shC sh pt) 33), .snap 0 w.heap.size w]) (fun ((p, a', c') : Nat × Option Addr × Nat) => (2 * e + 1).toNat - p) ((0, none, 0)) [.row none 0 0 3 1 [], .own b9 (isC (spanC (r - e, r + e)) 53), .own b4 (isC (shC sh pt) 33), .snap 0 w.heap.size w] (rfl) (by (try dsimp only); omega) (⟨rfl, rfl, rfl, rfl, congrArg (fun z => some (Value.int .i64 z)) (Int.add_zero (r - e)).symm, trivial⟩) ?_
  rintro ⟨p, a', c'⟩ hk
  try dsimp only at hk
  show T _ _ _ ⟨_, [(3, (.int .i64 fg)), (4, (.pointer (some ⟨b4, 0, none⟩))), (9, (.pointer (some ⟨b9, 0, none⟩))), (10, .slice a' (prnK sh e r fg p).length c'), (11, (.int .i64 (r - e + (p : Int))))], _⟩ [.row a' (prnK sh e r fg p).length c' 3 1 (ints (prnK sh e r fg p)), .own b9 (isC (spanC (r - e, r + e)) 53), .own b4 (isC (shC sh pt) 33), .snap 0 w.heap.size w]
  refine t_seq ?_
  refine t_seq ?_
  refine t_reg ?_
  refine to_mv rfl rfl ?_
  first | refine to_fa rfl rfl rfl (by simp only [Nat.reduceAdd]; rfl) rfl ?_ | refine to_fae rfl rfl rfl (by simp only [Nat.reduceAdd]; rfl) rfl ?_
  first | refine to_lds rfl rfl rfl ?_ | refine to_ldes rfl (by assumption) rfl rfl ?_
  refine to_leq rfl rfl rfl ?_
  refine to_nil ?_
  refine tn_code ?_
  refine t_if rfl (fun h1 => ?_) (fun h1 => ?_)
  · try simp only [decide_eq_true_eq, decide_eq_false_iff_not, Bool.not_eq_true', Bool.not_eq_false', Int.not_lt, Int.not_le, ne_eq, Decidable.not_not] at h1
    try have h1b := inB_iff.1 h1
    have hpl := prnK_len sh e r fg p
    refine t_skip ?_
    refine tn_code ?_
    refine t_seq ?_
    refine t_blk ?_
    refine t_seq ?_
    refine t_reg ?_
    first | refine to_lda rfl rfl rfl ?_ | refine to_ldea rfl (by assumption) rfl rfl ?_
    refine to_mv rfl rfl ?_
    refine to_call0 rfl rfl (fun w s => ref_of sh pt _ w hs (by omega)) rfl ?_
    refine to_mv rfl rfl ?_
    refine to_eql rfl rfl rfl ?_
    refine to_nil ?_
    refine tn_code ?_
    refine t_if rfl (fun h2 => ?_) (fun h2 => ?_)
    · try simp only [decide_eq_true_eq, decide_eq_false_iff_not, Bool.not_eq_true', Bool.not_eq_false', Int.not_lt, Int.not_le, ne_eq, Decidable.not_not] at h2
      try have h2b := inB_iff.1 h2
      have hfg := h2
      refine t_reg ?_
      refine to_mv rfl rfl ?_
      refine to_mv rfl rfl ?_
      refine to_bsl rfl rfl rfl rfl (fun a33 => ?_)
      refine to_app rfl rfl rfl (by simp [scals, scal]) (by decide) (by omega) (by decide) rfl (fun a34 c34 => ?_)
      refine to_as rfl rfl ?_
      refine to_nil ?_
      refine tn_blk ?_
      refine tn_code ?_
      refine t_reg ?_
      refine to_mv rfl rfl ?_
      refine to_add rfl rfl (by omega) rfl ?_
      refine to_as rfl rfl ?_
      refine to_nil ?_
      exact tn_loop2 ((p + 1, a34, c34)) [.row a34 ((prnK sh e r fg p).length + 1) c34 3 1 (ints (prnK sh e r fg p) ++ [[.int .i64 (r - e + (p : Int))]]), .own b9 (isC (spanC (r - e, r + e)) 53), .own b4 (isC (shC sh pt) 33), .snap 0 w.heap.size w] (by dsimp only; rw [prnK_succ, if_pos hfg]; simp) (by dsimp only; omega) (by dsimp only; omega) (⟨rfl, rfl, rfl, congrArg some (by rw [prnK_succ, if_pos hfg]; simp), congrArg (fun z => some (Value.int .i64 z)) (Int.add_assoc (r - e) p 1), trivial⟩)
    · try simp only [decide_eq_true_eq, decide_eq_false_iff_not, Bool.not_eq_true', Bool.not_eq_false', Int.not_lt, Int.not_le, ne_eq, Decidable.not_not] at h2
      try have h2b := inB_iff.1 h2
      have hfg := h2
      refine t_skip ?_
      refine tn_blk ?_
      refine tn_code ?_
      refine t_reg ?_
      refine to_mv rfl rfl ?_
      refine to_add rfl rfl (by omega) rfl ?_
      refine to_as rfl rfl ?_
      refine to_nil ?_
      exact tn_loop2 ((p + 1, a', c')) [.row a' (prnK sh e r fg p).length c' 3 1 (ints (prnK sh e r fg p)), .own b9 (isC (spanC (r - e, r + e)) 53), .own b4 (isC (shC sh pt) 33), .snap 0 w.heap.size w] (by dsimp only; rw [prnK_succ, if_neg hfg]) (by dsimp only; omega) (by dsimp only; omega) (⟨rfl, rfl, rfl, congrArg some (by rw [prnK_succ, if_neg hfg]), congrArg (fun z => some (Value.int .i64 z)) (Int.add_assoc (r - e) p 1), trivial⟩)
  · try simp only [decide_eq_true_eq, decide_eq_false_iff_not, Bool.not_eq_true', Bool.not_eq_false', Int.not_lt, Int.not_le, ne_eq, Decidable.not_not] at h1
    try have h1b := inB_iff.1 h1
    have hpe : (p : Int) = 2 * e + 1 := by omega
    rw [prnK_end hpe] at *
    refine t_exit ?_
    refine tx_code ?_
    refine tx_inv ?_
    refine tx_blk ?_
    refine tn_code ?_
    refine t_seq ?_
    refine t_reg ?_
    refine to_mv rfl rfl ?_
    refine to_as rfl rfl ?_
    refine to_nil ?_
    refine tn_code ?_
    refine t_ret1 rfl rfl (res_tmp rfl) (fun w' s => ?_)
    exact ⟨_, _, rfl, ro_row s⟩

set_option maxRecDepth 20000 in
theorem ref_others (Ls : List Inn) (a : Option Addr) (c : Nat) (but : Nat) (w : World) (hrl : Ro w 0 w.heap.size a Ls.length c 1 (Ls.map innC)) (hin : ∀ x ∈ Ls, Ro w 0 w.heap.size x.a x.xs.length x.c 1 (ints x.xs)) (hLl : Ls.length ≤ 5) (hxl : ∀ x ∈ Ls, x.xs.length ≤ 17) (hxb : ∀ x ∈ Ls, ∀ n ∈ x.xs, -100008 ≤ n ∧ n ≤ 100008) : Calls Tryz.prog 94 #[.slice a Ls.length c, (.int .i64 (but : Int))] w (Ret w (ROth Ls but)) := by
  refine calls_T (av := [_, _]) Tryz.func94 rfl rfl rfl ?_
  refine t_seq ?_
  refine t_reg ?_
  refine to_as rfl rfl ?_
  refine to_nil ?_
  refine tn_code ?_
  refine t_seq ?_
  refine t_reg ?_
  refine to_bsl rfl rfl rfl rfl (fun a11 => ?_)
  refine to_as rfl rfl ?_
  refine to_nil ?_
  refine tn_code ?_
  refine t_seq ?_
  refine t_seq ?_
  refine t_reg ?_
  refine to_as rfl rfl ?_
  refine to_nil ?_
  refine tn_code ?_
  refine t_blk ?_
  refine t_loop2 (ι := Nat × List Int × Option Addr × Nat) (fun ((i, O, a', c') : Nat × List Int × Option Addr × Nat) => i ≤ Ls.length ∧ (∀ y, y ∈ O ↔ IsSum (skipK (xsO Ls) but i) y) ∧ O.length ≤ 17 ^ i ∧ ∀ y ∈ O, -(100008 * (i : Int)) ≤ y ∧ y ≤ 100008 * (i : Int)) (fun ((i, O, a', c') : Nat × List Int × Option Addr × Nat) => [(0, .slice a Ls.length c), (1, (.int .i64 (but : Int))), (5, .slice a' O.length c'), (6, (.int .i64 (i : Int)))]) (fun ((i, O, a', c') : Nat × List Int × Option Addr × Nat) => [.row a' O.length c' 3 1 (ints O), .snap 0 w.heap.size w]) (fun ((i, O, a', c') : Nat × List Int × Option Addr × Nat) => Ls.length - i) ((0, [0], a11, 1)) [.row a11 1 1 3 1 [[.int .i64 0]], .snap 0 w.heap.size w] (rfl) (⟨Nat.zero_le _, fun y => by simp [skipK, IsSum], by simp, fun y hy => by (try dsimp only); simp at hy; omega⟩) (⟨rfl, rfl, rfl, rfl, trivial⟩) ?_
  rintro ⟨i, O, a', c'⟩ ⟨hi, hO, hOl, hOb⟩
  try dsimp only at hk
  show T _ _ _ ⟨_, [(0, .slice a Ls.length c), (1, (.int .i64 (but : Int))), (5, .slice a' O.length c'), (6, (.int .i64 (i : Int)))], _⟩ [.row a' O.length c' 3 1 (ints O), .snap 0 w.heap.size w]
  refine t_seq ?_
  refine t_seq ?_
  refine t_reg ?_
  refine to_mv rfl rfl ?_
  refine to_mv rfl rfl ?_
  refine to_lenS rfl rfl ?_
  refine to_lss rfl rfl rfl ?_
  refine to_nil ?_
  refine tn_code ?_
  refine t_if rfl (fun h1 => ?_) (fun h1 => ?_)
  · try simp only [decide_eq_true_eq, decide_eq_false_iff_not, Bool.not_eq_true', Bool.not_eq_false', Int.not_lt, Int.not_le, ne_eq, Decidable.not_not] at h1
    try have h1b := inB_iff.1 h1
    obtain ⟨x, hx⟩ := some_get (xs := Ls) (k := i) (by omega)
    have hxm := List.mem_of_getElem? hx
    have hxv := map_get (f := innC) hx
    have hrx := hin x hxm
    have hxl1 := hxl x hxm
    have hpw : 17 ^ i ≤ 83521 := Nat.le_trans (Nat.pow_le_pow_right (by decide) (show i ≤ 4 by omega)) (by decide)
    refine t_skip ?_
    refine tn_code ?_
    refine t_seq ?_
    refine t_blk ?_
    refine t_seq ?_
    refine t_seq ?_
    refine t_reg ?_
    refine to_mv rfl rfl ?_
    refine to_mv rfl rfl ?_
    refine to_eql rfl rfl rfl ?_
    refine to_nil ?_
    refine tn_code ?_
    refine t_if rfl (fun h2 => ?_) (fun h2 => ?_)
    · try simp only [decide_eq_true_eq, decide_eq_false_iff_not, Bool.not_eq_true', Bool.not_eq_false', Int.not_lt, Int.not_le, ne_eq, Decidable.not_not] at h2
      try have h2b := inB_iff.1 h2
      have hib : i = but := by omega
      refine t_exit ?_
      refine tx_code ?_
      refine tx_blk ?_
      refine tn_code ?_
      refine t_reg ?_
      refine to_mv rfl rfl ?_
      refine to_add rfl rfl (by omega) rfl ?_
      refine to_as rfl rfl ?_
      refine to_nil ?_
      exact tn_loop2 ((i + 1, O, a', c')) [.row a' O.length c' 3 1 (ints O), .snap 0 w.heap.size w] (rfl) (⟨by (try dsimp only); omega, oth_t hO hib, by (try dsimp only); rw [Nat.pow_succ]; omega, fun y hy => by have := hOb y hy; (try dsimp only); omega⟩) (by dsimp only; omega) (⟨rfl, rfl, rfl, rfl, trivial⟩)
    · try simp only [decide_eq_true_eq, decide_eq_false_iff_not, Bool.not_eq_true', Bool.not_eq_false', Int.not_lt, Int.not_le, ne_eq, Decidable.not_not] at h2
      try have h2b := inB_iff.1 h2
      have hib : ¬ i = but := by omega
      refine t_skip ?_
      refine tn_code ?_
      refine t_seq ?_
      refine t_reg ?_
      refine to_as rfl rfl ?_
      refine to_nil ?_
      refine tn_code ?_
      refine t_seq ?_
      refine t_seq ?_
      refine t_reg ?_
      refine to_as rfl rfl ?_
      refine to_nil ?_
      refine tn_code ?_
      refine t_blk ?_
      refine t_nilrow 3 1 ?_
      refine t_loop2 (ι := Nat × List Int × Option Addr × Nat) (fun ((k, N, a2, c2) : Nat × List Int × Option Addr × Nat) => k ≤ O.length ∧ (∀ y, y ∈ N ↔ ∃ v ∈ O.take k, ∃ n ∈ x.xs, y = v + n) ∧ N.length ≤ 17 * k ∧ ∀ y ∈ N, -(100008 * ((i + 1 : Nat) : Int)) ≤ y ∧ y ≤ 100008 * ((i + 1 : Nat) : Int)) (fun ((k, N, a2, c2) : Nat × List Int × Option Addr × Nat) => [(0, .slice a Ls.length c), (1, (.int .i64 (but : Int))), (5, .slice a' O.length c'), (6, (.int .i64 (i : Int))), (7, .slice a2 N.length c2), (8, (.int .i64 (k : Int)))]) (fun ((k, N, a2, c2) : Nat × List Int × Option Addr × Nat) => [.row a2 N.length c2 3 1 (ints N), .row a' O.length c' 3 1 (ints O), .snap 0 w.heap.size w]) (fun ((k, N, a2, c2) : Nat × List Int × Option Addr × Nat) => O.length - k) ((0, [], none, 0)) [.row none 0 0 3 1 [], .row a' O.length c' 3 1 (ints O), .snap 0 w.heap.size w] (rfl) (⟨Nat.zero_le _, fun y => by simp, Nat.zero_le _, fun y hy => by simp at hy⟩) (⟨rfl, rfl, rfl, rfl, rfl, rfl, trivial⟩) ?_
      rintro ⟨k, N, a2, c2⟩ ⟨hk, hN, hNl, hNb⟩
      try dsimp only at hk
      show T _ _ _ ⟨_, [(0, .slice a Ls.length c), (1, (.int .i64 (but : Int))), (5, .slice a' O.length c'), (6, (.int .i64 (i : Int))), (7, .slice a2 N.length c2), (8, (.int .i64 (k : Int)))], _⟩ [.row a2 N.length c2 3 1 (ints N), .row a' O.length c' 3 1 (ints O), .snap 0 w.heap.size w]
      refine t_seq ?_
      refine t_seq ?_
      refine t_reg ?_
      refine to_mv rfl rfl ?_
      refine to_mv rfl rfl ?_
      refine to_lenS rfl rfl ?_
      refine to_lss rfl rfl rfl ?_
      refine to_nil ?_
      refine tn_code ?_
      refine t_if rfl (fun h3 => ?_) (fun h3 => ?_)
      · try simp only [decide_eq_true_eq, decide_eq_false_iff_not, Bool.not_eq_true', Bool.not_eq_false', Int.not_lt, Int.not_le, ne_eq, Decidable.not_not] at h3
        try have h3b := inB_iff.1 h3
        obtain ⟨u, hu⟩ := some_get (xs := O) (k := k) (by omega)
        have hxu := map_get (f := intC) hu
        have hub := hOb u (List.mem_of_getElem? hu)
        refine t_skip ?_
        refine tn_code ?_
        refine t_seq ?_
        refine t_blk ?_
        refine t_seq ?_
        refine t_reg ?_
        refine to_as rfl rfl ?_
        refine to_nil ?_
        refine tn_code ?_
        refine t_blk ?_
        refine t_loop2 (ι := Nat × List Int × Option Addr × Nat) (fun ((j, M, a3, c3) : Nat × List Int × Option Addr × Nat) => j ≤ x.xs.length ∧ InN O x.xs M k j u ∧ M.length ≤ 17 * k + j) (fun ((j, M, a3, c3) : Nat × List Int × Option Addr × Nat) => [(0, .slice a Ls.length c), (1, (.int .i64 (but : Int))), (5, .slice a' O.length c'), (6, (.int .i64 (i : Int))), (7, .slice a3 M.length c3), (8, (.int .i64 (k : Int))), (9, (.int .i64 (j : Int)))]) (fun ((j, M, a3, c3) : Nat × List Int × Option Addr × Nat) => [.row a3 M.length c3 3 1 (ints M), .row a' O.length c' 3 1 (ints O), .snap 0 w.heap.size w]) (fun ((j, M, a3, c3) : Nat × List Int × Option Addr × Nat) => x.xs.length - j) ((0, N, a2, c2)) [.row a2 N.length c2 3 1 (ints N), .row a' O.length c' 3 1 (ints O), .snap 0 w.heap.size w] (rfl) (⟨Nat.zero_le _, inN_0 hN, hNl⟩) (⟨rfl, rfl, rfl, rfl, rfl, rfl, rfl, trivial⟩) ?_
        rintro ⟨j, M, a3, c3⟩ ⟨hj, hM, hMl⟩
        try dsimp only at hk
        show T _ _ _ ⟨_, [(0, .slice a Ls.length c), (1, (.int .i64 (but : Int))), (5, .slice a' O.length c'), (6, (.int .i64 (i : Int))), (7, .slice a3 M.length c3), (8, (.int .i64 (k : Int))), (9, (.int .i64 (j : Int)))], _⟩ [.row a3 M.length c3 3 1 (ints M), .row a' O.length c' 3 1 (ints O), .snap 0 w.heap.size w]
        refine t_seq ?_
        refine t_seq ?_
        refine t_reg ?_
        refine to_mv rfl rfl ?_
        refine to_mv rfl rfl ?_
        refine to_mv rfl rfl ?_
        first | refine to_ix rfl rfl rfl (by first | omega | decide) (by first | omega | decide) rfl ?_ | refine to_ixi rfl rfl rfl (by omega) (by omega) (by omega) rfl ?_
        first | refine to_lds rfl rfl rfl ?_ | refine to_ldes rfl (by assumption) rfl rfl ?_
        refine to_lenS rfl rfl ?_
        refine to_lss rfl rfl rfl ?_
        refine to_nil ?_
        refine tn_code ?_
        refine t_if rfl (fun h4 => ?_) (fun h4 => ?_)
        · try simp only [decide_eq_true_eq, decide_eq_false_iff_not, Bool.not_eq_true', Bool.not_eq_false', Int.not_lt, Int.not_le, ne_eq, Decidable.not_not] at h4
          try have h4b := inB_iff.1 h4
          obtain ⟨n, hn⟩ := some_get (xs := x.xs) (k := j) (by omega)
          have hxn := map_get (f := intC) hn
          have hnb := hxb x hxm n (List.mem_of_getElem? hn)
          refine t_skip ?_
          refine tn_code ?_
          refine t_seq ?_
          refine t_blk ?_
          refine t_seq ?_
          refine t_regM [] [.row a' O.length c' 3 1 (ints O), .snap 0 w.heap.size w] rfl (by kernel_rfl) (by kernel_rfl) ?_
          refine tm_q ?e1 rfl ?q1 ?r1
          case q1 =>
            refine to_mv rfl rfl ?_
            exact tmq_end
          refine tm_q ?e2 rfl ?q2 ?r2
          case q2 =>
            refine to_mv rfl rfl ?_
            exact tmq_end
          refine tm_q ?e3 rfl ?q3 ?r3
          case q3 =>
            first | refine to_ix rfl rfl rfl (by first | omega | decide) (by first | omega | decide) rfl ?_ | refine to_ixi rfl rfl rfl (by omega) (by omega) (by omega) rfl ?_
            exact tmq_end
          refine tm_q ?e4 rfl ?q4 ?r4
          case q4 =>
            first | refine to_lds rfl rfl rfl ?_ | refine to_ldes rfl (by assumption) rfl rfl ?_
            exact tmq_end
          refine tm_q ?e5 rfl ?q5 ?r5
          case q5 =>
            refine to_mv rfl rfl ?_
            exact tmq_end
          refine tm_q ?e6 rfl ?q6 ?r6
          case q6 =>
            refine to_mv rfl rfl ?_
            exact tmq_end
          refine tm_q ?e7 rfl ?q7 ?r7
          case q7 =>
            first | refine to_ix rfl rfl rfl (by first | omega | decide) (by first | omega | decide) rfl ?_ | refine to_ixi rfl rfl rfl (by omega) (by omega) (by omega) rfl ?_
            exact tmq_end
          refine tm_q ?e8 rfl ?q8 ?r8
          case q8 =>
            first | refine to_lds rfl rfl rfl ?_ | refine to_ldes rfl (by assumption) rfl rfl ?_
            exact tmq_end
          refine tm_q ?e9 rfl ?q9 ?r9
          case q9 =>
            refine to_mv rfl rfl ?_
            exact tmq_end
          refine tm_q ?e10 rfl ?q10 ?r10
          case q10 =>
            first | refine to_ix rfl rfl rfl (by first | omega | decide) (by first | omega | decide) rfl ?_ | refine to_ixi rfl rfl rfl (by omega) (by omega) (by omega) rfl ?_
            exact tmq_end
          refine tm_q ?e11 rfl ?q11 ?r11
          case q11 =>
            first | refine to_lds rfl rfl rfl ?_ | refine to_ldes rfl (by assumption) rfl rfl ?_
            exact tmq_end
          refine tm_q ?e12 rfl ?q12 ?r12
          case q12 =>
            refine to_add rfl rfl (by omega) rfl ?_
            exact tmq_end
          refine tm_q ?e13 rfl ?q13 ?r13
          case q13 =>
            refine to_as rfl rfl ?_
            exact tmq_end
          refine tm_nil ?_
          refine tn_code ?_
          refine t_seq ?_
          refine t_reg ?_
          refine to_mv rfl rfl ?_
          refine to_mv rfl rfl ?_
          refine to_call0 rfl rfl (fun w s => ref_Listed M _ _ (u + n) w (rdw s) (by omega)) rfl ?_
          refine to_not rfl rfl ?_
          refine to_nil ?_
          refine tn_code ?_
          refine t_if rfl (fun h5 => ?_) (fun h5 => ?_)
          · try simp only [decide_eq_true_eq, decide_eq_false_iff_not, Bool.not_eq_true', Bool.not_eq_false', Int.not_lt, Int.not_le, ne_eq, Decidable.not_not] at h5
            try have h5b := inB_iff.1 h5
            have hct := h5
            refine t_reg ?_
            refine to_mv rfl rfl ?_
            refine to_mv rfl rfl ?_
            refine to_bsl rfl rfl rfl rfl (fun a54 => ?_)
            refine to_app rfl rfl rfl (by simp [scals, scal]) (by decide) (by omega) (by decide) rfl (fun a55 c55 => ?_)
            refine to_as rfl rfl ?_
            refine to_nil ?_
            refine tn_blk ?_
            refine tn_code ?_
            refine t_reg ?_
            refine to_mv rfl rfl ?_
            refine to_add rfl rfl (by omega) rfl ?_
            refine to_as rfl rfl ?_
            refine to_nil ?_
            exact tn_loop2 ((j + 1, M ++ [u + n], a55, c55)) [.row a55 (M.length + 1) c55 3 1 (ints M ++ [[.int .i64 (u + n)]]), .row a' O.length c' 3 1 (ints O), .snap 0 w.heap.size w] (by simp) (⟨by (try dsimp only); omega, inN_add hM hn, by (try dsimp only); simp; omega⟩) (by dsimp only; omega) (⟨rfl, rfl, rfl, rfl, congrArg some (by simp), rfl, rfl, trivial⟩)
          · try simp only [decide_eq_true_eq, decide_eq_false_iff_not, Bool.not_eq_true', Bool.not_eq_false', Int.not_lt, Int.not_le, ne_eq, Decidable.not_not] at h5
            try have h5b := inB_iff.1 h5
            have hct := h5
            refine t_skip ?_
            refine tn_blk ?_
            refine tn_code ?_
            refine t_reg ?_
            refine to_mv rfl rfl ?_
            refine to_add rfl rfl (by omega) rfl ?_
            refine to_as rfl rfl ?_
            refine to_nil ?_
            exact tn_loop2 ((j + 1, M, a3, c3)) [.row a3 M.length c3 3 1 (ints M), .row a' O.length c' 3 1 (ints O), .snap 0 w.heap.size w] (rfl) (⟨by (try dsimp only); omega, inN_has hM hn hct, by (try dsimp only); omega⟩) (by dsimp only; omega) (⟨rfl, rfl, rfl, rfl, rfl, rfl, rfl, trivial⟩)
        · try simp only [decide_eq_true_eq, decide_eq_false_iff_not, Bool.not_eq_true', Bool.not_eq_false', Int.not_lt, Int.not_le, ne_eq, Decidable.not_not] at h4
          try have h4b := inB_iff.1 h4
          have hk2 : j = x.xs.length := by omega
          subst hk2
          refine t_exit ?_
          refine tx_code ?_
          refine tx_inv ?_
          refine tx_blk ?_
          refine tn_blk ?_
          refine tn_code ?_
          refine t_reg ?_
          refine to_mv rfl rfl ?_
          refine to_add rfl rfl (by omega) rfl ?_
          refine to_as rfl rfl ?_
          refine to_nil ?_
          exact tn_loop2 ((k + 1, M, a3, c3)) [.row a3 M.length c3 3 1 (ints M), .row a' O.length c' 3 1 (ints O), .snap 0 w.heap.size w] (rfl) (⟨by (try dsimp only); omega, inN_end hM hu, by (try dsimp only); omega, inN_bd hM hOb hub (hxb x hxm)⟩) (by dsimp only; omega) (⟨rfl, rfl, rfl, rfl, rfl, rfl, trivial⟩)
      · try simp only [decide_eq_true_eq, decide_eq_false_iff_not, Bool.not_eq_true', Bool.not_eq_false', Int.not_lt, Int.not_le, ne_eq, Decidable.not_not] at h3
        try have h3b := inB_iff.1 h3
        have hk2 : k = O.length := by omega
        subst hk2
        refine t_exit ?_
        refine tx_code ?_
        refine tx_inv ?_
        refine tx_blk ?_
        refine tn_code ?_
        refine t_reg ?_
        refine to_mv rfl rfl ?_
        refine to_as rfl rfl ?_
        refine to_nil ?_
        refine tn_blk ?_
        refine tn_code ?_
        refine t_reg ?_
        refine to_mv rfl rfl ?_
        refine to_add rfl rfl (by omega) rfl ?_
        refine to_as rfl rfl ?_
        refine to_nil ?_
        exact tn_loop2 ((i + 1, N, a2, c2)) [.row a2 N.length c2 3 1 (ints N), .snap 0 w.heap.size w] (rfl) (⟨by (try dsimp only); omega, oth_f hO hib hx hN, by (try dsimp only); rw [Nat.pow_succ]; omega, hNb⟩) (by dsimp only; omega) (⟨rfl, rfl, rfl, rfl, trivial⟩)
  · try simp only [decide_eq_true_eq, decide_eq_false_iff_not, Bool.not_eq_true', Bool.not_eq_false', Int.not_lt, Int.not_le, ne_eq, Decidable.not_not] at h1
    try have h1b := inB_iff.1 h1
    have hk2 : i = Ls.length := by omega
    subst hk2
    have hpw : 17 ^ Ls.length ≤ 1419857 := Nat.le_trans (Nat.pow_le_pow_right (by decide) hLl) (by decide)
    refine t_exit ?_
    refine tx_code ?_
    refine tx_inv ?_
    refine tx_blk ?_
    refine tn_code ?_
    refine t_seq ?_
    refine t_reg ?_
    refine to_mv rfl rfl ?_
    refine to_as rfl rfl ?_
    refine to_nil ?_
    refine tn_code ?_
    refine t_ret1 rfl rfl (res_tmp rfl) (fun w' s => ?_)
    exact ⟨O, a', c', rfl, ro_row s, hO, by omega, fun y hy => by have := hOb y hy; omega⟩

end Go.Proofs


namespace Go.Proofs
open Go Go.Sx Go.RowKit

theorem freeze_st {w0 w : World} {H : List Seg} (s : St w0 H w) (hm : .snap 0 w0.heap.size w0 ∈ H) : St w0 [.snap w0.heap.size w.heap.size w, .snap 0 w0.heap.size w0] w := by
  refine ⟨s.os, s.tape, s.output, s.ge, ?_, ?_, ?_⟩
  · intro q hq
    simp only [List.mem_cons, List.not_mem_nil, or_false] at hq
    rcases hq with rfl | rfl
    · exact Nat.le_refl _
    · exact s.ge
  · intro q hq
    simp only [List.mem_cons, List.not_mem_nil, or_false] at hq
    rcases hq with rfl | rfl
    · exact fun _ _ _ => rfl
    · exact s.ok _ hm
  · refine List.pairwise_cons.2 ⟨fun t ht => ?_, by simp⟩
    rw [List.mem_singleton.1 ht]
    exact .inr (Nat.le_refl _)
/-- All that was made so far stands still from here on. -/
theorem t_freeze {x : Cx} {ks : List KI} {c : Code} {E : Env} {H : List Seg} (w : World) (hw : x.w0 = w) [h0 : SnapAt w H 0 w.heap.size] (h : ∀ w2, St w H w2 → T x ks c E [.snap w.heap.size w2.heap.size w2, .snap 0 w.heap.size w]) : T x ks c E H := by
  subst hw
  exact fun a w2 e s => h w2 s a w2 e (freeze_st s h0.mem)
theorem rb_frz {w w2 : World} {H H2 : List Seg} {b : Nat} {cs : List Value} {te : TypeId} (s : St w H w2) [ho : OwnAt b H (isC cs te) H2] [h0 : SnapAt w H2 0 w.heap.size] : Rb w2 w.heap.size w2.heap.size b cs := by
  have s2 := s.perm ho.perm
  obtain ⟨o, h1, h2⟩ := s2.ok _ (List.mem_cons_self ..)
  simp only [isC] at h2
  subst h2
  refine ⟨?_, (Array.getElem?_eq_some_iff.1 h1).1, te, h1⟩
  rcases (List.pairwise_cons.1 s2.apart).1 _ h0.mem with h | h
  · simp [Seg.hi, Seg.lo] at h
  · simpa [Seg.hi, Seg.lo] using h
theorem inn_rd {w w2 : World} {H : List Seg} {Ls : List Inn} (s : St w H w2) [ht : TailH (innS Ls) H] {y : Inn} (hy : y ∈ Ls) (h : Ro y.wd y.lo y.wd.heap.size y.a y.xs.length y.c 1 (ints y.xs)) (hlo : w.heap.size ≤ y.lo) : Ro w2 w.heap.size w2.heap.size y.a y.xs.length y.c 1 (ints y.xs) := by
  obtain ⟨R, hp⟩ := ht.sub
  have hm : .snap y.lo y.wd.heap.size y.wd ∈ H := hp.mem_iff.2 (List.mem_append_left _ (List.mem_map.2 ⟨y, hy, rfl⟩))
  exact h.mono hlo (s.le _ hm) (fun k h1 h2 => s.ok _ hm k h1 h2)
theorem innV_cons (x : Inn) (Ls : List Inn) : (x :: Ls).reverse.map innC = Ls.reverse.map innC ++ [innC x] := by simp
def InnOk (w : World) (x : Inn) : Prop := x.xs.length ≤ 17 ∧ (∀ n ∈ x.xs, -100008 ≤ n ∧ n ≤ 100008) ∧ x.xs.Pairwise (· < ·) ∧ Ro x.wd x.lo x.wd.heap.size x.a x.xs.length x.c 1 (ints x.xs) ∧ w.heap.size ≤ x.lo
theorem prnE_ok {sh : Sh} {e r fg : Int} (he : 0 ≤ e ∧ e ≤ 8) (hr : -100000 ≤ r ∧ r ≤ 100000) : (prnE sh e r fg).length ≤ 17 ∧ (∀ n ∈ prnE sh e r fg, -100008 ≤ n ∧ n ≤ 100008) ∧ (prnE sh e r fg).Pairwise (· < ·) := by
  refine ⟨?_, fun n hn => ?_, ?_⟩
  · have h := prnK_len sh e r fg (2 * e + 1).toNat
    rw [prnK_end (by omega)] at h
    omega
  · have := (mem_exL he.1).1 (List.mem_filter.1 hn).1
    omega
  · exact List.Pairwise.filter _ (rng_pair _ _)
theorem xs_next {sh : Sh} {e r fg : Int} {fs : List Int} {Ls : List Inn} (x : Inn) (h : xsO Ls.reverse = prnA sh e fs Ls.length) (hr : sh.rows[Ls.length]? = some r) (hf : fs[Ls.length]? = some fg) (hx : x.xs = prnE sh e r fg) : xsO (x :: Ls).reverse = prnA sh e fs (x :: Ls).length := by
  have h1 : xsO (x :: Ls).reverse = xsO Ls.reverse ++ [x.xs] := by simp [xsO]
  rw [h1, h, List.length_cons, prnA, hx]
  simp [List.getD, hr, hf]
theorem inn_next {w : World} {Ls : List Inn} {x : Inn} (h : ∀ y ∈ Ls, InnOk w y) (hx : InnOk w x) : ∀ y ∈ x :: Ls, InnOk w y := by
  intro y hy
  rcases List.mem_cons.1 hy with rfl | hy
  · exact hx
  · exact h y hy
/-- What is seen of a row's numbers. -/
def BSt (P : List Int) (can : Int → Prop) (q : Nat) (m : Bool) (z : Sp) : Prop := (m = true ∧ IsE (fun x => x ∈ P.take q ∧ can x) (some z)) ∨ (m = false ∧ ∀ x ∈ P.take q, ¬ can x)
theorem bs_no {P : List Int} {can : Int → Prop} {q : Nat} {m : Bool} {z : Sp} {n : Int} (h : BSt P can q m z) (hn : P[q]? = some n) (hc : ¬ can n) : BSt P can (q + 1) m z := by
  rw [BSt, take_snoc hn]
  rcases h with ⟨h1, h2⟩ | ⟨h1, h2⟩
  · refine .inl ⟨h1, isE_congr h2 fun x => ?_⟩
    simp only [List.mem_append, List.mem_singleton]
    constructor
    · exact fun hx => ⟨.inl hx.1, hx.2⟩
    · rintro ⟨hx | rfl, hy⟩
      · exact ⟨hx, hy⟩
      · exact absurd hy hc
  · refine .inr ⟨h1, fun x hx => ?_⟩
    rcases List.mem_append.1 hx with hx | hx
    · exact h2 x hx
    · rw [List.mem_singleton.1 hx]; exact hc
theorem bs_first {P : List Int} {can : Int → Prop} {q : Nat} {z : Sp} {n : Int} (h : BSt P can q false z) (hn : P[q]? = some n) (hc : can n) : BSt P can (q + 1) true (n, n) := by
  rw [BSt, take_snoc hn]
  rcases h with ⟨h1, _⟩ | ⟨_, h2⟩
  · cases h1
  · refine .inl ⟨rfl, ⟨by simp, hc⟩, ⟨by simp, hc⟩, ?_⟩
    rintro x ⟨hx, hy⟩
    rcases List.mem_append.1 hx with hx | hx
    · exact absurd hy (h2 x hx)
    · rw [List.mem_singleton.1 hx]; exact ⟨Int.le_refl _, Int.le_refl _⟩
theorem bs_more {P : List Int} {can : Int → Prop} {q : Nat} {z : Sp} {n : Int} (h : BSt P can q true z) (hn : P[q]? = some n) (hc : can n) (hp : P.Pairwise (· < ·)) : BSt P can (q + 1) true (z.1, n) := by
  have hlt : ∀ x ∈ P.take q, x < n := by
    intro x hx
    obtain ⟨j, hj, hxj⟩ := List.getElem_of_mem hx
    obtain ⟨hq, hqn⟩ := List.getElem?_eq_some_iff.1 hn
    have hjq : j < q := by rw [List.length_take] at hj; omega
    rw [List.getElem_take] at hxj
    have := List.pairwise_iff_getElem.1 hp j q (by omega) hq hjq
    rw [hxj, hqn] at this; exact this
  rw [BSt, take_snoc hn]
  rcases h with ⟨_, h1, h2, h3⟩ | ⟨h1, _⟩
  · refine .inl ⟨rfl, ⟨List.mem_append_left _ h1.1, h1.2⟩, ⟨by simp, hc⟩, ?_⟩
    rintro x ⟨hx, hy⟩
    rcases List.mem_append.1 hx with hx | hx
    · have a1 := h3 x ⟨hx, hy⟩
      have a2 := hlt x hx
      (try dsimp only); omega
    · rw [List.mem_singleton.1 hx]
      have a1 := h3 _ h1
      have a2 := hlt _ h1.1
      (try dsimp only); omega
  · cases h1
theorem any_step {Q : List Int} {f : Int → Bool} {j : Nat} {y : Int} (hy : Q[j]? = some y) : (Q.take (j + 1)).any f = ((Q.take j).any f || f y) := by
  rw [take_snoc hy, List.any_append]; simp
theorem can_iff {sh : Sh} {ls : List (List Int)} {i : Nat} {total x : Int} {Q : List Int} (hQ : ∀ y, y ∈ Q ↔ IsSum (skipK ls i ls.length) y) : Q.any (fun y => decide (fig sh (x + y) = total)) = true ↔ canB sh ls i total x := by
  rw [List.any_eq_true, canB]
  constructor
  · rintro ⟨y, hy, h⟩
    exact ⟨y, (hQ y).1 hy, of_decide_eq_true h⟩
  · rintro ⟨y, hy, h⟩
    exact ⟨y, (hQ y).2 hy, decide_eq_true h⟩
def BhNo (sh : Sh) (e : Int) (fs : List Int) (total : Int) : Prop := ∀ (i : Nat) (r fg : Int), sh.rows[i]? = some r → fs[i]? = some fg → ∀ n ∈ prnE sh e r fg, ¬ canB sh (prnA sh e fs sh.rows.length) i total n
def BhYes (sh : Sh) (e : Int) (fs : List Int) (total : Int) (X : List Sp) : Prop := X.length = sh.rows.length ∧ ∀ (i : Nat) (r fg : Int), sh.rows[i]? = some r → fs[i]? = some fg → ∃ z, X[i]? = some z ∧ IsE (fun n => n ∈ prnE sh e r fg ∧ canB sh (prnA sh e fs sh.rows.length) i total n) (some z)
theorem bh_cases {sh : Sh} {e total : Int} {fs : List Int} (hs : isSh sh = true) (he : 0 ≤ e) (hl : fs.length = sh.rows.length) : (bhR sh e fs total = ([], 5) ∧ BhNo sh e fs total) ∨ ∃ X, bhR sh e fs total = (X, 0) ∧ BhYes sh e fs total X := by
  by_cases hh : hasJ sh e fs sh.rows.length
  · rw [bhR_has hh]
    by_cases hT : totL sh (loK (ownJ sh e fs sh.rows.length) sh.rows.length) total (hiK (ownJ sh e fs sh.rows.length) sh.rows.length - loK (ownJ sh e fs sh.rows.length) sh.rows.length + 1).toNat = []
    · rw [if_pos hT]
      exact .inl ⟨rfl, fun i r fg hr hf => (can_rng (total := total) hs he hl hh hr hf _ rfl _ _ rfl rfl).1 hT⟩
    · rw [if_neg hT]
      refine .inr ⟨_, rfl, by rw [List.length_map, ownJ_len (e := e) hl sh.rows.length (by omega)], fun i r fg hr hf => ?_⟩
      have hc := (can_rng (total := total) hs he hl hh hr hf _ rfl _ _ rfl rfl).2 hT _ rfl
      refine ⟨_, by rw [List.getElem?_map, own_get hl hr hf]; rfl, ?_⟩
      exact ⟨(hc.2 _).2 ⟨Int.le_refl _, hc.1⟩, (hc.2 _).2 ⟨hc.1, Int.le_refl _⟩, fun x hx => (hc.2 x).1 hx⟩
  · have hex : ∃ (j : Nat) (r fg : Int), j < sh.rows.length ∧ sh.rows[j]? = some r ∧ fs[j]? = some fg ∧ prnE sh e r fg = [] := by
      refine Classical.byContradiction fun hno => hh fun i hi r fg hr hf hnil => hno ⟨i, r, fg, hi, hr, hf, hnil⟩
    obtain ⟨j, r, fg, hj, hr, hf, hnil⟩ := hex
    refine .inl ⟨bhR_no hr hf hnil, fun i r' fg' hr' hf' n hn hc => ?_⟩
    by_cases hij : j = i
    · subst hij
      rw [hr] at hr'; rw [hf] at hf'
      cases hr'; cases hf'
      rw [hnil] at hn; cases hn
    · obtain ⟨y, hy, _⟩ := hc
      have hg := prnA_get (sh := sh) (e := e) (fs := fs) (k := j) (j := sh.rows.length) hj
      have e1 : sh.rows.getD j 0 = r := by simp [List.getD, hr]
      have e2 : fs.getD j 0 = fg := by simp [List.getD, hf]
      rw [e1, e2, hnil] at hg
      exact isSum_nil (skip_mem hg hij _ (by rw [prnA_len]; exact hj)) hy
theorem bs_met {P : List Int} {can : Int → Prop} {z x : Sp} (h : BSt P can P.length true z) (hx : IsE (fun n => n ∈ P ∧ can n) (some x)) : z = x := by
  rw [BSt, List.take_length] at h
  rcases h with ⟨_, h⟩ | ⟨h, _⟩
  · exact Option.some.inj (isE_uniq h hx)
  · cases h
theorem bs_not {P : List Int} {can : Int → Prop} {z x : Sp} (h : BSt P can P.length false z) (hx : IsE (fun n => n ∈ P ∧ can n) (some x)) : False := by
  rw [BSt, List.take_length] at h
  rcases h with ⟨h, _⟩ | ⟨_, h⟩
  · cases h
  · exact h _ hx.1.1 hx.1.2
theorem bs_none {P : List Int} {can : Int → Prop} {z : Sp} (h : BSt P can P.length true z) (hn : ∀ n ∈ P, ¬ can n) : False := by
  rw [BSt, List.take_length] at h
  rcases h with ⟨_, h⟩ | ⟨h, _⟩
  · exact hn _ h.1.1 h.1.2
  · cases h
theorem tk_next {O X : List Sp} {z : Sp} (h : ∀ j, j < O.length → O[j]? = X[j]?) (hz : X[O.length]? = some z) : ∀ j, j < (O ++ [z]).length → (O ++ [z])[j]? = X[j]? := by
  intro j hj
  simp at hj
  rcases Nat.lt_or_ge j O.length with h1 | h1
  · rw [List.getElem?_append_left h1]; exact h j h1
  · have : j = O.length := by omega
    subst this
    rw [List.getElem?_append_right (Nat.le_refl _), hz]; simp
theorem tk_all {O X : List Sp} (h : ∀ j, j < O.length → O[j]? = X[j]?) (hl : O.length = X.length) : O = X := by
  apply List.ext_getElem?
  intro j
  rcases Nat.lt_or_ge j O.length with h1 | h1
  · exact h j h1
  · rw [List.getElem?_eq_none h1, List.getElem?_eq_none (by omega)]
def RSpB (xs : List Sp) (bb : Bool) : Nat → World → Value → Prop := fun lo w1 v => ∃ a1 c1, v = .tuple #[.slice a1 xs.length c1, .bool bb] ∧ Ro w1 lo w1.heap.size a1 xs.length c1 2 (spans xs)

end Go.Proofs


namespace Go.Proofs
open Go Go.Sx Go.RowKit

set_option maxRecDepth 20000 in
theorem ref_Behind_y (sh : Sh) (pt : Pt) (k : Nat) (e : Int) (fs : List Int) (fa : Option Addr) (fc : Nat) (total : Int) (X : List Sp) (w : World) (hre : Ro w 0 w.heap.size pt.ea sh.errs.length pt.ec 1 (ints sh.errs)) (hrr : Ro w 0 w.heap.size pt.ra sh.rows.length pt.rc 1 (ints sh.rows)) (hs : isSh sh = true) (he : sh.errs[k]? = some e) (hrf : Ro w 0 w.heap.size fa fs.length fc 1 (ints fs)) (hfl : fs.length = sh.rows.length) (hX : BhYes sh e fs total X) : Calls Tryz.prog 55 #[shV sh pt, (.int .i64 (k : Int)), .slice fa fs.length fc, (.int .i64 total)] w (Ret w (RSpB X true)) := by
  have heb := errs_b (isSh_e hs) e (List.mem_of_getElem? he)
  have hbb := isSh_b hs
  have hxe := map_get (f := intC) he
  have hke := (List.getElem?_eq_some_iff.1 he).1
  refine calls_T (av := [_, _, _, _]) Tryz.func55 rfl rfl rfl ?_
  refine t_seq ?_
  refine t_reg ?_
  refine to_box rfl rfl (fun b4 => ?_)
  refine to_as rfl rfl ?_
  refine to_as rfl rfl ?_
  refine to_nil ?_
  refine tn_code ?_
  refine t_seq ?_
  refine t_reg ?_
  refine to_as rfl rfl ?_
  refine to_nil ?_
  refine tn_code ?_
  refine t_seq ?_
  refine t_seq ?_
  refine t_reg ?_
  refine to_as rfl rfl ?_
  refine to_nil ?_
  refine tn_code ?_
  refine t_blk ?_
  refine t_nilrow 30 1 ?_
  refine t_loop2 (ι := List Inn × Option Addr × Nat) (fun ((Ls, a', c') : List Inn × Option Addr × Nat) => Ls.length ≤ sh.rows.length ∧ xsO Ls.reverse = prnA sh e fs Ls.length ∧ ∀ y ∈ Ls, InnOk w y) (fun ((Ls, a', c') : List Inn × Option Addr × Nat) => [(1, (.int .i64 (k : Int))), (2, .slice fa fs.length fc), (3, (.int .i64 total)), (4, (.pointer (some ⟨b4, 0, none⟩))), (10, .slice a' Ls.length c'), (11, (.int .i64 (Ls.length : Int)))]) (fun ((Ls, a', c') : List Inn × Option Addr × Nat) => (.row a' Ls.length c' 30 1 (Ls.reverse.map innC) :: .own b4 (isC (shC sh pt) 33) :: .snap 0 w.heap.size w :: innS Ls)) (fun ((Ls, a', c') : List Inn × Option Addr × Nat) => sh.rows.length - Ls.length) (([], none, 0)) (.row none 0 0 30 1 [] :: .own b4 (isC (shC sh pt) 33) :: .snap 0 w.heap.size w :: []) (rfl) (⟨Nat.zero_le _, rfl, fun y hy => by cases hy⟩) (⟨rfl, rfl, rfl, rfl, rfl, rfl, trivial⟩) ?_
  rintro ⟨Ls, a', c'⟩ ⟨hLs, hxs, hLok⟩
  try dsimp only at hk
  show T _ _ _ ⟨_, [(1, (.int .i64 (k : Int))), (2, .slice fa fs.length fc), (3, (.int .i64 total)), (4, (.pointer (some ⟨b4, 0, none⟩))), (10, .slice a' Ls.length c'), (11, (.int .i64 (Ls.length : Int)))], _⟩ (.row a' Ls.length c' 30 1 (Ls.reverse.map innC) :: .own b4 (isC (shC sh pt) 33) :: .snap 0 w.heap.size w :: innS Ls)
  refine t_seq ?_
  refine t_seq ?_
  refine t_reg ?_
  refine to_mv rfl rfl ?_
  first | refine to_fa rfl rfl rfl (by simp only [Nat.reduceAdd]; rfl) rfl ?_ | refine to_fae rfl rfl rfl (by simp only [Nat.reduceAdd]; rfl) rfl ?_
  first | refine to_lds rfl rfl rfl ?_ | refine to_ldes rfl (by assumption) rfl rfl ?_
  refine to_lenS rfl rfl ?_
  refine to_lss rfl rfl rfl ?_
  refine to_nil ?_
  refine tn_code ?_
  refine t_if rfl (fun h1 => ?_) (fun h1 => ?_)
  · try simp only [decide_eq_true_eq, decide_eq_false_iff_not, Bool.not_eq_true', Bool.not_eq_false', Int.not_lt, Int.not_le, ne_eq, Decidable.not_not] at h1
    try have h1b := inB_iff.1 h1
    obtain ⟨r, hr⟩ := some_get (xs := sh.rows) (k := Ls.length) (by omega)
    obtain ⟨fg, hf⟩ := some_get (xs := fs) (k := Ls.length) (by omega)
    have hxf := map_get (f := intC) hf
    have hrb := isSh_r hs (List.mem_of_getElem? hr)
    have hpo := prnE_ok (sh := sh) (fg := fg) heb hrb
    refine t_skip ?_
    refine tn_code ?_
    refine t_seq ?_
    refine t_blk ?_
    refine t_regM [8, 9, 10] [.own b4 (isC (shC sh pt) 33), .snap 0 w.heap.size w] rfl (by kernel_rfl) (by kernel_rfl) ?_
    refine tm_q ?e1 rfl ?q1 ?r1
    case q1 =>
      refine to_mv rfl rfl ?_
      exact tmq_end
    refine tm_q ?e2 rfl ?q2 ?r2
    case q2 =>
      first | refine to_lda rfl rfl rfl ?_ | refine to_ldea rfl (by assumption) rfl rfl ?_
      exact tmq_end
    refine tm_q ?e3 rfl ?q3 ?r3
    case q3 =>
      refine to_mv rfl rfl ?_
      exact tmq_end
    refine tm_q ?e4 rfl ?q4 ?r4
    case q4 =>
      refine to_mv rfl rfl ?_
      exact tmq_end
    refine tm_q ?e5 rfl ?q5 ?r5
    case q5 =>
      refine to_mv rfl rfl ?_
      exact tmq_end
    refine tm_q ?e6 rfl ?q6 ?r6
    case q6 =>
      refine to_mv rfl rfl ?_
      exact tmq_end
    refine tm_q ?e7 rfl ?q7 ?r7
    case q7 =>
      first | refine to_ix rfl rfl rfl (by first | omega | decide) (by first | omega | decide) rfl ?_ | refine to_ixi rfl rfl rfl (by omega) (by omega) (by omega) rfl ?_
      exact tmq_end
    refine tm_q ?e8 rfl ?q8 ?r8
    case q8 =>
      first | refine to_lds rfl rfl rfl ?_ | refine to_ldes rfl (by assumption) rfl rfl ?_
      exact tmq_end
    refine tm_s rfl ?_ (fun _ h => by cases h) rfl
    refine to_callR rfl rfl (fun w s => ref_printing sh pt k e Ls.length r fg w (rdw s) (rdw s) hs he hr) rfl (fun v35 lo35 w35 hlo35 hR35 => ?_)
    obtain ⟨pa35, pc35, rfl, hro35⟩ := hR35
    refine tm_se rfl ?_
    refine tm_s rfl ?_ (fun _ h => by cases h) rfl
    refine to_bsl rfl rfl rfl rfl (fun a36 => ?_)
    refine tm_se rfl ?_
    refine tm_s rfl ?_ (fun _ h => by cases h) rfl
    refine to_app rfl rfl rfl (by simp [scals, scal]) (by decide) (by omega) (by decide) rfl (fun a37 c37 => ?_)
    refine tm_se rfl ?_
    refine tm_q ?e9 rfl ?q9 ?r9
    case q9 =>
      refine to_as rfl rfl ?_
      exact tmq_end
    refine tm_nil ?_
    refine tn_blk ?_
    refine tn_code ?_
    refine t_reg ?_
    refine to_mv rfl rfl ?_
    refine to_add rfl rfl (by omega) rfl ?_
    refine to_as rfl rfl ?_
    refine to_nil ?_
    exact tn_loop2 ((⟨lo35, w35, pa35, pc35, prnE sh e r fg⟩ :: Ls, a37, c37)) (.row a37 (Ls.length + 1) c37 30 1 (Ls.reverse.map innC ++ [[.slice pa35 (prnE sh e r fg).length pc35]]) :: .own b4 (isC (shC sh pt) 33) :: .snap 0 w.heap.size w :: .snap lo35 w35.heap.size w35 :: innS Ls) (by dsimp only; rw [innV_cons]; rfl) (⟨by (try dsimp only); rw [List.length_cons]; omega, xs_next _ hxs hr hf rfl, inn_next hLok ⟨hpo.1, hpo.2.1, hpo.2.2, hro35, hlo35⟩⟩) (by (try dsimp only); rw [List.length_cons]; omega) (⟨rfl, rfl, rfl, rfl, rfl, rfl, trivial⟩)
  · try simp only [decide_eq_true_eq, decide_eq_false_iff_not, Bool.not_eq_true', Bool.not_eq_false', Int.not_lt, Int.not_le, ne_eq, Decidable.not_not] at h1
    try have h1b := inB_iff.1 h1
    have hLe : Ls.length = sh.rows.length := by omega
    refine t_exit ?_
    refine tx_code ?_
    refine tx_inv ?_
    refine tx_blk ?_
    refine tn_code ?_
    refine t_seq ?_
    refine t_freeze w rfl (fun w2 s2 => ?_)
    obtain ⟨Li, hLd⟩ : ∃ Li, Li = Ls.reverse := ⟨_, rfl⟩
    have hLL : Ls.length = Li.length := by rw [hLd, List.length_reverse]
    have hrowL : Ro w2 w.heap.size w2.heap.size a' Li.length c' 1 (Li.map innC) := by rw [← hLL, hLd]; exact ro_row s2
    have hin0 : ∀ y ∈ Li, InnOk w y := fun y hy => hLok y (by rw [hLd] at hy; exact List.mem_reverse.1 hy)
    have hin : ∀ y ∈ Li, Ro w2 w.heap.size w2.heap.size y.a y.xs.length y.c 1 (ints y.xs) := fun y hy => inn_rd (Ls := Ls) s2 (by rw [hLd] at hy; exact List.mem_reverse.1 hy) (hin0 y hy).2.2.2.1 (hin0 y hy).2.2.2.2
    have hb4 := rb_frz s2 (b := b4)
    have hLx : xsO Li = prnA sh e fs sh.rows.length := by rw [hLd, hxs, hLe]
    have hLn : Li.length = sh.rows.length := by omega
    clear s2 hxs
    rw [hLL]
    refine t_reg ?_
    refine to_as rfl rfl ?_
    refine to_nil ?_
    refine tn_code ?_
    refine t_seq ?_
    refine t_seq ?_
    refine t_reg ?_
    refine to_as rfl rfl ?_
    refine to_nil ?_
    refine tn_code ?_
    refine t_blk ?_
    refine t_nilrow 53 2 ?_
    refine t_loop2 (ι := List Sp × Option Addr × Nat) (fun ((O, a2, c2) : List Sp × Option Addr × Nat) => O.length ≤ Li.length ∧ ∀ j, j < O.length → O[j]? = X[j]?) (fun ((O, a2, c2) : List Sp × Option Addr × Nat) => [(3, (.int .i64 total)), (4, (.pointer (some ⟨b4, 0, none⟩))), (10, .slice a' Li.length c'), (12, .slice a2 O.length c2), (13, (.int .i64 (O.length : Int)))]) (fun ((O, a2, c2) : List Sp × Option Addr × Nat) => [.row a2 O.length c2 53 2 (spans O), .snap w.heap.size w2.heap.size w2, .snap 0 w.heap.size w]) (fun ((O, a2, c2) : List Sp × Option Addr × Nat) => Li.length - O.length) (([], none, 0)) [.row none 0 0 53 2 [], .snap w.heap.size w2.heap.size w2, .snap 0 w.heap.size w] (rfl) (⟨Nat.zero_le _, fun j hj => absurd hj (Nat.not_lt_zero _)⟩) (⟨rfl, rfl, rfl, rfl, rfl, trivial⟩) ?_
    rintro ⟨O, a2, c2⟩ ⟨hOl, hOX⟩
    try dsimp only at hk
    show T _ _ _ ⟨_, [(3, (.int .i64 total)), (4, (.pointer (some ⟨b4, 0, none⟩))), (10, .slice a' Li.length c'), (12, .slice a2 O.length c2), (13, (.int .i64 (O.length : Int)))], _⟩ [.row a2 O.length c2 53 2 (spans O), .snap w.heap.size w2.heap.size w2, .snap 0 w.heap.size w]
    refine t_seq ?_
    refine t_seq ?_
    refine t_reg ?_
    refine to_mv rfl rfl ?_
    refine to_mv rfl rfl ?_
    refine to_lenS rfl rfl ?_
    refine to_lss rfl rfl rfl ?_
    refine to_nil ?_
    refine tn_code ?_
    refine t_if rfl (fun h2 => ?_) (fun h2 => ?_)
    · try simp only [decide_eq_true_eq, decide_eq_false_iff_not, Bool.not_eq_true', Bool.not_eq_false', Int.not_lt, Int.not_le, ne_eq, Decidable.not_not] at h2
      try have h2b := inB_iff.1 h2
      obtain ⟨y, hy⟩ := some_get (xs := Li) (k := O.length) (by omega)
      obtain ⟨r, hr⟩ := some_get (xs := sh.rows) (k := O.length) (by omega)
      obtain ⟨fg, hf⟩ := some_get (xs := fs) (k := O.length) (by omega)
      have hym := List.mem_of_getElem? hy
      have hxy := map_get (f := innC) hy
      have hry := hin y hym
      have hyl := (hin0 y hym).1
      have hyp := (hin0 y hym).2.2.1
      have hyx : y.xs = prnE sh e r fg := by
        have h9 := xsO_get hy
        rw [hLx, prnA_get (by omega)] at h9
        have h8 := Option.some.inj h9
        rw [← h8]; simp [List.getD, hr, hf]
      have hpl : (prnA sh e fs sh.rows.length).length = Li.length := by rw [prnA_len]; omega
      obtain ⟨zx, hXz, hXE⟩ := hX.2 O.length r fg hr hf
      rw [← hyx] at hXE
      refine t_skip ?_
      refine tn_code ?_
      refine t_seq ?_
      refine t_blk ?_
      refine t_seq ?_
      refine t_reg ?_
      refine to_mv rfl rfl ?_
      refine to_mv rfl rfl ?_
      refine to_callR rfl rfl (fun w s => ref_others Li a' c' O.length w (rdw s) (fun y hy => by haveI := hin y hy; exact rdw s) (by omega) (fun y hy => (hin0 y hy).1) (fun y hy => (hin0 y hy).2.1)) rfl (fun v46 lo46 w46 hlo46 hR46 => ?_)
      obtain ⟨Q46, pa46, pc46, rfl, hro46, hQ46, hQl46, hQb46⟩ := hR46
      refine to_as rfl rfl ?_
      refine to_nil ?_
      refine tn_code ?_
      refine t_seq ?_
      refine t_reg ?_
      refine to_as rfl rfl ?_
      refine to_nil ?_
      refine tn_code ?_
      refine t_seq ?_
      refine t_reg ?_
      refine to_alloc rfl (fun b16 => ?_)
      refine to_nil ?_
      refine tn_code ?_
      refine t_seq ?_
      refine t_seq ?_
      refine t_reg ?_
      refine to_as rfl rfl ?_
      refine to_nil ?_
      refine tn_code ?_
      refine t_blk ?_
      refine t_loop2 (ι := Nat × Bool × Sp) (fun ((q, mm, z) : Nat × Bool × Sp) => q ≤ y.xs.length ∧ BSt y.xs (canB sh (prnA sh e fs sh.rows.length) O.length total) q mm z) (fun ((q, mm, z) : Nat × Bool × Sp) => [(3, (.int .i64 total)), (4, (.pointer (some ⟨b4, 0, none⟩))), (10, .slice a' Li.length c'), (12, .slice a2 O.length c2), (13, (.int .i64 (O.length : Int))), (14, .slice pa46 Q46.length pc46), (15, .bool mm), (16, (.pointer (some ⟨b16, 0, none⟩))), (17, (.int .i64 (q : Int)))]) (fun ((q, mm, z) : Nat × Bool × Sp) => [.own b16 (isC [.int .i64 z.1, .int .i64 z.2] 53), .row a2 O.length c2 53 2 (spans O), .snap lo46 w46.heap.size w46, .snap w.heap.size w2.heap.size w2, .snap 0 w.heap.size w]) (fun ((q, mm, z) : Nat × Bool × Sp) => y.xs.length - q) ((0, false, (0, 0))) [.own b16 (isC [.int .i64 0, .int .i64 0] 53), .row a2 O.length c2 53 2 (spans O), .snap lo46 w46.heap.size w46, .snap w.heap.size w2.heap.size w2, .snap 0 w.heap.size w] (rfl) (⟨Nat.zero_le _, .inr ⟨rfl, fun x hx => by simp at hx⟩⟩) (⟨rfl, rfl, rfl, rfl, rfl, rfl, rfl, rfl, rfl, trivial⟩) ?_
      rintro ⟨q, mm, z⟩ ⟨hq, hBS⟩
      try dsimp only at hk
      show T _ _ _ ⟨_, [(3, (.int .i64 total)), (4, (.pointer (some ⟨b4, 0, none⟩))), (10, .slice a' Li.length c'), (12, .slice a2 O.length c2), (13, (.int .i64 (O.length : Int))), (14, .slice pa46 Q46.length pc46), (15, .bool mm), (16, (.pointer (some ⟨b16, 0, none⟩))), (17, (.int .i64 (q : Int)))], _⟩ [.own b16 (isC [.int .i64 z.1, .int .i64 z.2] 53), .row a2 O.length c2 53 2 (spans O), .snap lo46 w46.heap.size w46, .snap w.heap.size w2.heap.size w2, .snap 0 w.heap.size w]
      refine t_seq ?_
      refine t_seq ?_
      refine t_reg ?_
      refine to_mv rfl rfl ?_
      refine to_mv rfl rfl ?_
      refine to_mv rfl rfl ?_
      first | refine to_ix rfl rfl rfl (by first | omega | decide) (by first | omega | decide) rfl ?_ | refine to_ixi rfl rfl rfl (by omega) (by omega) (by omega) rfl ?_
      first | refine to_lds rfl rfl rfl ?_ | refine to_ldes rfl (by assumption) rfl rfl ?_
      refine to_lenS rfl rfl ?_
      refine to_lss rfl rfl rfl ?_
      refine to_nil ?_
      refine tn_code ?_
      refine t_if rfl (fun h3 => ?_) (fun h3 => ?_)
      · try simp only [decide_eq_true_eq, decide_eq_false_iff_not, Bool.not_eq_true', Bool.not_eq_false', Int.not_lt, Int.not_le, ne_eq, Decidable.not_not] at h3
        try have h3b := inB_iff.1 h3
        obtain ⟨xv, hxq⟩ := some_get (xs := y.xs) (k := q) (by omega)
        have hxx := map_get (f := intC) hxq
        have hxb := (hin0 y hym).2.1 xv (List.mem_of_getElem? hxq)
        have hci := can_iff (sh := sh) (ls := prnA sh e fs sh.rows.length) (i := O.length) (total := total) (x := xv) (Q := Q46) (by rw [hpl, ← hLx]; exact hQ46)
        refine t_skip ?_
        refine tn_code ?_
        refine t_seq ?_
        refine t_blk ?_
        refine t_seq ?_
        refine t_reg ?_
        refine to_as rfl rfl ?_
        refine to_nil ?_
        refine tn_code ?_
        refine t_seq ?_
        refine t_seq ?_
        refine t_reg ?_
        refine to_as rfl rfl ?_
        refine to_nil ?_
        refine tn_code ?_
        refine t_blk ?_
        refine t_loop2 (ι := Nat) (fun j => j ≤ Q46.length) (fun j => [(3, (.int .i64 total)), (4, (.pointer (some ⟨b4, 0, none⟩))), (10, .slice a' Li.length c'), (12, .slice a2 O.length c2), (13, (.int .i64 (O.length : Int))), (14, .slice pa46 Q46.length pc46), (15, .bool mm), (16, (.pointer (some ⟨b16, 0, none⟩))), (17, (.int .i64 (q : Int))), (18, .bool ((Q46.take j).any fun y => decide (fig sh (xv + y) = total))), (19, (.int .i64 (j : Int)))]) (fun j => [.own b16 (isC [.int .i64 z.1, .int .i64 z.2] 53), .row a2 O.length c2 53 2 (spans O), .snap lo46 w46.heap.size w46, .snap w.heap.size w2.heap.size w2, .snap 0 w.heap.size w]) (fun j => Q46.length - j) (0) [.own b16 (isC [.int .i64 z.1, .int .i64 z.2] 53), .row a2 O.length c2 53 2 (spans O), .snap lo46 w46.heap.size w46, .snap w.heap.size w2.heap.size w2, .snap 0 w.heap.size w] (rfl) (Nat.zero_le _) (⟨rfl, rfl, rfl, rfl, rfl, rfl, rfl, rfl, rfl, rfl, rfl, trivial⟩) ?_
        rintro j hk
        show T _ _ _ ⟨_, [(3, (.int .i64 total)), (4, (.pointer (some ⟨b4, 0, none⟩))), (10, .slice a' Li.length c'), (12, .slice a2 O.length c2), (13, (.int .i64 (O.length : Int))), (14, .slice pa46 Q46.length pc46), (15, .bool mm), (16, (.pointer (some ⟨b16, 0, none⟩))), (17, (.int .i64 (q : Int))), (18, .bool ((Q46.take j).any fun y => decide (fig sh (xv + y) = total))), (19, (.int .i64 (j : Int)))], _⟩ [.own b16 (isC [.int .i64 z.1, .int .i64 z.2] 53), .row a2 O.length c2 53 2 (spans O), .snap lo46 w46.heap.size w46, .snap w.heap.size w2.heap.size w2, .snap 0 w.heap.size w]
        refine t_seq ?_
        refine t_seq ?_
        refine t_reg ?_
        refine to_mv rfl rfl ?_
        refine to_mv rfl rfl ?_
        refine to_lenS rfl rfl ?_
        refine to_lss rfl rfl rfl ?_
        refine to_nil ?_
        refine tn_code ?_
        refine t_if rfl (fun h4 => ?_) (fun h4 => ?_)
        · try simp only [decide_eq_true_eq, decide_eq_false_iff_not, Bool.not_eq_true', Bool.not_eq_false', Int.not_lt, Int.not_le, ne_eq, Decidable.not_not] at h4
          try have h4b := inB_iff.1 h4
          obtain ⟨yv, hyq⟩ := some_get (xs := Q46) (k := j) (by omega)
          have hyy := map_get (f := intC) hyq
          have hyb := hQb46 yv (List.mem_of_getElem? hyq)
          refine t_skip ?_
          refine tn_code ?_
          refine t_seq ?_
          refine t_blk ?_
          refine t_regD rfl (by kernel_rfl) (by kernel_rfl) ?_
          refine to_mv rfl rfl ?_
          refine to_mv rfl rfl ?_
          refine to_gs rfl rfl rfl (fun h5 => ?_) (fun h5 => ?_)
          · try simp only [decide_eq_true_eq, decide_eq_false_iff_not, Bool.not_eq_true', Bool.not_eq_false', Int.not_lt, Int.not_le, ne_eq, Decidable.not_not] at h5
            try have h5b := inB_iff.1 h5
            have hany := h5
            refine to_gf rfl rfl rfl rfl ?_
            refine to_gf rfl rfl rfl rfl ?_
            refine to_gf rfl rfl rfl rfl ?_
            refine to_gf rfl rfl rfl rfl ?_
            refine to_gf rfl rfl rfl rfl ?_
            refine to_gf rfl rfl rfl rfl ?_
            refine to_gf rfl rfl rfl rfl ?_
            refine to_gf rfl rfl rfl rfl ?_
            refine to_gf rfl rfl rfl rfl ?_
            refine to_gf rfl rfl rfl rfl ?_
            refine to_gf rfl rfl rfl rfl ?_
            refine to_gf rfl rfl rfl rfl ?_
            refine to_gf rfl rfl rfl rfl ?_
            refine to_gf rfl rfl rfl rfl ?_
            refine to_gf rfl rfl rfl rfl ?_
            refine to_gf rfl rfl rfl rfl ?_
            refine to_pkT rfl rfl rfl ?_
            refine to_as rfl rfl ?_
            refine to_nil ?_
            refine tn_blk ?_
            refine tn_code ?_
            refine t_reg ?_
            refine to_mv rfl rfl ?_
            refine to_add rfl rfl (by omega) rfl ?_
            refine to_as rfl rfl ?_
            refine to_nil ?_
            exact tn_loop2 (j + 1) [.own b16 (isC [.int .i64 z.1, .int .i64 z.2] 53), .row a2 O.length c2 53 2 (spans O), .snap lo46 w46.heap.size w46, .snap w.heap.size w2.heap.size w2, .snap 0 w.heap.size w] (rfl) (by omega) (by omega) (⟨rfl, rfl, rfl, rfl, rfl, rfl, rfl, rfl, rfl, congrArg (fun z => some (Value.bool z)) (by rw [any_step hyq, hany]; rfl), rfl, trivial⟩)
          · try simp only [decide_eq_true_eq, decide_eq_false_iff_not, Bool.not_eq_true', Bool.not_eq_false', Int.not_lt, Int.not_le, ne_eq, Decidable.not_not] at h5
            try have h5b := inB_iff.1 h5
            have hany := h5
            refine to_gt rfl rfl ?_
            first | refine to_lda rfl rfl rfl ?_ | refine to_ldea rfl (by assumption) rfl rfl ?_
            refine to_gt rfl rfl ?_
            refine to_mv rfl rfl ?_
            refine to_gt rfl rfl ?_
            refine to_mv rfl rfl ?_
            refine to_gt rfl rfl ?_
            first | refine to_ix rfl rfl rfl (by first | omega | decide) (by first | omega | decide) rfl ?_ | refine to_ixi rfl rfl rfl (by omega) (by omega) (by omega) rfl ?_
            refine to_gt rfl rfl ?_
            first | refine to_lds rfl rfl rfl ?_ | refine to_ldes rfl (by assumption) rfl rfl ?_
            refine to_gt rfl rfl ?_
            refine to_mv rfl rfl ?_
            refine to_gt rfl rfl ?_
            first | refine to_ix rfl rfl rfl (by first | omega | decide) (by first | omega | decide) rfl ?_ | refine to_ixi rfl rfl rfl (by omega) (by omega) (by omega) rfl ?_
            refine to_gt rfl rfl ?_
            first | refine to_lds rfl rfl rfl ?_ | refine to_ldes rfl (by assumption) rfl rfl ?_
            refine to_gt rfl rfl ?_
            refine to_mv rfl rfl ?_
            refine to_gt rfl rfl ?_
            refine to_mv rfl rfl ?_
            refine to_gt rfl rfl ?_
            first | refine to_ix rfl rfl rfl (by first | omega | decide) (by first | omega | decide) rfl ?_ | refine to_ixi rfl rfl rfl (by omega) (by omega) (by omega) rfl ?_
            refine to_gt rfl rfl ?_
            first | refine to_lds rfl rfl rfl ?_ | refine to_ldes rfl (by assumption) rfl rfl ?_
            refine to_gt rfl rfl ?_
            refine to_add rfl rfl (by omega) rfl ?_
            refine to_gt rfl rfl ?_
            refine to_call0 rfl rfl (fun w s => ref_of sh pt _ w hs (by omega)) rfl ?_
            refine to_gt rfl rfl ?_
            refine to_mv rfl rfl ?_
            refine to_gt rfl rfl ?_
            refine to_eql rfl rfl rfl ?_
            refine to_pkF rfl rfl rfl ?_
            refine to_as rfl rfl ?_
            refine to_nil ?_
            refine tn_blk ?_
            refine tn_code ?_
            refine t_reg ?_
            refine to_mv rfl rfl ?_
            refine to_add rfl rfl (by omega) rfl ?_
            refine to_as rfl rfl ?_
            refine to_nil ?_
            exact tn_loop2 (j + 1) [.own b16 (isC [.int .i64 z.1, .int .i64 z.2] 53), .row a2 O.length c2 53 2 (spans O), .snap lo46 w46.heap.size w46, .snap w.heap.size w2.heap.size w2, .snap 0 w.heap.size w] (rfl) (by omega) (by omega) (⟨rfl, rfl, rfl, rfl, rfl, rfl, rfl, rfl, rfl, congrArg (fun z => some (Value.bool z)) (by rw [any_step hyq, hany]; rfl), rfl, trivial⟩)
        · try simp only [decide_eq_true_eq, decide_eq_false_iff_not, Bool.not_eq_true', Bool.not_eq_false', Int.not_lt, Int.not_le, ne_eq, Decidable.not_not] at h4
          try have h4b := inB_iff.1 h4
          have hk3 : j = Q46.length := by omega
          subst hk3
          rw [List.take_length]
          refine t_exit ?_
          refine tx_code ?_
          refine tx_inv ?_
          refine tx_blk ?_
          refine tn_code ?_
          refine t_seq ?_
          refine t_seq ?_
          refine t_reg ?_
          refine to_mv rfl rfl ?_
          refine to_mv rfl rfl ?_
          refine to_gs rfl rfl rfl (fun h6 => ?_) (fun h6 => ?_)
          · try simp only [decide_eq_true_eq, decide_eq_false_iff_not, Bool.not_eq_true', Bool.not_eq_false', Int.not_lt, Int.not_le, ne_eq, Decidable.not_not] at h6
            try have h6b := inB_iff.1 h6
            have hcan := h6
            refine to_gt rfl rfl ?_
            refine to_mv rfl rfl ?_
            refine to_gt rfl rfl ?_
            refine to_not rfl rfl ?_
            refine to_pkT rfl rfl rfl ?_
            refine to_nil ?_
            refine tn_code ?_
            refine t_if rfl (fun h7 => ?_) (fun h7 => ?_)
            · try simp only [decide_eq_true_eq, decide_eq_false_iff_not, Bool.not_eq_true', Bool.not_eq_false', Int.not_lt, Int.not_le, ne_eq, Decidable.not_not] at h7
              try have h7b := inB_iff.1 h7
              have hmm : mm = false := by simpa using h7
              refine t_reg ?_
              refine to_mv rfl rfl ?_
              refine to_mv rfl rfl ?_
              first | refine to_ix rfl rfl rfl (by first | omega | decide) (by first | omega | decide) rfl ?_ | refine to_ixi rfl rfl rfl (by omega) (by omega) (by omega) rfl ?_
              first | refine to_lds rfl rfl rfl ?_ | refine to_ldes rfl (by assumption) rfl rfl ?_
              refine to_mv rfl rfl ?_
              first | refine to_ix rfl rfl rfl (by first | omega | decide) (by first | omega | decide) rfl ?_ | refine to_ixi rfl rfl rfl (by omega) (by omega) (by omega) rfl ?_
              first | refine to_lds rfl rfl rfl ?_ | refine to_ldes rfl (by assumption) rfl rfl ?_
              first | refine to_fa rfl rfl rfl (by simp only [Nat.reduceAdd]; rfl) rfl ?_ | refine to_fae rfl rfl rfl (by simp only [Nat.reduceAdd]; rfl) rfl ?_
              first | refine to_st rfl rfl rfl rfl ?_ | refine to_ste rfl rfl (by assumption) rfl rfl ?_
              refine to_nil ?_
              refine tn_code ?_
              refine t_seq ?_
              refine t_reg ?_
              refine to_mv rfl rfl ?_
              refine to_fix (s := 94) (b' := true) rfl (hcan) ?_
              refine to_nil ?_
              refine tn_code ?_
              refine t_ifT rfl ?_
              refine t_seq ?_
              refine t_reg ?_
              refine to_mv rfl rfl ?_
              refine to_mv rfl rfl ?_
              first | refine to_ix rfl rfl rfl (by first | omega | decide) (by first | omega | decide) rfl ?_ | refine to_ixi rfl rfl rfl (by omega) (by omega) (by omega) rfl ?_
              first | refine to_lds rfl rfl rfl ?_ | refine to_ldes rfl (by assumption) rfl rfl ?_
              refine to_mv rfl rfl ?_
              first | refine to_ix rfl rfl rfl (by first | omega | decide) (by first | omega | decide) rfl ?_ | refine to_ixi rfl rfl rfl (by omega) (by omega) (by omega) rfl ?_
              first | refine to_lds rfl rfl rfl ?_ | refine to_ldes rfl (by assumption) rfl rfl ?_
              first | refine to_fa rfl rfl rfl (by simp only [Nat.reduceAdd]; rfl) rfl ?_ | refine to_fae rfl rfl rfl (by simp only [Nat.reduceAdd]; rfl) rfl ?_
              first | refine to_st rfl rfl rfl rfl ?_ | refine to_ste rfl rfl (by assumption) rfl rfl ?_
              refine to_nil ?_
              refine tn_code ?_
              refine t_reg ?_
              refine to_as rfl rfl ?_
              refine to_nil ?_
              refine tn_blk ?_
              refine tn_code ?_
              refine t_reg ?_
              refine to_mv rfl rfl ?_
              refine to_add rfl rfl (by omega) rfl ?_
              refine to_as rfl rfl ?_
              refine to_nil ?_
              exact tn_loop2 ((q + 1, true, (xv, xv))) [.own b16 (isC [.int .i64 xv, .int .i64 xv] 53), .row a2 O.length c2 53 2 (spans O), .snap lo46 w46.heap.size w46, .snap w.heap.size w2.heap.size w2, .snap 0 w.heap.size w] (rfl) (⟨by (try dsimp only); omega, bs_first (by rw [hmm] at hBS; exact hBS) hxq (hci.1 hcan)⟩) (by dsimp only; omega) (⟨rfl, rfl, rfl, rfl, rfl, rfl, rfl, rfl, rfl, trivial⟩)
            · try simp only [decide_eq_true_eq, decide_eq_false_iff_not, Bool.not_eq_true', Bool.not_eq_false', Int.not_lt, Int.not_le, ne_eq, Decidable.not_not] at h7
              try have h7b := inB_iff.1 h7
              have hmm : mm = true := by simpa using h7
              refine t_skip ?_
              refine tn_code ?_
              refine t_seq ?_
              refine t_reg ?_
              refine to_mv rfl rfl ?_
              refine to_fix (s := 94) (b' := true) rfl (hcan) ?_
              refine to_nil ?_
              refine tn_code ?_
              refine t_ifT rfl ?_
              refine t_seq ?_
              refine t_reg ?_
              refine to_mv rfl rfl ?_
              refine to_mv rfl rfl ?_
              first | refine to_ix rfl rfl rfl (by first | omega | decide) (by first | omega | decide) rfl ?_ | refine to_ixi rfl rfl rfl (by omega) (by omega) (by omega) rfl ?_
              first | refine to_lds rfl rfl rfl ?_ | refine to_ldes rfl (by assumption) rfl rfl ?_
              refine to_mv rfl rfl ?_
              first | refine to_ix rfl rfl rfl (by first | omega | decide) (by first | omega | decide) rfl ?_ | refine to_ixi rfl rfl rfl (by omega) (by omega) (by omega) rfl ?_
              first | refine to_lds rfl rfl rfl ?_ | refine to_ldes rfl (by assumption) rfl rfl ?_
              first | refine to_fa rfl rfl rfl (by simp only [Nat.reduceAdd]; rfl) rfl ?_ | refine to_fae rfl rfl rfl (by simp only [Nat.reduceAdd]; rfl) rfl ?_
              first | refine to_st rfl rfl rfl rfl ?_ | refine to_ste rfl rfl (by assumption) rfl rfl ?_
              refine to_nil ?_
              refine tn_code ?_
              refine t_reg ?_
              refine to_as rfl rfl ?_
              refine to_nil ?_
              refine tn_blk ?_
              refine tn_code ?_
              refine t_reg ?_
              refine to_mv rfl rfl ?_
              refine to_add rfl rfl (by omega) rfl ?_
              refine to_as rfl rfl ?_
              refine to_nil ?_
              exact tn_loop2 ((q + 1, true, (z.1, xv))) [.own b16 (isC [.int .i64 z.1, .int .i64 xv] 53), .row a2 O.length c2 53 2 (spans O), .snap lo46 w46.heap.size w46, .snap w.heap.size w2.heap.size w2, .snap 0 w.heap.size w] (rfl) (⟨by (try dsimp only); omega, bs_more (by rw [hmm] at hBS; exact hBS) hxq (hci.1 hcan) hyp⟩) (by dsimp only; omega) (⟨rfl, rfl, rfl, rfl, rfl, rfl, rfl, rfl, rfl, trivial⟩)
          · try simp only [decide_eq_true_eq, decide_eq_false_iff_not, Bool.not_eq_true', Bool.not_eq_false', Int.not_lt, Int.not_le, ne_eq, Decidable.not_not] at h6
            try have h6b := inB_iff.1 h6
            have hcan := h6
            refine to_gf rfl rfl rfl rfl ?_
            refine to_gf rfl rfl rfl rfl ?_
            refine to_pkF rfl rfl rfl ?_
            refine to_nil ?_
            refine tn_code ?_
            refine t_ifF rfl ?_
            refine t_skip ?_
            refine tn_code ?_
            refine t_seq ?_
            refine t_reg ?_
            refine to_mv rfl rfl ?_
            refine to_fix (s := 94) (b' := false) rfl (hcan) ?_
            refine to_nil ?_
            refine tn_code ?_
            refine t_ifF rfl ?_
            refine t_skip ?_
            refine tn_blk ?_
            refine tn_code ?_
            refine t_reg ?_
            refine to_mv rfl rfl ?_
            refine to_add rfl rfl (by omega) rfl ?_
            refine to_as rfl rfl ?_
            refine to_nil ?_
            exact tn_loop2 ((q + 1, mm, z)) [.own b16 (isC [.int .i64 z.1, .int .i64 z.2] 53), .row a2 O.length c2 53 2 (spans O), .snap lo46 w46.heap.size w46, .snap w.heap.size w2.heap.size w2, .snap 0 w.heap.size w] (rfl) (⟨by (try dsimp only); omega, bs_no hBS hxq (fun hc => by rw [hci.2 hc] at hcan; cases hcan)⟩) (by dsimp only; omega) (⟨rfl, rfl, rfl, rfl, rfl, rfl, rfl, rfl, rfl, trivial⟩)
      · try simp only [decide_eq_true_eq, decide_eq_false_iff_not, Bool.not_eq_true', Bool.not_eq_false', Int.not_lt, Int.not_le, ne_eq, Decidable.not_not] at h3
        try have h3b := inB_iff.1 h3
        have hk2 : q = y.xs.length := by omega
        subst hk2
        refine t_exit ?_
        refine tx_code ?_
        refine tx_inv ?_
        refine tx_blk ?_
        refine tn_code ?_
        refine t_seq ?_
        refine t_seq ?_
        refine t_reg ?_
        refine to_mv rfl rfl ?_
        refine to_not rfl rfl ?_
        refine to_nil ?_
        refine tn_code ?_
        refine t_if rfl (fun h8 => ?_) (fun h8 => ?_)
        · try simp only [decide_eq_true_eq, decide_eq_false_iff_not, Bool.not_eq_true', Bool.not_eq_false', Int.not_lt, Int.not_le, ne_eq, Decidable.not_not] at h8
          try have h8b := inB_iff.1 h8
          have hm0 : mm = false := by simpa using h8
          rw [hm0] at hBS
          refine t_seq ?_
          refine t_reg ?_
          refine to_as rfl rfl ?_
          refine to_as rfl rfl ?_
          refine to_nil ?_
          refine tn_code ?_
          refine t_ret2 rfl rfl (res_tmp rfl) (res_tmp rfl) (fun w' s => ?_)
          first | exact (bs_not hBS hXE).elim | (rw [← hOe]; exact ⟨a2, c2, rfl, ro_row s⟩)
        · try simp only [decide_eq_true_eq, decide_eq_false_iff_not, Bool.not_eq_true', Bool.not_eq_false', Int.not_lt, Int.not_le, ne_eq, Decidable.not_not] at h8
          try have h8b := inB_iff.1 h8
          have hm1 : mm = true := by simpa using h8
          rw [hm1] at hBS
          have hXz2 : X[O.length]? = some z := by rw [bs_met hBS hXE]; exact hXz
          refine t_skip ?_
          refine tn_code ?_
          refine t_reg ?_
          refine to_mv rfl rfl ?_
          first | refine to_lda rfl rfl rfl ?_ | refine to_ldea rfl (by assumption) rfl rfl ?_
          refine to_bsl rfl rfl rfl rfl (fun a107 => ?_)
          refine to_app rfl rfl rfl (by simp [scals, scal]) (by decide) (by omega) (by decide) rfl (fun a108 c108 => ?_)
          refine to_as rfl rfl ?_
          refine to_nil ?_
          refine tn_blk ?_
          refine tn_code ?_
          refine t_reg ?_
          refine to_mv rfl rfl ?_
          refine to_add rfl rfl (by omega) rfl ?_
          refine to_as rfl rfl ?_
          refine to_nil ?_
          exact tn_loop2 ((O ++ [z], a108, c108)) [.row a108 (O.length + 1) c108 53 2 (spans O ++ [[.int .i64 z.1, .int .i64 z.2]]), .snap w.heap.size w2.heap.size w2, .snap 0 w.heap.size w] (by simp) (⟨by (try dsimp only); simp; omega, tk_next hOX hXz2⟩) (by (try dsimp only); simp; omega) (⟨rfl, rfl, rfl, congrArg some (by simp), congrArg (fun z => some (Value.int .i64 z)) (by simp), trivial⟩)
    · try simp only [decide_eq_true_eq, decide_eq_false_iff_not, Bool.not_eq_true', Bool.not_eq_false', Int.not_lt, Int.not_le, ne_eq, Decidable.not_not] at h2
      try have h2b := inB_iff.1 h2
      have hXl := hX.1
      have hOe := tk_all hOX (by omega)
      refine t_exit ?_
      refine tx_code ?_
      refine tx_inv ?_
      refine tx_blk ?_
      refine tn_code ?_
      refine t_seq ?_
      refine t_reg ?_
      refine to_mv rfl rfl ?_
      refine to_as rfl rfl ?_
      refine to_as rfl rfl ?_
      refine to_nil ?_
      refine tn_code ?_
      refine t_ret2 rfl rfl (res_tmp rfl) (res_tmp rfl) (fun w' s => ?_)
      first | exact (bs_not hBS hXE).elim | (rw [← hOe]; exact ⟨a2, c2, rfl, ro_row s⟩)

set_option maxRecDepth 20000 in
theorem ref_Behind_n (sh : Sh) (pt : Pt) (k : Nat) (e : Int) (fs : List Int) (fa : Option Addr) (fc : Nat) (total : Int) (w : World) (hre : Ro w 0 w.heap.size pt.ea sh.errs.length pt.ec 1 (ints sh.errs)) (hrr : Ro w 0 w.heap.size pt.ra sh.rows.length pt.rc 1 (ints sh.rows)) (hs : isSh sh = true) (he : sh.errs[k]? = some e) (hrf : Ro w 0 w.heap.size fa fs.length fc 1 (ints fs)) (hfl : fs.length = sh.rows.length) (hX : BhNo sh e fs total) : Calls Tryz.prog 55 #[shV sh pt, (.int .i64 (k : Int)), .slice fa fs.length fc, (.int .i64 total)] w (Ret w (RSpB [] false)) := by
  have heb := errs_b (isSh_e hs) e (List.mem_of_getElem? he)
  have hbb := isSh_b hs
  have hxe := map_get (f := intC) he
  have hke := (List.getElem?_eq_some_iff.1 he).1
  refine calls_T (av := [_, _, _, _]) Tryz.func55 rfl rfl rfl ?_
  refine t_seq ?_
  refine t_reg ?_
  refine to_box rfl rfl (fun b4 => ?_)
  refine to_as rfl rfl ?_
  refine to_as rfl rfl ?_
  refine to_nil ?_
  refine tn_code ?_
  refine t_seq ?_
  refine t_reg ?_
  refine to_as rfl rfl ?_
  refine to_nil ?_
  refine tn_code ?_
  refine t_seq ?_
  refine t_seq ?_
  refine t_reg ?_
  refine to_as rfl rfl ?_
  refine to_nil ?_
  refine tn_code ?_
  refine t_blk ?_
  refine t_nilrow 30 1 ?_
  refine t_loop2 (ι := List Inn × Option Addr × Nat) (fun ((Ls, a', c') : List Inn × Option Addr × Nat) => Ls.length ≤ sh.rows.length ∧ xsO Ls.reverse = prnA sh e fs Ls.length ∧ ∀ y ∈ Ls, InnOk w y) (fun ((Ls, a', c') : List Inn × Option Addr × Nat) => [(1, (.int .i64 (k : Int))), (2, .slice fa fs.length fc), (3, (.int .i64 total)), (4, (.pointer (some ⟨b4, 0, none⟩))), (10, .slice a' Ls.length c'), (11, (.int .i64 (Ls.length : Int)))]) (fun ((Ls, a', c') : List Inn × Option Addr × Nat) => (.row a' Ls.length c' 30 1 (Ls.reverse.map innC) :: .own b4 (isC (shC sh pt) 33) :: .snap 0 w.heap.size w :: innS Ls)) (fun ((Ls, a', c') : List Inn × Option Addr × Nat) => sh.rows.length - Ls.length) (([], none, 0)) (.row none 0 0 30 1 [] :: .own b4 (isC (shC sh pt) 33) :: .snap 0 w.heap.size w :: []) (rfl) (⟨Nat.zero_le _, rfl, fun y hy => by cases hy⟩) (⟨rfl, rfl, rfl, rfl, rfl, rfl, trivial⟩) ?_
  rintro ⟨Ls, a', c'⟩ ⟨hLs, hxs, hLok⟩
  try dsimp only at hk
  show T _ _ _ ⟨_, [(1, (.int .i64 (k : Int))), (2, .slice fa fs.length fc), (3, (.int .i64 total)), (4, (.pointer (some ⟨b4, 0, none⟩))), (10, .slice a' Ls.length c'), (11, (.int .i64 (Ls.length : Int)))], _⟩ (.row a' Ls.length c' 30 1 (Ls.reverse.map innC) :: .own b4 (isC (shC sh pt) 33) :: .snap 0 w.heap.size w :: innS Ls)
  refine t_seq ?_
  refine t_seq ?_
  refine t_reg ?_
  refine to_mv rfl rfl ?_
  first | refine to_fa rfl rfl rfl (by simp only [Nat.reduceAdd]; rfl) rfl ?_ | refine to_fae rfl rfl rfl (by simp only [Nat.reduceAdd]; rfl) rfl ?_
  first | refine to_lds rfl rfl rfl ?_ | refine to_ldes rfl (by assumption) rfl rfl ?_
  refine to_lenS rfl rfl ?_
  refine to_lss rfl rfl rfl ?_
  refine to_nil ?_
  refine tn_code ?_
  refine t_if rfl (fun h1 => ?_) (fun h1 => ?_)
  · try simp only [decide_eq_true_eq, decide_eq_false_iff_not, Bool.not_eq_true', Bool.not_eq_false', Int.not_lt, Int.not_le, ne_eq, Decidable.not_not] at h1
    try have h1b := inB_iff.1 h1
    obtain ⟨r, hr⟩ := some_get (xs := sh.rows) (k := Ls.length) (by omega)
    obtain ⟨fg, hf⟩ := some_get (xs := fs) (k := Ls.length) (by omega)
    have hxf := map_get (f := intC) hf
    have hrb := isSh_r hs (List.mem_of_getElem? hr)
    have hpo := prnE_ok (sh := sh) (fg := fg) heb hrb
    refine t_skip ?_
    refine tn_code ?_
    refine t_seq ?_
    refine t_blk ?_
    refine t_regM [8, 9, 10] [.own b4 (isC (shC sh pt) 33), .snap 0 w.heap.size w] rfl (by kernel_rfl) (by kernel_rfl) ?_
    refine tm_q ?e1 rfl ?q1 ?r1
    case q1 =>
      refine to_mv rfl rfl ?_
      exact tmq_end
    refine tm_q ?e2 rfl ?q2 ?r2
    case q2 =>
      first | refine to_lda rfl rfl rfl ?_ | refine to_ldea rfl (by assumption) rfl rfl ?_
      exact tmq_end
    refine tm_q ?e3 rfl ?q3 ?r3
    case q3 =>
      refine to_mv rfl rfl ?_
      exact tmq_end
    refine tm_q ?e4 rfl ?q4 ?r4
    case q4 =>
      refine to_mv rfl rfl ?_
      exact tmq_end
    refine tm_q ?e5 rfl ?q5 ?r5
    case q5 =>
      refine to_mv rfl rfl ?_
      exact tmq_end
    refine tm_q ?e6 rfl ?q6 ?r6
    case q6 =>
      refine to_mv rfl rfl ?_
      exact tmq_end
    refine tm_q ?e7 rfl ?q7 ?r7
    case q7 =>
      first | refine to_ix rfl rfl rfl (by first | omega | decide) (by first | omega | decide) rfl ?_ | refine to_ixi rfl rfl rfl (by omega) (by omega) (by omega) rfl ?_
      exact tmq_end
    refine tm_q ?e8 rfl ?q8 ?r8
    case q8 =>
      first | refine to_lds rfl rfl rfl ?_ | refine to_ldes rfl (by assumption) rfl rfl ?_
      exact tmq_end
    refine tm_s rfl ?_ (fun _ h => by cases h) rfl
    refine to_callR rfl rfl (fun w s => ref_printing sh pt k e Ls.length r fg w (rdw s) (rdw s) hs he hr) rfl (fun v35 lo35 w35 hlo35 hR35 => ?_)
    obtain ⟨pa35, pc35, rfl, hro35⟩ := hR35
    refine tm_se rfl ?_
    refine tm_s rfl ?_ (fun _ h => by cases h) rfl
    refine to_bsl rfl rfl rfl rfl (fun a36 => ?_)
    refine tm_se rfl ?_
    refine tm_s rfl ?_ (fun _ h => by cases h) rfl
    refine to_app rfl rfl rfl (by simp [scals, scal]) (by decide) (by omega) (by decide) rfl (fun a37 c37 => ?_)
    refine tm_se rfl ?_
    refine tm_q ?e9 rfl ?q9 ?r9
    case q9 =>
      refine to_as rfl rfl ?_
      exact tmq_end
    refine tm_nil ?_
    refine tn_blk ?_
    refine tn_code ?_
    refine t_reg ?_
    refine to_mv rfl rfl ?_
    refine to_add rfl rfl (by omega) rfl ?_
    refine to_as rfl rfl ?_
    refine to_nil ?_
    exact tn_loop2 ((⟨lo35, w35, pa35, pc35, prnE sh e r fg⟩ :: Ls, a37, c37)) (.row a37 (Ls.length + 1) c37 30 1 (Ls.reverse.map innC ++ [[.slice pa35 (prnE sh e r fg).length pc35]]) :: .own b4 (isC (shC sh pt) 33) :: .snap 0 w.heap.size w :: .snap lo35 w35.heap.size w35 :: innS Ls) (by dsimp only; rw [innV_cons]; rfl) (⟨by (try dsimp only); rw [List.length_cons]; omega, xs_next _ hxs hr hf rfl, inn_next hLok ⟨hpo.1, hpo.2.1, hpo.2.2, hro35, hlo35⟩⟩) (by (try dsimp only); rw [List.length_cons]; omega) (⟨rfl, rfl, rfl, rfl, rfl, rfl, trivial⟩)
  · try simp only [decide_eq_true_eq, decide_eq_false_iff_not, Bool.not_eq_true', Bool.not_eq_false', Int.not_lt, Int.not_le, ne_eq, Decidable.not_not] at h1
    try have h1b := inB_iff.1 h1
    have hLe : Ls.length = sh.rows.length := by omega
    refine t_exit ?_
    refine tx_code ?_
    refine tx_inv ?_
    refine tx_blk ?_
    refine tn_code ?_
    refine t_seq ?_
    refine t_freeze w rfl (fun w2 s2 => ?_)
    obtain ⟨Li, hLd⟩ : ∃ Li, Li = Ls.reverse := ⟨_, rfl⟩
    have hLL : Ls.length = Li.length := by rw [hLd, List.length_reverse]
    have hrowL : Ro w2 w.heap.size w2.heap.size a' Li.length c' 1 (Li.map innC) := by rw [← hLL, hLd]; exact ro_row s2
    have hin0 : ∀ y ∈ Li, InnOk w y := fun y hy => hLok y (by rw [hLd] at hy; exact List.mem_reverse.1 hy)
    have hin : ∀ y ∈ Li, Ro w2 w.heap.size w2.heap.size y.a y.xs.length y.c 1 (ints y.xs) := fun y hy => inn_rd (Ls := Ls) s2 (by rw [hLd] at hy; exact List.mem_reverse.1 hy) (hin0 y hy).2.2.2.1 (hin0 y hy).2.2.2.2
    have hb4 := rb_frz s2 (b := b4)
    have hLx : xsO Li = prnA sh e fs sh.rows.length := by rw [hLd, hxs, hLe]
    have hLn : Li.length = sh.rows.length := by omega
    clear s2 hxs
    rw [hLL]
    refine t_reg ?_
    refine to_as rfl rfl ?_
    refine to_nil ?_
    refine tn_code ?_
    refine t_seq ?_
    refine t_seq ?_
    refine t_reg ?_
    refine to_as rfl rfl ?_
    refine to_nil ?_
    refine tn_code ?_
    refine t_blk ?_
    refine t_nilrow 53 2 ?_
    refine t_loop2 (ι := List Sp × Option Addr × Nat) (fun ((O, a2, c2) : List Sp × Option Addr × Nat) => O.length = 0) (fun ((O, a2, c2) : List Sp × Option Addr × Nat) => [(3, (.int .i64 total)), (4, (.pointer (some ⟨b4, 0, none⟩))), (10, .slice a' Li.length c'), (12, .slice a2 O.length c2), (13, (.int .i64 (O.length : Int)))]) (fun ((O, a2, c2) : List Sp × Option Addr × Nat) => [.row a2 O.length c2 53 2 (spans O), .snap w.heap.size w2.heap.size w2, .snap 0 w.heap.size w]) (fun ((O, a2, c2) : List Sp × Option Addr × Nat) => Li.length - O.length) (([], none, 0)) [.row none 0 0 53 2 [], .snap w.heap.size w2.heap.size w2, .snap 0 w.heap.size w] (rfl) (rfl) (⟨rfl, rfl, rfl, rfl, rfl, trivial⟩) ?_
    rintro ⟨O, a2, c2⟩ hO0
    have hOl : O.length ≤ Li.length := by (try dsimp only at hO0); omega
    try dsimp only at hk
    show T _ _ _ ⟨_, [(3, (.int .i64 total)), (4, (.pointer (some ⟨b4, 0, none⟩))), (10, .slice a' Li.length c'), (12, .slice a2 O.length c2), (13, (.int .i64 (O.length : Int)))], _⟩ [.row a2 O.length c2 53 2 (spans O), .snap w.heap.size w2.heap.size w2, .snap 0 w.heap.size w]
    refine t_seq ?_
    refine t_seq ?_
    refine t_reg ?_
    refine to_mv rfl rfl ?_
    refine to_mv rfl rfl ?_
    refine to_lenS rfl rfl ?_
    refine to_lss rfl rfl rfl ?_
    refine to_nil ?_
    refine tn_code ?_
    refine t_if rfl (fun h2 => ?_) (fun h2 => ?_)
    · try simp only [decide_eq_true_eq, decide_eq_false_iff_not, Bool.not_eq_true', Bool.not_eq_false', Int.not_lt, Int.not_le, ne_eq, Decidable.not_not] at h2
      try have h2b := inB_iff.1 h2
      obtain ⟨y, hy⟩ := some_get (xs := Li) (k := O.length) (by omega)
      obtain ⟨r, hr⟩ := some_get (xs := sh.rows) (k := O.length) (by omega)
      obtain ⟨fg, hf⟩ := some_get (xs := fs) (k := O.length) (by omega)
      have hym := List.mem_of_getElem? hy
      have hxy := map_get (f := innC) hy
      have hry := hin y hym
      have hyl := (hin0 y hym).1
      have hyp := (hin0 y hym).2.2.1
      have hyx : y.xs = prnE sh e r fg := by
        have h9 := xsO_get hy
        rw [hLx, prnA_get (by omega)] at h9
        have h8 := Option.some.inj h9
        rw [← h8]; simp [List.getD, hr, hf]
      have hpl : (prnA sh e fs sh.rows.length).length = Li.length := by rw [prnA_len]; omega
      have hXn := hX O.length r fg hr hf
      rw [← hyx] at hXn
      refine t_skip ?_
      refine tn_code ?_
      refine t_seq ?_
      refine t_blk ?_
      refine t_seq ?_
      refine t_reg ?_
      refine to_mv rfl rfl ?_
      refine to_mv rfl rfl ?_
      refine to_callR rfl rfl (fun w s => ref_others Li a' c' O.length w (rdw s) (fun y hy => by haveI := hin y hy; exact rdw s) (by omega) (fun y hy => (hin0 y hy).1) (fun y hy => (hin0 y hy).2.1)) rfl (fun v46 lo46 w46 hlo46 hR46 => ?_)
      obtain ⟨Q46, pa46, pc46, rfl, hro46, hQ46, hQl46, hQb46⟩ := hR46
      refine to_as rfl rfl ?_
      refine to_nil ?_
      refine tn_code ?_
      refine t_seq ?_
      refine t_reg ?_
      refine to_as rfl rfl ?_
      refine to_nil ?_
      refine tn_code ?_
      refine t_seq ?_
      refine t_reg ?_
      refine to_alloc rfl (fun b16 => ?_)
      refine to_nil ?_
      refine tn_code ?_
      refine t_seq ?_
      refine t_seq ?_
      refine t_reg ?_
      refine to_as rfl rfl ?_
      refine to_nil ?_
      refine tn_code ?_
      refine t_blk ?_
      refine t_loop2 (ι := Nat × Bool × Sp) (fun ((q, mm, z) : Nat × Bool × Sp) => q ≤ y.xs.length ∧ BSt y.xs (canB sh (prnA sh e fs sh.rows.length) O.length total) q mm z) (fun ((q, mm, z) : Nat × Bool × Sp) => [(3, (.int .i64 total)), (4, (.pointer (some ⟨b4, 0, none⟩))), (10, .slice a' Li.length c'), (12, .slice a2 O.length c2), (13, (.int .i64 (O.length : Int))), (14, .slice pa46 Q46.length pc46), (15, .bool mm), (16, (.pointer (some ⟨b16, 0, none⟩))), (17, (.int .i64 (q : Int)))]) (fun ((q, mm, z) : Nat × Bool × Sp) => [.own b16 (isC [.int .i64 z.1, .int .i64 z.2] 53), .row a2 O.length c2 53 2 (spans O), .snap lo46 w46.heap.size w46, .snap w.heap.size w2.heap.size w2, .snap 0 w.heap.size w]) (fun ((q, mm, z) : Nat × Bool × Sp) => y.xs.length - q) ((0, false, (0, 0))) [.own b16 (isC [.int .i64 0, .int .i64 0] 53), .row a2 O.length c2 53 2 (spans O), .snap lo46 w46.heap.size w46, .snap w.heap.size w2.heap.size w2, .snap 0 w.heap.size w] (rfl) (⟨Nat.zero_le _, .inr ⟨rfl, fun x hx => by simp at hx⟩⟩) (⟨rfl, rfl, rfl, rfl, rfl, rfl, rfl, rfl, rfl, trivial⟩) ?_
      rintro ⟨q, mm, z⟩ ⟨hq, hBS⟩
      try dsimp only at hk
      show T _ _ _ ⟨_, [(3, (.int .i64 total)), (4, (.pointer (some ⟨b4, 0, none⟩))), (10, .slice a' Li.length c'), (12, .slice a2 O.length c2), (13, (.int .i64 (O.length : Int))), (14, .slice pa46 Q46.length pc46), (15, .bool mm), (16, (.pointer (some ⟨b16, 0, none⟩))), (17, (.int .i64 (q : Int)))], _⟩ [.own b16 (isC [.int .i64 z.1, .int .i64 z.2] 53), .row a2 O.length c2 53 2 (spans O), .snap lo46 w46.heap.size w46, .snap w.heap.size w2.heap.size w2, .snap 0 w.heap.size w]
      refine t_seq ?_
      refine t_seq ?_
      refine t_reg ?_
      refine to_mv rfl rfl ?_
      refine to_mv rfl rfl ?_
      refine to_mv rfl rfl ?_
      first | refine to_ix rfl rfl rfl (by first | omega | decide) (by first | omega | decide) rfl ?_ | refine to_ixi rfl rfl rfl (by omega) (by omega) (by omega) rfl ?_
      first | refine to_lds rfl rfl rfl ?_ | refine to_ldes rfl (by assumption) rfl rfl ?_
      refine to_lenS rfl rfl ?_
      refine to_lss rfl rfl rfl ?_
      refine to_nil ?_
      refine tn_code ?_
      refine t_if rfl (fun h3 => ?_) (fun h3 => ?_)
      · try simp only [decide_eq_true_eq, decide_eq_false_iff_not, Bool.not_eq_true', Bool.not_eq_false', Int.not_lt, Int.not_le, ne_eq, Decidable.not_not] at h3
        try have h3b := inB_iff.1 h3
        obtain ⟨xv, hxq⟩ := some_get (xs := y.xs) (k := q) (by omega)
        have hxx := map_get (f := intC) hxq
        have hxb := (hin0 y hym).2.1 xv (List.mem_of_getElem? hxq)
        have hci := can_iff (sh := sh) (ls := prnA sh e fs sh.rows.length) (i := O.length) (total := total) (x := xv) (Q := Q46) (by rw [hpl, ← hLx]; exact hQ46)
        refine t_skip ?_
        refine tn_code ?_
        refine t_seq ?_
        refine t_blk ?_
        refine t_seq ?_
        refine t_reg ?_
        refine to_as rfl rfl ?_
        refine to_nil ?_
        refine tn_code ?_
        refine t_seq ?_
        refine t_seq ?_
        refine t_reg ?_
        refine to_as rfl rfl ?_
        refine to_nil ?_
        refine tn_code ?_
        refine t_blk ?_
        refine t_loop2 (ι := Nat) (fun j => j ≤ Q46.length) (fun j => [(3, (.int .i64 total)), (4, (.pointer (some ⟨b4, 0, none⟩))), (10, .slice a' Li.length c'), (12, .slice a2 O.length c2), (13, (.int .i64 (O.length : Int))), (14, .slice pa46 Q46.length pc46), (15, .bool mm), (16, (.pointer (some ⟨b16, 0, none⟩))), (17, (.int .i64 (q : Int))), (18, .bool ((Q46.take j).any fun y => decide (fig sh (xv + y) = total))), (19, (.int .i64 (j : Int)))]) (fun j => [.own b16 (isC [.int .i64 z.1, .int .i64 z.2] 53), .row a2 O.length c2 53 2 (spans O), .snap lo46 w46.heap.size w46, .snap w.heap.size w2.heap.size w2, .snap 0 w.heap.size w]) (fun j => Q46.length - j) (0) [.own b16 (isC [.int .i64 z.1, .int .i64 z.2] 53), .row a2 O.length c2 53 2 (spans O), .snap lo46 w46.heap.size w46, .snap w.heap.size w2.heap.size w2, .snap 0 w.heap.size w] (rfl) (Nat.zero_le _) (⟨rfl, rfl, rfl, rfl, rfl, rfl, rfl, rfl, rfl, rfl, rfl, trivial⟩) ?_
        rintro j hk
        show T _ _ _ ⟨_, [(3, (.int .i64 total)), (4, (.pointer (some ⟨b4, 0, none⟩))), (10, .slice a' Li.length c'), (12, .slice a2 O.length c2), (13, (.int .i64 (O.length : Int))), (14, .slice pa46 Q46.length pc46), (15, .bool mm), (16, (.pointer (some ⟨b16, 0, none⟩))), (17, (.int .i64 (q : Int))), (18, .bool ((Q46.take j).any fun y => decide (fig sh (xv + y) = total))), (19, (.int .i64 (j : Int)))], _⟩ [.own b16 (isC [.int .i64 z.1, .int .i64 z.2] 53), .row a2 O.length c2 53 2 (spans O), .snap lo46 w46.heap.size w46, .snap w.heap.size w2.heap.size w2, .snap 0 w.heap.size w]
        refine t_seq ?_
        refine t_seq ?_
        refine t_reg ?_
        refine to_mv rfl rfl ?_
        refine to_mv rfl rfl ?_
        refine to_lenS rfl rfl ?_
        refine to_lss rfl rfl rfl ?_
        refine to_nil ?_
        refine tn_code ?_
        refine t_if rfl (fun h4 => ?_) (fun h4 => ?_)
        · try simp only [decide_eq_true_eq, decide_eq_false_iff_not, Bool.not_eq_true', Bool.not_eq_false', Int.not_lt, Int.not_le, ne_eq, Decidable.not_not] at h4
          try have h4b := inB_iff.1 h4
          obtain ⟨yv, hyq⟩ := some_get (xs := Q46) (k := j) (by omega)
          have hyy := map_get (f := intC) hyq
          have hyb := hQb46 yv (List.mem_of_getElem? hyq)
          refine t_skip ?_
          refine tn_code ?_
          refine t_seq ?_
          refine t_blk ?_
          refine t_regD rfl (by kernel_rfl) (by kernel_rfl) ?_
          refine to_mv rfl rfl ?_
          refine to_mv rfl rfl ?_
          refine to_gs rfl rfl rfl (fun h5 => ?_) (fun h5 => ?_)
          · try simp only [decide_eq_true_eq, decide_eq_false_iff_not, Bool.not_eq_true', Bool.not_eq_false', Int.not_lt, Int.not_le, ne_eq, Decidable.not_not] at h5
            try have h5b := inB_iff.1 h5
            have hany := h5
            refine to_gf rfl rfl rfl rfl ?_
            refine to_gf rfl rfl rfl rfl ?_
            refine to_gf rfl rfl rfl rfl ?_
            refine to_gf rfl rfl rfl rfl ?_
            refine to_gf rfl rfl rfl rfl ?_
            refine to_gf rfl rfl rfl rfl ?_
            refine to_gf rfl rfl rfl rfl ?_
            refine to_gf rfl rfl rfl rfl ?_
            refine to_gf rfl rfl rfl rfl ?_
            refine to_gf rfl rfl rfl rfl ?_
            refine to_gf rfl rfl rfl rfl ?_
            refine to_gf rfl rfl rfl rfl ?_
            refine to_gf rfl rfl rfl rfl ?_
            refine to_gf rfl rfl rfl rfl ?_
            refine to_gf rfl rfl rfl rfl ?_
            refine to_gf rfl rfl rfl rfl ?_
            refine to_pkT rfl rfl rfl ?_
            refine to_as rfl rfl ?_
            refine to_nil ?_
            refine tn_blk ?_
            refine tn_code ?_
            refine t_reg ?_
            refine to_mv rfl rfl ?_
            refine to_add rfl rfl (by omega) rfl ?_
            refine to_as rfl rfl ?_
            refine to_nil ?_
            exact tn_loop2 (j + 1) [.own b16 (isC [.int .i64 z.1, .int .i64 z.2] 53), .row a2 O.length c2 53 2 (spans O), .snap lo46 w46.heap.size w46, .snap w.heap.size w2.heap.size w2, .snap 0 w.heap.size w] (rfl) (by omega) (by omega) (⟨rfl, rfl, rfl, rfl, rfl, rfl, rfl, rfl, rfl, congrArg (fun z => some (Value.bool z)) (by rw [any_step hyq, hany]; rfl), rfl, trivial⟩)
          · try simp only [decide_eq_true_eq, decide_eq_false_iff_not, Bool.not_eq_true', Bool.not_eq_false', Int.not_lt, Int.not_le, ne_eq, Decidable.not_not] at h5
            try have h5b := inB_iff.1 h5
            have hany := h5
            refine to_gt rfl rfl ?_
            first | refine to_lda rfl rfl rfl ?_ | refine to_ldea rfl (by assumption) rfl rfl ?_
            refine to_gt rfl rfl ?_
            refine to_mv rfl rfl ?_
            refine to_gt rfl rfl ?_
            refine to_mv rfl rfl ?_
            refine to_gt rfl rfl ?_
            first | refine to_ix rfl rfl rfl (by first | omega | decide) (by first | omega | decide) rfl ?_ | refine to_ixi rfl rfl rfl (by omega) (by omega) (by omega) rfl ?_
            refine to_gt rfl rfl ?_
            first | refine to_lds rfl rfl rfl ?_ | refine to_ldes rfl (by assumption) rfl rfl ?_
            refine to_gt rfl rfl ?_
            refine to_mv rfl rfl ?_
            refine to_gt rfl rfl ?_
            first | refine to_ix rfl rfl rfl (by first | omega | decide) (by first | omega | decide) rfl ?_ | refine to_ixi rfl rfl rfl (by omega) (by omega) (by omega) rfl ?_
            refine to_gt rfl rfl ?_
            first | refine to_lds rfl rfl rfl ?_ | refine to_ldes rfl (by assumption) rfl rfl ?_
            refine to_gt rfl rfl ?_
            refine to_mv rfl rfl ?_
            refine to_gt rfl rfl ?_
            refine to_mv rfl rfl ?_
            refine to_gt rfl rfl ?_
            first | refine to_ix rfl rfl rfl (by first | omega | decide) (by first | omega | decide) rfl ?_ | refine to_ixi rfl rfl rfl (by omega) (by omega) (by omega) rfl ?_
            refine to_gt rfl rfl ?_
            first | refine to_lds rfl rfl rfl ?_ | refine to_ldes rfl (by assumption) rfl rfl ?_
            refine to_gt rfl rfl ?_
            refine to_add rfl rfl (by omega) rfl ?_
            refine to_gt rfl rfl ?_
            refine to_call0 rfl rfl (fun w s => ref_of sh pt _ w hs (by omega)) rfl ?_
            refine to_gt rfl rfl ?_
            refine to_mv rfl rfl ?_
            refine to_gt rfl rfl ?_
            refine to_eql rfl rfl rfl ?_
            refine to_pkF rfl rfl rfl ?_
            refine to_as rfl rfl ?_
            refine to_nil ?_
            refine tn_blk ?_
            refine tn_code ?_
            refine t_reg ?_
            refine to_mv rfl rfl ?_
            refine to_add rfl rfl (by omega) rfl ?_
            refine to_as rfl rfl ?_
            refine to_nil ?_
            exact tn_loop2 (j + 1) [.own b16 (isC [.int .i64 z.1, .int .i64 z.2] 53), .row a2 O.length c2 53 2 (spans O), .snap lo46 w46.heap.size w46, .snap w.heap.size w2.heap.size w2, .snap 0 w.heap.size w] (rfl) (by omega) (by omega) (⟨rfl, rfl, rfl, rfl, rfl, rfl, rfl, rfl, rfl, congrArg (fun z => some (Value.bool z)) (by rw [any_step hyq, hany]; rfl), rfl, trivial⟩)
        · try simp only [decide_eq_true_eq, decide_eq_false_iff_not, Bool.not_eq_true', Bool.not_eq_false', Int.not_lt, Int.not_le, ne_eq, Decidable.not_not] at h4
          try have h4b := inB_iff.1 h4
          have hk3 : j = Q46.length := by omega
          subst hk3
          rw [List.take_length]
          refine t_exit ?_
          refine tx_code ?_
          refine tx_inv ?_
          refine tx_blk ?_
          refine tn_code ?_
          refine t_seq ?_
          refine t_seq ?_
          refine t_reg ?_
          refine to_mv rfl rfl ?_
          refine to_mv rfl rfl ?_
          refine to_gs rfl rfl rfl (fun h6 => ?_) (fun h6 => ?_)
          · try simp only [decide_eq_true_eq, decide_eq_false_iff_not, Bool.not_eq_true', Bool.not_eq_false', Int.not_lt, Int.not_le, ne_eq, Decidable.not_not] at h6
            try have h6b := inB_iff.1 h6
            have hcan := h6
            refine to_gt rfl rfl ?_
            refine to_mv rfl rfl ?_
            refine to_gt rfl rfl ?_
            refine to_not rfl rfl ?_
            refine to_pkT rfl rfl rfl ?_
            refine to_nil ?_
            refine tn_code ?_
            refine t_if rfl (fun h7 => ?_) (fun h7 => ?_)
            · try simp only [decide_eq_true_eq, decide_eq_false_iff_not, Bool.not_eq_true', Bool.not_eq_false', Int.not_lt, Int.not_le, ne_eq, Decidable.not_not] at h7
              try have h7b := inB_iff.1 h7
              have hmm : mm = false := by simpa using h7
              refine t_reg ?_
              refine to_mv rfl rfl ?_
              refine to_mv rfl rfl ?_
              first | refine to_ix rfl rfl rfl (by first | omega | decide) (by first | omega | decide) rfl ?_ | refine to_ixi rfl rfl rfl (by omega) (by omega) (by omega) rfl ?_
              first | refine to_lds rfl rfl rfl ?_ | refine to_ldes rfl (by assumption) rfl rfl ?_
              refine to_mv rfl rfl ?_
              first | refine to_ix rfl rfl rfl (by first | omega | decide) (by first | omega | decide) rfl ?_ | refine to_ixi rfl rfl rfl (by omega) (by omega) (by omega) rfl ?_
              first | refine to_lds rfl rfl rfl ?_ | refine to_ldes rfl (by assumption) rfl rfl ?_
              first | refine to_fa rfl rfl rfl (by simp only [Nat.reduceAdd]; rfl) rfl ?_ | refine to_fae rfl rfl rfl (by simp only [Nat.reduceAdd]; rfl) rfl ?_
              first | refine to_st rfl rfl rfl rfl ?_ | refine to_ste rfl rfl (by assumption) rfl rfl ?_
              refine to_nil ?_
              refine tn_code ?_
              refine t_seq ?_
              refine t_reg ?_
              refine to_mv rfl rfl ?_
              refine to_fix (s := 94) (b' := true) rfl (hcan) ?_
              refine to_nil ?_
              refine tn_code ?_
              refine t_ifT rfl ?_
              refine t_seq ?_
              refine t_reg ?_
              refine to_mv rfl rfl ?_
              refine to_mv rfl rfl ?_
              first | refine to_ix rfl rfl rfl (by first | omega | decide) (by first | omega | decide) rfl ?_ | refine to_ixi rfl rfl rfl (by omega) (by omega) (by omega) rfl ?_
              first | refine to_lds rfl rfl rfl ?_ | refine to_ldes rfl (by assumption) rfl rfl ?_
              refine to_mv rfl rfl ?_
              first | refine to_ix rfl rfl rfl (by first | omega | decide) (by first | omega | decide) rfl ?_ | refine to_ixi rfl rfl rfl (by omega) (by omega) (by omega) rfl ?_
              first | refine to_lds rfl rfl rfl ?_ | refine to_ldes rfl (by assumption) rfl rfl ?_
              first | refine to_fa rfl rfl rfl (by simp only [Nat.reduceAdd]; rfl) rfl ?_ | refine to_fae rfl rfl rfl (by simp only [Nat.reduceAdd]; rfl) rfl ?_
              first | refine to_st rfl rfl rfl rfl ?_ | refine to_ste rfl rfl (by assumption) rfl rfl ?_
              refine to_nil ?_
              refine tn_code ?_
              refine t_reg ?_
              refine to_as rfl rfl ?_
              refine to_nil ?_
              refine tn_blk ?_
              refine tn_code ?_
              refine t_reg ?_
              refine to_mv rfl rfl ?_
              refine to_add rfl rfl (by omega) rfl ?_
              refine to_as rfl rfl ?_
              refine to_nil ?_
              exact tn_loop2 ((q + 1, true, (xv, xv))) [.own b16 (isC [.int .i64 xv, .int .i64 xv] 53), .row a2 O.length c2 53 2 (spans O), .snap lo46 w46.heap.size w46, .snap w.heap.size w2.heap.size w2, .snap 0 w.heap.size w] (rfl) (⟨by (try dsimp only); omega, bs_first (by rw [hmm] at hBS; exact hBS) hxq (hci.1 hcan)⟩) (by dsimp only; omega) (⟨rfl, rfl, rfl, rfl, rfl, rfl, rfl, rfl, rfl, trivial⟩)
            · try simp only [decide_eq_true_eq, decide_eq_false_iff_not, Bool.not_eq_true', Bool.not_eq_false', Int.not_lt, Int.not_le, ne_eq, Decidable.not_not] at h7
              try have h7b := inB_iff.1 h7
              have hmm : mm = true := by simpa using h7
              refine t_skip ?_
              refine tn_code ?_
              refine t_seq ?_
              refine t_reg ?_
              refine to_mv rfl rfl ?_
              refine to_fix (s := 94) (b' := true) rfl (hcan) ?_
              refine to_nil ?_
              refine tn_code ?_
              refine t_ifT rfl ?_
              refine t_seq ?_
              refine t_reg ?_
              refine to_mv rfl rfl ?_
              refine to_mv rfl rfl ?_
              first | refine to_ix rfl rfl rfl (by first | omega | decide) (by first | omega | decide) rfl ?_ | refine to_ixi rfl rfl rfl (by omega) (by omega) (by omega) rfl ?_
              first | refine to_lds rfl rfl rfl ?_ | refine to_ldes rfl (by assumption) rfl rfl ?_
              refine to_mv rfl rfl ?_
              first | refine to_ix rfl rfl rfl (by first | omega | decide) (by first | omega | decide) rfl ?_ | refine to_ixi rfl rfl rfl (by omega) (by omega) (by omega) rfl ?_
              first | refine to_lds rfl rfl rfl ?_ | refine to_ldes rfl (by assumption) rfl rfl ?_
              first | refine to_fa rfl rfl rfl (by simp only [Nat.reduceAdd]; rfl) rfl ?_ | refine to_fae rfl rfl rfl (by simp only [Nat.reduceAdd]; rfl) rfl ?_
              first | refine to_st rfl rfl rfl rfl ?_ | refine to_ste rfl rfl (by assumption) rfl rfl ?_
              refine to_nil ?_
              refine tn_code ?_
              refine t_reg ?_
              refine to_as rfl rfl ?_
              refine to_nil ?_
              refine tn_blk ?_
              refine tn_code ?_
              refine t_reg ?_
              refine to_mv rfl rfl ?_
              refine to_add rfl rfl (by omega) rfl ?_
              refine to_as rfl rfl ?_
              refine to_nil ?_
              exact tn_loop2 ((q + 1, true, (z.1, xv))) [.own b16 (isC [.int .i64 z.1, .int .i64 xv] 53), .row a2 O.length c2 53 2 (spans O), .snap lo46 w46.heap.size w46, .snap w.heap.size w2.heap.size w2, .snap 0 w.heap.size w] (rfl) (⟨by (try dsimp only); omega, bs_more (by rw [hmm] at hBS; exact hBS) hxq (hci.1 hcan) hyp⟩) (by dsimp only; omega) (⟨rfl, rfl, rfl, rfl, rfl, rfl, rfl, rfl, rfl, trivial⟩)
          · try simp only [decide_eq_true_eq, decide_eq_false_iff_not, Bool.not_eq_true', Bool.not_eq_false', Int.not_lt, Int.not_le, ne_eq, Decidable.not_not] at h6
            try have h6b := inB_iff.1 h6
            have hcan := h6
            refine to_gf rfl rfl rfl rfl ?_
            refine to_gf rfl rfl rfl rfl ?_
            refine to_pkF rfl rfl rfl ?_
            refine to_nil ?_
            refine tn_code ?_
            refine t_ifF rfl ?_
            refine t_skip ?_
            refine tn_code ?_
            refine t_seq ?_
            refine t_reg ?_
            refine to_mv rfl rfl ?_
            refine to_fix (s := 94) (b' := false) rfl (hcan) ?_
            refine to_nil ?_
            refine tn_code ?_
            refine t_ifF rfl ?_
            refine t_skip ?_
            refine tn_blk ?_
            refine tn_code ?_
            refine t_reg ?_
            refine to_mv rfl rfl ?_
            refine to_add rfl rfl (by omega) rfl ?_
            refine to_as rfl rfl ?_
            refine to_nil ?_
            exact tn_loop2 ((q + 1, mm, z)) [.own b16 (isC [.int .i64 z.1, .int .i64 z.2] 53), .row a2 O.length c2 53 2 (spans O), .snap lo46 w46.heap.size w46, .snap w.heap.size w2.heap.size w2, .snap 0 w.heap.size w] (rfl) (⟨by (try dsimp only); omega, bs_no hBS hxq (fun hc => by rw [hci.2 hc] at hcan; cases hcan)⟩) (by dsimp only; omega) (⟨rfl, rfl, rfl, rfl, rfl, rfl, rfl, rfl, rfl, trivial⟩)
      · try simp only [decide_eq_true_eq, decide_eq_false_iff_not, Bool.not_eq_true', Bool.not_eq_false', Int.not_lt, Int.not_le, ne_eq, Decidable.not_not] at h3
        try have h3b := inB_iff.1 h3
        have hk2 : q = y.xs.length := by omega
        subst hk2
        refine t_exit ?_
        refine tx_code ?_
        refine tx_inv ?_
        refine tx_blk ?_
        refine tn_code ?_
        refine t_seq ?_
        refine t_seq ?_
        refine t_reg ?_
        refine to_mv rfl rfl ?_
        refine to_not rfl rfl ?_
        refine to_nil ?_
        refine tn_code ?_
        refine t_if rfl (fun h8 => ?_) (fun h8 => ?_)
        · try simp only [decide_eq_true_eq, decide_eq_false_iff_not, Bool.not_eq_true', Bool.not_eq_false', Int.not_lt, Int.not_le, ne_eq, Decidable.not_not] at h8
          try have h8b := inB_iff.1 h8
          have hm0 : mm = false := by simpa using h8
          rw [hm0] at hBS
          refine t_seq ?_
          refine t_reg ?_
          refine to_as rfl rfl ?_
          refine to_as rfl rfl ?_
          refine to_nil ?_
          refine tn_code ?_
          refine t_ret2 rfl rfl (res_tmp rfl) (res_tmp rfl) (fun w' s => ?_)
          first | exact ⟨none, 0, rfl, Ro.nil _ _ _ _⟩ | exact (bs_none hBS hXn).elim
        · try simp only [decide_eq_true_eq, decide_eq_false_iff_not, Bool.not_eq_true', Bool.not_eq_false', Int.not_lt, Int.not_le, ne_eq, Decidable.not_not] at h8
          try have h8b := inB_iff.1 h8
          exact (bs_none (P := y.xs) (by have h8 : mm = true := (by simpa using h8); rw [h8] at hBS; exact hBS) hXn).elim
    · try simp only [decide_eq_true_eq, decide_eq_false_iff_not, Bool.not_eq_true', Bool.not_eq_false', Int.not_lt, Int.not_le, ne_eq, Decidable.not_not] at h2
      try have h2b := inB_iff.1 h2
      exfalso; omega

end Go.Proofs


namespace Go.Proofs
open Go Go.Sx Go.RowKit

theorem c_Behind2 {sh : Sh} {pt : Pt} {k : Nat} {e : Int} {fs : List Int} {fa : Option Addr} {fc : Nat} {total : Int} {X : List Sp} {er : Int} {w : World} (hre : Ro w 0 w.heap.size pt.ea sh.errs.length pt.ec 1 (ints sh.errs)) (hrr : Ro w 0 w.heap.size pt.ra sh.rows.length pt.rc 1 (ints sh.rows)) (hs : isSh sh = true) (he : sh.errs[k]? = some e) (hrf : Ro w 0 w.heap.size fa fs.length fc 1 (ints fs)) (hl : fs.length = sh.rows.length) (h : bhR sh e fs total = (X, er)) : Calls Tryz.prog 54 #[shV sh pt, .int .i64 (k : Int), .slice fa fs.length fc, .int .i64 total] w (Ret w (RSpE X er)) := by
  have := r_Behind_t sh pt k e fs fa fc total w hre hrr hs he hrf hl
  rw [h] at this; exact this

set_option maxRecDepth 20000 in
theorem w_RoundBehinds_sF (sh : Sh) (pt : Pt) (gd : Int) (t : List Int) (ta : Option Addr) (tc : Nat) (total : Int) (w : World) (hre : Ro w 0 w.heap.size pt.ea sh.errs.length pt.ec 1 (ints sh.errs)) (hrr : Ro w 0 w.heap.size pt.ra sh.rows.length pt.rc 1 (ints sh.rows)) (hrl : Ro w 0 w.heap.size ta t.length tc 1 (ints t)) (hsh : shortB sh = false) (hg : Gl w) : Calls Tryz.prog 13 #[shV sh pt, (.int .i64 gd), .slice ta t.length tc, (.int .i64 total)] w (RetV w (.bool true)) := by
  refine calls_T0 (av := [_, _, _, _]) Tryz.func13 rfl rfl rfl ?_
  refine t_seq ?_
  refine t_reg ?_
  refine to_box rfl rfl (fun b4 => ?_)
  refine to_as rfl rfl ?_
  refine to_nil ?_
  refine tn_code ?_
  refine t_seq ?_
  refine t_seq ?_
  refine t_reg ?_
  first | refine to_lda rfl rfl rfl ?_ | refine to_ldea rfl (by assumption) rfl rfl ?_
  refine to_call0 rfl rfl (fun w s => c_short sh pt w) rfl ?_
  refine to_fix (s := 14) (b' := false) rfl (hsh) ?_
  refine to_not rfl rfl ?_
  refine to_mv rfl rfl ?_
  refine to_gf rfl rfl rfl rfl ?_
  refine to_gf rfl rfl rfl rfl ?_
  refine to_gf rfl rfl rfl rfl ?_
  refine to_pkT rfl rfl rfl ?_
  refine to_nil ?_
  refine tn_code ?_
  refine t_ifT rfl ?_
  refine t_seq ?_
  refine t_reg ?_
  refine to_call0 rfl rfl (fun w s => law_known w (gl_up hg (belowH_of s))) rfl ?_
  refine to_as rfl rfl ?_
  refine to_nil ?_
  refine tn_code ?_
  refine t_ret1 rfl rfl (res_tmp rfl) (fun w' s => ?_)
  rfl

set_option maxRecDepth 20000 in
theorem w_RoundBehinds_mF (sh : Sh) (pt : Pt) (gd : Int) (t : List Int) (ta : Option Addr) (tc : Nat) (total : Int) (w : World) (hre : Ro w 0 w.heap.size pt.ea sh.errs.length pt.ec 1 (ints sh.errs)) (hrr : Ro w 0 w.heap.size pt.ra sh.rows.length pt.rc 1 (ints sh.rows)) (hrl : Ro w 0 w.heap.size ta t.length tc 1 (ints t)) (hsh : shortB sh = true) (hsl7 : decide (t.length ≤ 7) = false) (hg : Gl w) : Calls Tryz.prog 13 #[shV sh pt, (.int .i64 gd), .slice ta t.length tc, (.int .i64 total)] w (RetV w (.bool true)) := by
  have hsl := short_b hsh
  refine calls_T0 (av := [_, _, _, _]) Tryz.func13 rfl rfl rfl ?_
  refine t_seq ?_
  refine t_reg ?_
  refine to_box rfl rfl (fun b4 => ?_)
  refine to_as rfl rfl ?_
  refine to_nil ?_
  refine tn_code ?_
  refine t_seq ?_
  refine t_seq ?_
  refine t_reg ?_
  first | refine to_lda rfl rfl rfl ?_ | refine to_ldea rfl (by assumption) rfl rfl ?_
  refine to_call0 rfl rfl (fun w s => c_short sh pt w) rfl ?_
  refine to_fix (s := 14) (b' := true) rfl (hsh) ?_
  refine to_not rfl rfl ?_
  refine to_mv rfl rfl ?_
  refine to_gt rfl rfl ?_
  refine to_mv rfl rfl ?_
  refine to_gt rfl rfl ?_
  refine to_call0 rfl rfl (fun w s => law_slim t _ _ w) rfl ?_
  refine to_fix (s := 18) (b' := false) rfl (hsl7) ?_
  refine to_gt rfl rfl ?_
  refine to_not rfl rfl ?_
  refine to_pkF rfl rfl rfl ?_
  refine to_nil ?_
  refine tn_code ?_
  refine t_ifT rfl ?_
  refine t_seq ?_
  refine t_reg ?_
  refine to_call0 rfl rfl (fun w s => law_known w (gl_up hg (belowH_of s))) rfl ?_
  refine to_as rfl rfl ?_
  refine to_nil ?_
  refine tn_code ?_
  refine t_ret1 rfl rfl (res_tmp rfl) (fun w' s => ?_)
  rfl

set_option maxRecDepth 20000 in
theorem w_RoundBehinds_nS (sh : Sh) (pt : Pt) (gd : Int) (t : List Int) (ta : Option Addr) (tc : Nat) (total : Int) (w : World) (hre : Ro w 0 w.heap.size pt.ea sh.errs.length pt.ec 1 (ints sh.errs)) (hrr : Ro w 0 w.heap.size pt.ra sh.rows.length pt.rc 1 (ints sh.rows)) (hrl : Ro w 0 w.heap.size ta t.length tc 1 (ints t)) (hsh : shortB sh = true) (hsl7 : decide (t.length ≤ 7) = true) (hs : isSh sh = false) (hg : Gl w) : Calls Tryz.prog 13 #[shV sh pt, (.int .i64 gd), .slice ta t.length tc, (.int .i64 total)] w (RetV w (.bool true)) := by
  have hsl := short_b hsh
  have h7 : t.length ≤ 7 := of_decide_eq_true hsl7
  have ho := okG_no hs gd
  have hl : sh.errs.length ≤ 1000000 := by omega
  refine calls_T0 (av := [_, _, _, _]) Tryz.func13 rfl rfl rfl ?_
  refine t_seq ?_
  refine t_reg ?_
  refine to_box rfl rfl (fun b4 => ?_)
  refine to_as rfl rfl ?_
  refine to_nil ?_
  refine tn_code ?_
  refine t_seq ?_
  refine t_seq ?_
  refine t_reg ?_
  first | refine to_lda rfl rfl rfl ?_ | refine to_ldea rfl (by assumption) rfl rfl ?_
  refine to_call0 rfl rfl (fun w s => c_short sh pt w) rfl ?_
  refine to_fix (s := 14) (b' := true) rfl (hsh) ?_
  refine to_not rfl rfl ?_
  refine to_mv rfl rfl ?_
  refine to_gt rfl rfl ?_
  refine to_mv rfl rfl ?_
  refine to_gt rfl rfl ?_
  refine to_call0 rfl rfl (fun w s => law_slim t _ _ w) rfl ?_
  refine to_fix (s := 18) (b' := true) rfl (hsl7) ?_
  refine to_gt rfl rfl ?_
  refine to_not rfl rfl ?_
  refine to_pkF rfl rfl rfl ?_
  refine to_nil ?_
  refine tn_code ?_
  refine t_ifF rfl ?_
  refine t_skip ?_
  refine tn_code ?_
  refine t_seq ?_
  refine t_reg ?_
  first | refine to_lda rfl rfl rfl ?_ | refine to_ldea rfl (by assumption) rfl rfl ?_
  refine to_mv rfl rfl ?_
  refine to_mv rfl rfl ?_
  refine to_mv rfl rfl ?_
  refine to_callR rfl rfl (fun w s => r_Behind_f sh pt gd t ta tc total w (rdw s) (rdw s) hl ho) rfl (fun v27 lo27 w27 hlo27 hR27 => ?_)
  obtain ⟨pa27, pc27, rfl, hro27⟩ := hR27
  refine to_mv rfl rfl ?_
  refine to_ex rfl rfl rfl ?_
  refine to_ex rfl rfl rfl ?_
  refine to_as rfl rfl ?_
  refine to_as rfl rfl ?_
  refine to_nil ?_
  refine tn_code ?_
  refine t_seq ?_
  refine t_seq ?_
  refine t_reg ?_
  first | refine to_lda rfl rfl rfl ?_ | refine to_ldea rfl (by assumption) rfl rfl ?_
  refine to_call0 rfl rfl (fun w s => ref_Sheet sh pt w (rdw s) (rdw s)) rfl ?_
  refine to_fix (s := 31) (b' := false) rfl (hs) ?_
  refine to_not rfl rfl ?_
  refine to_mv rfl rfl ?_
  refine to_gf rfl rfl rfl rfl ?_
  refine to_gf rfl rfl rfl rfl ?_
  refine to_gf rfl rfl rfl rfl ?_
  refine to_gf rfl rfl rfl rfl ?_
  refine to_pkT rfl rfl rfl ?_
  refine to_mv rfl rfl ?_
  refine to_gf rfl rfl rfl rfl ?_
  refine to_gf rfl rfl rfl rfl ?_
  refine to_gf rfl rfl rfl rfl ?_
  refine to_gf rfl rfl rfl rfl ?_
  refine to_gf rfl rfl rfl rfl ?_
  refine to_gf rfl rfl rfl rfl ?_
  refine to_pkT rfl rfl rfl ?_
  refine to_nil ?_
  refine tn_code ?_
  refine t_ifT rfl ?_
  refine t_seq ?_
  refine t_reg ?_
  refine to_mv rfl rfl ?_
  refine to_eql rfl rfl rfl ?_
  refine to_fix (s := 48) (b' := true) rfl (rfl) ?_
  refine to_mv rfl rfl ?_
  refine to_gt rfl rfl ?_
  refine to_mv rfl rfl ?_
  refine to_gt rfl rfl ?_
  refine to_lenS rfl rfl ?_
  refine to_gt rfl rfl ?_
  refine to_eql rfl rfl rfl ?_
  refine to_fix (s := 52) (b' := true) rfl (rfl) ?_
  refine to_pkT rfl rfl rfl ?_
  refine to_mv rfl rfl ?_
  refine to_gt rfl rfl ?_
  refine to_call0 rfl rfl (fun w s => law_known w (gl_up hg (belowH_of s))) rfl ?_
  refine to_pkT rfl rfl rfl ?_
  refine to_as rfl rfl ?_
  refine to_nil ?_
  refine tn_code ?_
  refine t_ret1 rfl rfl (res_tmp rfl) (fun w' s => ?_)
  rfl

set_option maxRecDepth 20000 in
theorem w_RoundBehinds_nG (sh : Sh) (pt : Pt) (gd : Int) (t : List Int) (ta : Option Addr) (tc : Nat) (total : Int) (w : World) (hre : Ro w 0 w.heap.size pt.ea sh.errs.length pt.ec 1 (ints sh.errs)) (hrr : Ro w 0 w.heap.size pt.ra sh.rows.length pt.rc 1 (ints sh.rows)) (hrl : Ro w 0 w.heap.size ta t.length tc 1 (ints t)) (hsh : shortB sh = true) (hsl7 : decide (t.length ≤ 7) = true) (hs : isSh sh = true) (hgn : inB gd 0 (sh.errs.length - 1) = false) (hg : Gl w) : Calls Tryz.prog 13 #[shV sh pt, (.int .i64 gd), .slice ta t.length tc, (.int .i64 total)] w (RetV w (.bool true)) := by
  have hsl := short_b hsh
  have h7 : t.length ≤ 7 := of_decide_eq_true hsl7
  have ho := okG_ng hgn
  have hl : sh.errs.length ≤ 1000000 := by omega
  refine calls_T0 (av := [_, _, _, _]) Tryz.func13 rfl rfl rfl ?_
  refine t_seq ?_
  refine t_reg ?_
  refine to_box rfl rfl (fun b4 => ?_)
  refine to_as rfl rfl ?_
  refine to_nil ?_
  refine tn_code ?_
  refine t_seq ?_
  refine t_seq ?_
  refine t_reg ?_
  first | refine to_lda rfl rfl rfl ?_ | refine to_ldea rfl (by assumption) rfl rfl ?_
  refine to_call0 rfl rfl (fun w s => c_short sh pt w) rfl ?_
  refine to_fix (s := 14) (b' := true) rfl (hsh) ?_
  refine to_not rfl rfl ?_
  refine to_mv rfl rfl ?_
  refine to_gt rfl rfl ?_
  refine to_mv rfl rfl ?_
  refine to_gt rfl rfl ?_
  refine to_call0 rfl rfl (fun w s => law_slim t _ _ w) rfl ?_
  refine to_fix (s := 18) (b' := true) rfl (hsl7) ?_
  refine to_gt rfl rfl ?_
  refine to_not rfl rfl ?_
  refine to_pkF rfl rfl rfl ?_
  refine to_nil ?_
  refine tn_code ?_
  refine t_ifF rfl ?_
  refine t_skip ?_
  refine tn_code ?_
  refine t_seq ?_
  refine t_reg ?_
  first | refine to_lda rfl rfl rfl ?_ | refine to_ldea rfl (by assumption) rfl rfl ?_
  refine to_mv rfl rfl ?_
  refine to_mv rfl rfl ?_
  refine to_mv rfl rfl ?_
  refine to_callR rfl rfl (fun w s => r_Behind_f sh pt gd t ta tc total w (rdw s) (rdw s) hl ho) rfl (fun v27 lo27 w27 hlo27 hR27 => ?_)
  obtain ⟨pa27, pc27, rfl, hro27⟩ := hR27
  refine to_mv rfl rfl ?_
  refine to_ex rfl rfl rfl ?_
  refine to_ex rfl rfl rfl ?_
  refine to_as rfl rfl ?_
  refine to_as rfl rfl ?_
  refine to_nil ?_
  refine tn_code ?_
  refine t_seq ?_
  refine t_seq ?_
  refine t_reg ?_
  first | refine to_lda rfl rfl rfl ?_ | refine to_ldea rfl (by assumption) rfl rfl ?_
  refine to_call0 rfl rfl (fun w s => ref_Sheet sh pt w (rdw s) (rdw s)) rfl ?_
  refine to_fix (s := 31) (b' := true) rfl (hs) ?_
  refine to_not rfl rfl ?_
  refine to_mv rfl rfl ?_
  refine to_gt rfl rfl ?_
  first | refine to_lda rfl rfl rfl ?_ | refine to_ldea rfl (by assumption) rfl rfl ?_
  refine to_gt rfl rfl ?_
  refine to_mv rfl rfl ?_
  refine to_gt rfl rfl ?_
  refine to_call0 rfl rfl (fun w s => ref_Guard sh pt _ w (by omega)) rfl ?_
  refine to_fix (s := 36) (b' := false) rfl (hgn) ?_
  refine to_gt rfl rfl ?_
  refine to_not rfl rfl ?_
  refine to_pkF rfl rfl rfl ?_
  refine to_mv rfl rfl ?_
  refine to_gf rfl rfl rfl rfl ?_
  refine to_gf rfl rfl rfl rfl ?_
  refine to_gf rfl rfl rfl rfl ?_
  refine to_gf rfl rfl rfl rfl ?_
  refine to_gf rfl rfl rfl rfl ?_
  refine to_gf rfl rfl rfl rfl ?_
  refine to_pkT rfl rfl rfl ?_
  refine to_nil ?_
  refine tn_code ?_
  refine t_ifT rfl ?_
  refine t_seq ?_
  refine t_reg ?_
  refine to_mv rfl rfl ?_
  refine to_eql rfl rfl rfl ?_
  refine to_fix (s := 48) (b' := true) rfl (rfl) ?_
  refine to_mv rfl rfl ?_
  refine to_gt rfl rfl ?_
  refine to_mv rfl rfl ?_
  refine to_gt rfl rfl ?_
  refine to_lenS rfl rfl ?_
  refine to_gt rfl rfl ?_
  refine to_eql rfl rfl rfl ?_
  refine to_fix (s := 52) (b' := true) rfl (rfl) ?_
  refine to_pkT rfl rfl rfl ?_
  refine to_mv rfl rfl ?_
  refine to_gt rfl rfl ?_
  refine to_call0 rfl rfl (fun w s => law_known w (gl_up hg (belowH_of s))) rfl ?_
  refine to_pkT rfl rfl rfl ?_
  refine to_as rfl rfl ?_
  refine to_nil ?_
  refine tn_code ?_
  refine t_ret1 rfl rfl (res_tmp rfl) (fun w' s => ?_)
  rfl

set_option maxRecDepth 20000 in
theorem w_RoundBehinds_lN (sh : Sh) (pt : Pt) (gd : Int) (t : List Int) (ta : Option Addr) (tc : Nat) (total : Int) (w : World) (hre : Ro w 0 w.heap.size pt.ea sh.errs.length pt.ec 1 (ints sh.errs)) (hrr : Ro w 0 w.heap.size pt.ra sh.rows.length pt.rc 1 (ints sh.rows)) (hrl : Ro w 0 w.heap.size ta t.length tc 1 (ints t)) (hsh : shortB sh = true) (hsl7 : decide (t.length ≤ 7) = true) (hs : isSh sh = true) (k : Nat) (e : Int) (hgk : gd = (k : Int)) (he : sh.errs[k]? = some e) (hfm : t.length ≠ sh.rows.length) (hg : Gl w) : Calls Tryz.prog 13 #[shV sh pt, (.int .i64 gd), .slice ta t.length tc, (.int .i64 total)] w (RetV w (.bool true)) := by
  subst hgk
  have hsl := short_b hsh
  have h7 : t.length ≤ 7 := of_decide_eq_true hsl7
  have heb := errs_b (isSh_e hs) e (List.mem_of_getElem? he)
  have hbb := isSh_b hs
  have hxe := map_get (f := intC) he
  have hke := (List.getElem?_eq_some_iff.1 he).1
  have hgt := grd_ok he
  refine calls_T0 (av := [_, _, _, _]) Tryz.func13 rfl rfl rfl ?_
  refine t_seq ?_
  refine t_reg ?_
  refine to_box rfl rfl (fun b4 => ?_)
  refine to_as rfl rfl ?_
  refine to_nil ?_
  refine tn_code ?_
  refine t_seq ?_
  refine t_seq ?_
  refine t_reg ?_
  first | refine to_lda rfl rfl rfl ?_ | refine to_ldea rfl (by assumption) rfl rfl ?_
  refine to_call0 rfl rfl (fun w s => c_short sh pt w) rfl ?_
  refine to_fix (s := 14) (b' := true) rfl (hsh) ?_
  refine to_not rfl rfl ?_
  refine to_mv rfl rfl ?_
  refine to_gt rfl rfl ?_
  refine to_mv rfl rfl ?_
  refine to_gt rfl rfl ?_
  refine to_call0 rfl rfl (fun w s => law_slim t _ _ w) rfl ?_
  refine to_fix (s := 18) (b' := true) rfl (hsl7) ?_
  refine to_gt rfl rfl ?_
  refine to_not rfl rfl ?_
  refine to_pkF rfl rfl rfl ?_
  refine to_nil ?_
  refine tn_code ?_
  refine t_ifF rfl ?_
  refine t_skip ?_
  refine tn_code ?_
  refine t_seq ?_
  refine t_reg ?_
  first | refine to_lda rfl rfl rfl ?_ | refine to_ldea rfl (by assumption) rfl rfl ?_
  refine to_mv rfl rfl ?_
  refine to_mv rfl rfl ?_
  refine to_mv rfl rfl ?_
  refine to_callR rfl rfl (fun w s => r_Behind_m sh pt k e t ta tc total w (rdw s) (rdw s) hs he hfm) rfl (fun v27 lo27 w27 hlo27 hR27 => ?_)
  obtain ⟨pa27, pc27, rfl, hro27⟩ := hR27
  refine to_mv rfl rfl ?_
  refine to_ex rfl rfl rfl ?_
  refine to_ex rfl rfl rfl ?_
  refine to_as rfl rfl ?_
  refine to_as rfl rfl ?_
  refine to_nil ?_
  refine tn_code ?_
  refine t_seq ?_
  refine t_seq ?_
  refine t_reg ?_
  first | refine to_lda rfl rfl rfl ?_ | refine to_ldea rfl (by assumption) rfl rfl ?_
  refine to_call0 rfl rfl (fun w s => ref_Sheet sh pt w (rdw s) (rdw s)) rfl ?_
  refine to_fix (s := 31) (b' := true) rfl (hs) ?_
  refine to_not rfl rfl ?_
  refine to_mv rfl rfl ?_
  refine to_gt rfl rfl ?_
  first | refine to_lda rfl rfl rfl ?_ | refine to_ldea rfl (by assumption) rfl rfl ?_
  refine to_gt rfl rfl ?_
  refine to_mv rfl rfl ?_
  refine to_gt rfl rfl ?_
  refine to_call0 rfl rfl (fun w s => ref_Guard sh pt _ w (by omega)) rfl ?_
  refine to_fix (s := 36) (b' := true) rfl (hgt) ?_
  refine to_gt rfl rfl ?_
  refine to_not rfl rfl ?_
  refine to_pkF rfl rfl rfl ?_
  refine to_mv rfl rfl ?_
  refine to_gt rfl rfl ?_
  refine to_mv rfl rfl ?_
  refine to_gt rfl rfl ?_
  refine to_lenS rfl rfl ?_
  refine to_gt rfl rfl ?_
  first | refine to_fa rfl rfl rfl (by simp only [Nat.reduceAdd]; rfl) rfl ?_ | refine to_fae rfl rfl rfl (by simp only [Nat.reduceAdd]; rfl) rfl ?_
  refine to_gt rfl rfl ?_
  first | refine to_lds rfl rfl rfl ?_ | refine to_ldes rfl (by assumption) rfl rfl ?_
  refine to_gt rfl rfl ?_
  refine to_lenS rfl rfl ?_
  refine to_gt rfl rfl ?_
  refine to_neq rfl rfl rfl ?_
  refine to_fix (s := 45) (b' := true) rfl (decide_eq_true (by omega)) ?_
  refine to_pkF rfl rfl rfl ?_
  refine to_nil ?_
  refine tn_code ?_
  refine t_ifT rfl ?_
  refine t_seq ?_
  refine t_reg ?_
  refine to_mv rfl rfl ?_
  refine to_eql rfl rfl rfl ?_
  refine to_fix (s := 48) (b' := true) rfl (rfl) ?_
  refine to_mv rfl rfl ?_
  refine to_gt rfl rfl ?_
  refine to_mv rfl rfl ?_
  refine to_gt rfl rfl ?_
  refine to_lenS rfl rfl ?_
  refine to_gt rfl rfl ?_
  refine to_eql rfl rfl rfl ?_
  refine to_fix (s := 52) (b' := true) rfl (rfl) ?_
  refine to_pkT rfl rfl rfl ?_
  refine to_mv rfl rfl ?_
  refine to_gt rfl rfl ?_
  refine to_call0 rfl rfl (fun w s => law_known w (gl_up hg (belowH_of s))) rfl ?_
  refine to_pkT rfl rfl rfl ?_
  refine to_as rfl rfl ?_
  refine to_nil ?_
  refine tn_code ?_
  refine t_ret1 rfl rfl (res_tmp rfl) (fun w' s => ?_)
  rfl

set_option maxRecDepth 20000 in
theorem w_RoundBehinds_bY (sh : Sh) (pt : Pt) (gd : Int) (t : List Int) (ta : Option Addr) (tc : Nat) (total : Int) (w : World) (hre : Ro w 0 w.heap.size pt.ea sh.errs.length pt.ec 1 (ints sh.errs)) (hrr : Ro w 0 w.heap.size pt.ra sh.rows.length pt.rc 1 (ints sh.rows)) (hrl : Ro w 0 w.heap.size ta t.length tc 1 (ints t)) (hsh : shortB sh = true) (hsl7 : decide (t.length ≤ 7) = true) (hs : isSh sh = true) (k : Nat) (e : Int) (hgk : gd = (k : Int)) (he : sh.errs[k]? = some e) (hfl : t.length = sh.rows.length) (X : List Sp) (hB : bhR sh e t total = (X, 0)) (hX : BhYes sh e t total X) (hg : Gl w) : Calls Tryz.prog 13 #[shV sh pt, (.int .i64 gd), .slice ta t.length tc, (.int .i64 total)] w (RetV w (.bool true)) := by
  subst hgk
  have hsl := short_b hsh
  have h7 : t.length ≤ 7 := of_decide_eq_true hsl7
  have heb := errs_b (isSh_e hs) e (List.mem_of_getElem? he)
  have hbb := isSh_b hs
  have hxe := map_get (f := intC) he
  have hke := (List.getElem?_eq_some_iff.1 he).1
  have hgt := grd_ok he
  have hXl := hX.1
  refine calls_T0 (av := [_, _, _, _]) Tryz.func13 rfl rfl rfl ?_
  refine t_seq ?_
  refine t_reg ?_
  refine to_box rfl rfl (fun b4 => ?_)
  refine to_as rfl rfl ?_
  refine to_nil ?_
  refine tn_code ?_
  refine t_seq ?_
  refine t_seq ?_
  refine t_reg ?_
  first | refine to_lda rfl rfl rfl ?_ | refine to_ldea rfl (by assumption) rfl rfl ?_
  refine to_call0 rfl rfl (fun w s => c_short sh pt w) rfl ?_
  refine to_fix (s := 14) (b' := true) rfl (hsh) ?_
  refine to_not rfl rfl ?_
  refine to_mv rfl rfl ?_
  refine to_gt rfl rfl ?_
  refine to_mv rfl rfl ?_
  refine to_gt rfl rfl ?_
  refine to_call0 rfl rfl (fun w s => law_slim t _ _ w) rfl ?_
  refine to_fix (s := 18) (b' := true) rfl (hsl7) ?_
  refine to_gt rfl rfl ?_
  refine to_not rfl rfl ?_
  refine to_pkF rfl rfl rfl ?_
  refine to_nil ?_
  refine tn_code ?_
  refine t_ifF rfl ?_
  refine t_skip ?_
  refine tn_code ?_
  refine t_seq ?_
  refine t_reg ?_
  first | refine to_lda rfl rfl rfl ?_ | refine to_ldea rfl (by assumption) rfl rfl ?_
  refine to_mv rfl rfl ?_
  refine to_mv rfl rfl ?_
  refine to_mv rfl rfl ?_
  refine to_callR rfl rfl (fun w s => c_Behind2 (rdw s) (rdw s) hs he (rdw s) hfl hB) rfl (fun v27 lo27 w27 hlo27 hR27 => ?_)
  obtain ⟨pa27, pc27, rfl, hro27⟩ := hR27
  refine to_mv rfl rfl ?_
  refine to_ex rfl rfl rfl ?_
  refine to_ex rfl rfl rfl ?_
  refine to_as rfl rfl ?_
  refine to_as rfl rfl ?_
  refine to_nil ?_
  refine tn_code ?_
  refine t_seq ?_
  refine t_seq ?_
  refine t_reg ?_
  first | refine to_lda rfl rfl rfl ?_ | refine to_ldea rfl (by assumption) rfl rfl ?_
  refine to_call0 rfl rfl (fun w s => ref_Sheet sh pt w (rdw s) (rdw s)) rfl ?_
  refine to_fix (s := 31) (b' := true) rfl (hs) ?_
  refine to_not rfl rfl ?_
  refine to_mv rfl rfl ?_
  refine to_gt rfl rfl ?_
  first | refine to_lda rfl rfl rfl ?_ | refine to_ldea rfl (by assumption) rfl rfl ?_
  refine to_gt rfl rfl ?_
  refine to_mv rfl rfl ?_
  refine to_gt rfl rfl ?_
  refine to_call0 rfl rfl (fun w s => ref_Guard sh pt _ w (by omega)) rfl ?_
  refine to_fix (s := 36) (b' := true) rfl (hgt) ?_
  refine to_gt rfl rfl ?_
  refine to_not rfl rfl ?_
  refine to_pkF rfl rfl rfl ?_
  refine to_mv rfl rfl ?_
  refine to_gt rfl rfl ?_
  refine to_mv rfl rfl ?_
  refine to_gt rfl rfl ?_
  refine to_lenS rfl rfl ?_
  refine to_gt rfl rfl ?_
  first | refine to_fa rfl rfl rfl (by simp only [Nat.reduceAdd]; rfl) rfl ?_ | refine to_fae rfl rfl rfl (by simp only [Nat.reduceAdd]; rfl) rfl ?_
  refine to_gt rfl rfl ?_
  first | refine to_lds rfl rfl rfl ?_ | refine to_ldes rfl (by assumption) rfl rfl ?_
  refine to_gt rfl rfl ?_
  refine to_lenS rfl rfl ?_
  refine to_gt rfl rfl ?_
  refine to_neq rfl rfl rfl ?_
  refine to_fix (s := 45) (b' := false) rfl (decide_eq_false (by omega)) ?_
  refine to_pkF rfl rfl rfl ?_
  refine to_nil ?_
  refine tn_code ?_
  refine t_ifF rfl ?_
  refine t_skip ?_
  refine tn_code ?_
  refine t_seq ?_
  refine t_reg ?_
  first | refine to_lda rfl rfl rfl ?_ | refine to_ldea rfl (by assumption) rfl rfl ?_
  refine to_mv rfl rfl ?_
  refine to_mv rfl rfl ?_
  refine to_mv rfl rfl ?_
  refine to_callR rfl rfl (fun w s => ref_Behind_y sh pt k e t ta tc total X w (rdw s) (rdw s) hs he (rdw s) hfl hX) rfl (fun v62 lo62 w62 hlo62 hR62 => ?_)
  obtain ⟨pa62, pc62, rfl, hro62⟩ := hR62
  refine to_mv rfl rfl ?_
  refine to_ex rfl rfl rfl ?_
  refine to_ex rfl rfl rfl ?_
  refine to_fix (s := 64) (b' := true) rfl (rfl) ?_
  refine to_as rfl rfl ?_
  refine to_as rfl rfl ?_
  refine to_nil ?_
  refine tn_code ?_
  refine t_seq ?_
  refine t_seq ?_
  refine t_reg ?_
  refine to_mv rfl rfl ?_
  refine to_not rfl rfl ?_
  refine to_nil ?_
  refine tn_code ?_
  refine t_ifF rfl ?_
  refine t_skip ?_
  refine tn_code ?_
  refine t_seq ?_
  refine t_reg ?_
  refine to_mv rfl rfl ?_
  refine to_eql rfl rfl rfl ?_
  refine to_fix (s := 78) (b' := true) rfl (rfl) ?_
  refine to_mv rfl rfl ?_
  refine to_gt rfl rfl ?_
  refine to_mv rfl rfl ?_
  refine to_gt rfl rfl ?_
  refine to_mv rfl rfl ?_
  refine to_gt rfl rfl ?_
  refine to_call0 rfl rfl (fun w s => ref_SameSpans X X _ _ _ _ w (rdw s) (rdw s) (by omega)) rfl ?_
  refine to_fix (s := 82) (b' := true) rfl (decide_eq_true rfl) ?_
  refine to_pkT rfl rfl rfl ?_
  refine to_mv rfl rfl ?_
  refine to_gt rfl rfl ?_
  refine to_call0 rfl rfl (fun w s => law_known w (gl_up hg (belowH_of s))) rfl ?_
  refine to_pkT rfl rfl rfl ?_
  refine to_as rfl rfl ?_
  refine to_nil ?_
  refine tn_code ?_
  refine t_ret1 rfl rfl (res_tmp rfl) (fun w' s => ?_)
  rfl

set_option maxRecDepth 20000 in
theorem w_RoundBehinds_bN (sh : Sh) (pt : Pt) (gd : Int) (t : List Int) (ta : Option Addr) (tc : Nat) (total : Int) (w : World) (hre : Ro w 0 w.heap.size pt.ea sh.errs.length pt.ec 1 (ints sh.errs)) (hrr : Ro w 0 w.heap.size pt.ra sh.rows.length pt.rc 1 (ints sh.rows)) (hrl : Ro w 0 w.heap.size ta t.length tc 1 (ints t)) (hsh : shortB sh = true) (hsl7 : decide (t.length ≤ 7) = true) (hs : isSh sh = true) (k : Nat) (e : Int) (hgk : gd = (k : Int)) (he : sh.errs[k]? = some e) (hfl : t.length = sh.rows.length) (hB : bhR sh e t total = ([], 5)) (hX : BhNo sh e t total) (hg : Gl w) : Calls Tryz.prog 13 #[shV sh pt, (.int .i64 gd), .slice ta t.length tc, (.int .i64 total)] w (RetV w (.bool true)) := by
  subst hgk
  have hsl := short_b hsh
  have h7 : t.length ≤ 7 := of_decide_eq_true hsl7
  have heb := errs_b (isSh_e hs) e (List.mem_of_getElem? he)
  have hbb := isSh_b hs
  have hxe := map_get (f := intC) he
  have hke := (List.getElem?_eq_some_iff.1 he).1
  have hgt := grd_ok he
  refine calls_T0 (av := [_, _, _, _]) Tryz.func13 rfl rfl rfl ?_
  refine t_seq ?_
  refine t_reg ?_
  refine to_box rfl rfl (fun b4 => ?_)
  refine to_as rfl rfl ?_
  refine to_nil ?_
  refine tn_code ?_
  refine t_seq ?_
  refine t_seq ?_
  refine t_reg ?_
  first | refine to_lda rfl rfl rfl ?_ | refine to_ldea rfl (by assumption) rfl rfl ?_
  refine to_call0 rfl rfl (fun w s => c_short sh pt w) rfl ?_
  refine to_fix (s := 14) (b' := true) rfl (hsh) ?_
  refine to_not rfl rfl ?_
  refine to_mv rfl rfl ?_
  refine to_gt rfl rfl ?_
  refine to_mv rfl rfl ?_
  refine to_gt rfl rfl ?_
  refine to_call0 rfl rfl (fun w s => law_slim t _ _ w) rfl ?_
  refine to_fix (s := 18) (b' := true) rfl (hsl7) ?_
  refine to_gt rfl rfl ?_
  refine to_not rfl rfl ?_
  refine to_pkF rfl rfl rfl ?_
  refine to_nil ?_
  refine tn_code ?_
  refine t_ifF rfl ?_
  refine t_skip ?_
  refine tn_code ?_
  refine t_seq ?_
  refine t_reg ?_
  first | refine to_lda rfl rfl rfl ?_ | refine to_ldea rfl (by assumption) rfl rfl ?_
  refine to_mv rfl rfl ?_
  refine to_mv rfl rfl ?_
  refine to_mv rfl rfl ?_
  refine to_callR rfl rfl (fun w s => c_Behind2 (rdw s) (rdw s) hs he (rdw s) hfl hB) rfl (fun v27 lo27 w27 hlo27 hR27 => ?_)
  obtain ⟨pa27, pc27, rfl, hro27⟩ := hR27
  refine to_mv rfl rfl ?_
  refine to_ex rfl rfl rfl ?_
  refine to_ex rfl rfl rfl ?_
  refine to_as rfl rfl ?_
  refine to_as rfl rfl ?_
  refine to_nil ?_
  refine tn_code ?_
  refine t_seq ?_
  refine t_seq ?_
  refine t_reg ?_
  first | refine to_lda rfl rfl rfl ?_ | refine to_ldea rfl (by assumption) rfl rfl ?_
  refine to_call0 rfl rfl (fun w s => ref_Sheet sh pt w (rdw s) (rdw s)) rfl ?_
  refine to_fix (s := 31) (b' := true) rfl (hs) ?_
  refine to_not rfl rfl ?_
  refine to_mv rfl rfl ?_
  refine to_gt rfl rfl ?_
  first | refine to_lda rfl rfl rfl ?_ | refine to_ldea rfl (by assumption) rfl rfl ?_
  refine to_gt rfl rfl ?_
  refine to_mv rfl rfl ?_
  refine to_gt rfl rfl ?_
  refine to_call0 rfl rfl (fun w s => ref_Guard sh pt _ w (by omega)) rfl ?_
  refine to_fix (s := 36) (b' := true) rfl (hgt) ?_
  refine to_gt rfl rfl ?_
  refine to_not rfl rfl ?_
  refine to_pkF rfl rfl rfl ?_
  refine to_mv rfl rfl ?_
  refine to_gt rfl rfl ?_
  refine to_mv rfl rfl ?_
  refine to_gt rfl rfl ?_
  refine to_lenS rfl rfl ?_
  refine to_gt rfl rfl ?_
  first | refine to_fa rfl rfl rfl (by simp only [Nat.reduceAdd]; rfl) rfl ?_ | refine to_fae rfl rfl rfl (by simp only [Nat.reduceAdd]; rfl) rfl ?_
  refine to_gt rfl rfl ?_
  first | refine to_lds rfl rfl rfl ?_ | refine to_ldes rfl (by assumption) rfl rfl ?_
  refine to_gt rfl rfl ?_
  refine to_lenS rfl rfl ?_
  refine to_gt rfl rfl ?_
  refine to_neq rfl rfl rfl ?_
  refine to_fix (s := 45) (b' := false) rfl (decide_eq_false (by omega)) ?_
  refine to_pkF rfl rfl rfl ?_
  refine to_nil ?_
  refine tn_code ?_
  refine t_ifF rfl ?_
  refine t_skip ?_
  refine tn_code ?_
  refine t_seq ?_
  refine t_reg ?_
  first | refine to_lda rfl rfl rfl ?_ | refine to_ldea rfl (by assumption) rfl rfl ?_
  refine to_mv rfl rfl ?_
  refine to_mv rfl rfl ?_
  refine to_mv rfl rfl ?_
  refine to_callR rfl rfl (fun w s => ref_Behind_n sh pt k e t ta tc total w (rdw s) (rdw s) hs he (rdw s) hfl hX) rfl (fun v62 lo62 w62 hlo62 hR62 => ?_)
  obtain ⟨pa62, pc62, rfl, hro62⟩ := hR62
  refine to_mv rfl rfl ?_
  refine to_ex rfl rfl rfl ?_
  refine to_ex rfl rfl rfl ?_
  refine to_fix (s := 64) (b' := false) rfl (rfl) ?_
  refine to_as rfl rfl ?_
  refine to_as rfl rfl ?_
  refine to_nil ?_
  refine tn_code ?_
  refine t_seq ?_
  refine t_seq ?_
  refine t_reg ?_
  refine to_mv rfl rfl ?_
  refine to_not rfl rfl ?_
  refine to_nil ?_
  refine tn_code ?_
  refine t_ifT rfl ?_
  refine t_seq ?_
  refine t_reg ?_
  refine to_mv rfl rfl ?_
  refine to_eql rfl rfl rfl ?_
  refine to_fix (s := 68) (b' := true) rfl (rfl) ?_
  refine to_mv rfl rfl ?_
  refine to_gt rfl rfl ?_
  refine to_mv rfl rfl ?_
  refine to_gt rfl rfl ?_
  refine to_lenS rfl rfl ?_
  refine to_gt rfl rfl ?_
  refine to_eql rfl rfl rfl ?_
  refine to_fix (s := 72) (b' := true) rfl (rfl) ?_
  refine to_pkT rfl rfl rfl ?_
  refine to_mv rfl rfl ?_
  refine to_gt rfl rfl ?_
  refine to_call0 rfl rfl (fun w s => law_known w (gl_up hg (belowH_of s))) rfl ?_
  refine to_pkT rfl rfl rfl ?_
  refine to_as rfl rfl ?_
  refine to_nil ?_
  refine tn_code ?_
  refine t_ret1 rfl rfl (res_tmp rfl) (fun w' s => ?_)
  rfl

theorem w_RoundBehinds (sh : Sh) (pt : Pt) (gd : Int) (t : List Int) (ta : Option Addr) (tc : Nat) (total : Int) (w : World) (hre : Ro w 0 w.heap.size pt.ea sh.errs.length pt.ec 1 (ints sh.errs)) (hrr : Ro w 0 w.heap.size pt.ra sh.rows.length pt.rc 1 (ints sh.rows)) (hrl : Ro w 0 w.heap.size ta t.length tc 1 (ints t)) (hg : Gl w) : Calls Tryz.prog 13 #[shV sh pt, .int .i64 gd, .slice ta t.length tc, .int .i64 total] w (RetV w (.bool true)) := by
  rcases bool_tf (shortB sh) with hsh | hsh
  · rcases bool_tf (decide (t.length ≤ 7)) with h7 | h7
    · rcases bool_tf (isSh sh) with hs | hs
      · rcases bool_tf (inB gd 0 (sh.errs.length - 1)) with hgn | hgn
        · obtain ⟨k, e, hk, he⟩ := grd_ex hgn
          have heb := errs_b (isSh_e hs) e (List.mem_of_getElem? he)
          by_cases hfl : t.length = sh.rows.length
          · rcases bh_cases (total := total) hs heb.1 hfl with ⟨hB, hX⟩ | ⟨X, hB, hX⟩
            · exact w_RoundBehinds_bN sh pt gd t ta tc total w hre hrr hrl hsh h7 hs k e hk he hfl hB hX hg
            · exact w_RoundBehinds_bY sh pt gd t ta tc total w hre hrr hrl hsh h7 hs k e hk he hfl X hB hX hg
          · exact w_RoundBehinds_lN sh pt gd t ta tc total w hre hrr hrl hsh h7 hs k e hk he hfl hg
        · exact w_RoundBehinds_nG sh pt gd t ta tc total w hre hrr hrl hsh h7 hs hgn hg
      · exact w_RoundBehinds_nS sh pt gd t ta tc total w hre hrr hrl hsh h7 hs hg
    · exact w_RoundBehinds_mF sh pt gd t ta tc total w hre hrr hrl hsh h7 hg
  · exact w_RoundBehinds_sF sh pt gd t ta tc total w hre hrr hrl hsh hg

end Go.Proofs


namespace Go.Proofs.YtebellbkmioadaaGreatDoor
open Go Go.Sx Go.RowKit Go.WideShapes Go.ChangeShapes

section
variable {H : Type} {enc : TypeId × Value → H}
set_option maxRecDepth 100000 in
theorem roundBehinds_law (W : World) (base : Nat) (args : Array Value) (ds : List (DataW H)) (p : List MemPlace) (hval : ∀ (j : Nat) t v, Tryz.f13.params[j]? = some t → args[j]? = some v → Value.okWide Tryz.prog W .any base t v)
    (hA : DataW.TrodAll enc Tryz.prog W 0 (fun _ => true) true Tryz.f13.params.toList args.toList ds p) (hg : Gl W) : Calls Tryz.prog 13 args W (RetV W (.bool true)) := by
  obtain ⟨l⟩ := args
  rw [Tryz.params13] at hA hval
  obtain ⟨v0, l0, d0, e0, p0, q0, hl0, rfl, h0, hA0⟩ := trodAll_cons hA
  have hl0' : l = v0 :: l0 := hl0
  subst hl0'
  obtain ⟨v1, l1, d1, e1, p1, q1, hl1, rfl, h1, hA1⟩ := trodAll_cons hA0
  subst hl1
  obtain ⟨v2, l2, d2, e2, p2, q2, hl2, rfl, h2, hA2⟩ := trodAll_cons hA1
  subst hl2
  obtain ⟨v3, l3, d3, e3, p3, q3, hl3, rfl, h3, hA3⟩ := trodAll_cons hA2
  subst hl3
  obtain rfl := trodAll_nil hA3
  obtain ⟨sh0, pt0, rfl, hre0, hrr0⟩ := open_sh (hval 0 33 v0 rfl rfl) h0
  obtain ⟨n1, rfl, _⟩ := open_i u3 (hval 1 3 v1 rfl rfl) h1
  obtain ⟨t2, a2, c2, rfl, hr2⟩ := open_ints36 (hval 2 30 v2 rfl rfl) h2
  obtain ⟨n3, rfl, _⟩ := open_i u3 (hval 3 3 v3 rfl rfl) h3
  exact w_RoundBehinds sh0 pt0 n1 t2 a2 c2 n3 W hre0 hrr0 hr2 hg
end

set_option maxRecDepth 100000 in
theorem roundBehinds_lifted (os : Os) (started : os.Started) (H : Type) (enc : TypeId × Value → H) :
    ReturnsInHanded {} Tryz.checked os 13 .any (fun w args => (Rows.roundBehindsSpec.pre enc Tryz.prog Tryz.f13 [] false w args ∧ laidMetH Tryz.prog laidL w) ∧ sizedMet enc Tryz.prog Tryz.f13 (OpenSpec.ofChange Rows.roundBehindsSpec) false w args)
      (Rows.roundBehindsSpec.post enc Tryz.prog Tryz.f13 false true false false) :=
  law_lifted started (by kernel_rfl) Tryz.func13 rfl rfl (by kernel_rfl) (fun ds h => by
      match ds, h with
      | [_, _, _, _], _ => rfl)
    (ChangeSpec.witness_shaped (enc := enc) (C := Tryz.checked) (os := os) (X := fun w _ => laidMetH Tryz.prog laidL w) false (World.laidAll Tryz.prog os laidL) #[.agg #[.int .i64 0, .int .i64 0, .slice none 0 0, .slice none 0 0], .int .i64 0, .slice none 0 0, .int .i64 0] 8 (World.laidAll_os _ _ _)
      (World.shaped_of_ZipB (by kernel_rfl) (by kernel_rfl)) (by kernel_rfl) (by kernel_rfl) (by kernel_rfl)
      (by rw [MakeChecks.laidMetH_plain _ _ _ (by kernel_rfl)]; exact laidMet_laidAll _ (by kernel_rfl) (by kernel_rfl)))
    (fun W base args ds p hval hA hg => roundBehinds_law W base args ds p hval hA hg)

theorem roundBehinds_holds : Rows.RoundBehindsSaid :=
  OpenClaim.holds_of_wide 13 Tryz.f13 rfl rfl rfl rfl rfl rfl rfl ⟨rfl, rfl, rfl, rfl, rfl⟩ rfl rfl rfl rfl rfl (by kernel_rfl) Tryz.func13 (by kernel_rfl)
    (of_decide_eq_true (by kernel_rfl)) (by unfold Func.isWrapper; first | (rw [if_pos (by decide +kernel)]; kernel_rfl) | (rw [if_neg (by decide +kernel)]; exact ⟨rfl, rfl⟩))
    (fun os started H enc _ => roundBehinds_lifted os started H enc)

theorem roundBehinds_card : Rows.RoundBehindsCardSaid :=
  Claim7.holds_tied_plain_at .later [] [.data, .data, .data, .data, .pinned] true (true, "96da020e9171284ac76ac3c82595ce7ceccbab9aed8a1f73712d8b3a4229c7e5") true
    roundBehinds_holds (fun _ h => by cases h) (by kernel_rfl) (fun _ h => by cases h) roundBehinds_row_tie rfl ⟨rfl, rfl⟩ (by kernel_rfl) rfl
    (fun f fn hf hfn => by
      obtain rfl : f = 13 := Option.some.inj ((show Tryz.prog.funcNamed "ephemerist/ephemeristlaw04.RoundBehinds" = some 13 by kernel_rfl).symm.trans hf) |>.symm
      obtain rfl : fn = Tryz.f13 := (Option.some.inj (Tryz.func13.symm.trans hfn)).symm
      exact ⟨by kernel_rfl, fun j t ht => by
        rw [Tryz.params13] at ht
        have hm : t ∈ [33, 3, 30, 3] := by simpa using Array.mem_of_getElem? ht
        have hall : ([33, 3, 30, 3].all fun u => !Tryz.prog.wantsStandIn u) = true := by kernel_rfl
        exact (show Tryz.prog.wantsStandIn t = false by simpa using List.all_eq_true.1 hall t hm)⟩)
    (by kernel_rfl)
end Go.Proofs.YtebellbkmioadaaGreatDoor

