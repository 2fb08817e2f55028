/- RoundHidden: for every input the law returns true, and each argument reads behind the call as it read before. Conditions: the package-level variables that the row lists hold what the program's text lays (tied by the card). -/
import Derived.Test.YtebellbkmioadaaGreatDoorOwnC
import Derived.Test.YtebellbkmioadaaGreatDoorOwnE
import Derived.Test.YtebellbkmioadaaGreatDoorOwnF
import Derived.LaidOnce
import Derived.SevenTiedAt
import Derived.Test.YtebellbkmioadaaGreatDoorTie
import Derived.Test.YtebellbkmioadaaGreatDoorCards
set_option linter.unusedVariables false
set_option linter.unusedSimpArgs false
namespace Go.Proofs
open Go Go.Sx

/-! # Plain laws of round: rounding -/

/-! ## Numbers behind a figure -/

theorem fig_mono {sh : Sh} {v w : Int} (hs : isSh sh = true) (h : v ≤ w) : fig sh v ≤ fig sh w := toF_mono (isSh_b hs).1.1 h
/-! ## Lists that lie on a map from one place on -/

end Go.Proofs


namespace Go.Proofs
open Go Go.Sx

/-! # Plain laws of round: what is sure -/

/-! ## More guard figures -/

theorem endT_E {F : Int → Int} {e : Int} (he : 0 ≤ e) (rows : List Int) (of : Int → Int → Int) : IsE (fun x => ∃ t, truK e rows t = true ∧ of (sumI t) (figO F t) = x) (some ((endT F e rows of).getD (0, 0))) := by
  have := endT_isE (F := F) he rows of
  rwa [endT_some he] at this
/-! ## Totals of truths -/

/-! ## The other sign -/

end Go.Proofs


namespace Go.Proofs
open Go Go.Sx

/-! # Plain laws of round: totals that fail -/

/-! ## What is behind figures -/

/-- A sum of one number of each list. -/
def IsSum : List (List Int) → Int → Prop
  | [], y => y = 0
  | l :: ls, y => ∃ n ∈ l, IsSum ls (y - n)
/-- The first lists but one. -/
def skipK (ls : List (List Int)) (but : Nat) : Nat → List (List Int)
  | 0 => []
  | i + 1 => if i = but then skipK ls but i else skipK ls but i ++ [ls.getD i []]
theorem skip_t (ls : List (List Int)) (but : Nat) : skipK ls but (but + 1) = skipK ls but but := by simp [skipK]
theorem skip_f {ls : List (List Int)} {but i : Nat} {l : List Int} (h : ¬ i = but) (hl : ls[i]? = some l) : skipK ls but (i + 1) = skipK ls but i ++ [l] := by simp [skipK, h, hl, List.getD]
theorem sumI_le2 : ∀ {ps : List (List Int × Sp)}, (∀ q ∈ ps, q.2.1 ≤ q.2.2) → sumI (ps.map (·.2.1)) ≤ sumI (ps.map (·.2.2))
  | [], _ => Int.le_refl _
  | q :: ps, h => by
    have ih := sumI_le2 (fun z hz => h z (List.mem_cons_of_mem _ hz))
    have h1 := h q (List.mem_cons_self ..)
    simp only [List.map_cons, sumI_cons]; omega
/-- Lists that are ranges have all sums between. -/
theorem isSum_rng {lsR : List (List Int × Sp)} : (∀ p ∈ lsR, p.2.1 ≤ p.2.2 ∧ ∀ n, n ∈ p.1 ↔ p.2.1 ≤ n ∧ n ≤ p.2.2) → ∀ y, IsSum (lsR.map (·.1)) y ↔ sumI (lsR.map (·.2.1)) ≤ y ∧ y ≤ sumI (lsR.map (·.2.2)) := by
  induction lsR with
  | nil => intro _ y; simp [IsSum, sumI]; omega
  | cons p ps ih =>
    intro h y
    have h1 := h p (List.mem_cons_self ..)
    have ih := ih (fun q hq => h q (List.mem_cons_of_mem _ hq))
    have hle := sumI_le2 (fun q hq => (h q (List.mem_cons_of_mem _ hq)).1)
    simp only [List.map_cons, IsSum, sumI_cons]
    constructor
    · rintro ⟨n, hn, h2⟩
      have := (h1.2 n).1 hn
      have := (ih _).1 h2
      omega
    · intro h2
      by_cases hc : y - p.2.2 ≤ sumI (ps.map (·.2.1))
      · exact ⟨y - sumI (ps.map (·.2.1)), (h1.2 _).2 (by omega), (ih _).2 (by omega)⟩
      · exact ⟨p.2.2, (h1.2 _).2 (by omega), (ih _).2 (by omega)⟩
/-- The numbers of a row with its figure: a range. -/
theorem prn_rng {sh : Sh} {e r fg : Int} (hs : isSh sh = true) (he : 0 ≤ e) (h : prnE sh e r fg ≠ []) : ((endsI (prnE sh e r fg)).getD (0, 0)).1 ≤ ((endsI (prnE sh e r fg)).getD (0, 0)).2 ∧ ∀ n, n ∈ prnE sh e r fg ↔ ((endsI (prnE sh e r fg)).getD (0, 0)).1 ≤ n ∧ n ≤ ((endsI (prnE sh e r fg)).getD (0, 0)).2 := by
  have hE := ends_ne h
  generalize (endsI (prnE sh e r fg)).getD (0, 0) = z at hE
  have hm : ∀ n, n ∈ prnE sh e r fg ↔ (r - e ≤ n ∧ n ≤ r + e) ∧ fig sh n = fg := fun n => by
    rw [prnE, List.mem_filter, mem_exL he]; simp
  have h1 := (hm _).1 hE.1
  have h2 := (hm _).1 hE.2.1
  refine ⟨(hE.2.2 _ hE.1).2, fun n => ⟨fun hn => hE.2.2 n hn, fun hn => (hm n).2 ⟨by omega, ?_⟩⟩⟩
  have h3 := fig_mono hs hn.1
  have h4 := fig_mono hs hn.2
  omega
theorem tot_rng {sh : Sh} {lo total : Int} {N : Nat} (hs : isSh sh = true) (h : totL sh lo total N ≠ []) : ∀ n, (lo ≤ n ∧ n < lo + N ∧ fig sh n = total) ↔ ((endsI (totL sh lo total N)).getD (0, 0)).1 ≤ n ∧ n ≤ ((endsI (totL sh lo total N)).getD (0, 0)).2 := by
  have hE := ends_ne h
  generalize (endsI (totL sh lo total N)).getD (0, 0) = z at hE
  have hm : ∀ n, n ∈ totL sh lo total N ↔ (lo ≤ n ∧ n < lo + N) ∧ fig sh n = total := fun n => by
    rw [totL, List.mem_filter, mem_rngN]; simp
  have h1 := (hm _).1 hE.1
  have h2 := (hm _).1 hE.2.1
  refine fun n => ⟨fun hn => hE.2.2 n ((hm n).2 ⟨⟨hn.1, hn.2.1⟩, hn.2.2⟩), fun hn => ⟨by omega, by omega, ?_⟩⟩
  have h3 := fig_mono hs hn.1
  have h4 := fig_mono hs hn.2
  omega
/-- The rows' lists. -/
def prnA (sh : Sh) (e : Int) (fs : List Int) : Nat → List (List Int)
  | 0 => []
  | j + 1 => prnA sh e fs j ++ [prnE sh e (sh.rows.getD j 0) (fs.getD j 0)]
theorem prnA_len (sh : Sh) (e : Int) (fs : List Int) : ∀ j, (prnA sh e fs j).length = j
  | 0 => rfl
  | j + 1 => by rw [prnA, List.length_append, prnA_len sh e fs j]; rfl
theorem prnA_get {sh : Sh} {e : Int} {fs : List Int} : ∀ {j k : Nat}, k < j → (prnA sh e fs j)[k]? = some (prnE sh e (sh.rows.getD k 0) (fs.getD k 0))
  | 0, k, h => absurd h (Nat.not_lt_zero _)
  | j + 1, k, h => by
    rw [prnA]
    by_cases hk : k = j
    · subst hk
      rw [List.getElem?_append_right (by rw [prnA_len]; exact Nat.le_refl _), prnA_len]; simp
    · rw [List.getElem?_append_left (by rw [prnA_len]; omega)]
      exact prnA_get (by omega)
/-- Can a number be behind a row? -/
def canB (sh : Sh) (ls : List (List Int)) (i : Nat) (total x : Int) : Prop := ∃ y, IsSum (skipK ls i ls.length) y ∧ fig sh (x + y) = total
/-- The sums of all rows but one. -/
theorem skip_rng {sh : Sh} {e : Int} {fs : List Int} (hs : isSh sh = true) (he : 0 ≤ e) (hl : fs.length = sh.rows.length) (hh : hasJ sh e fs sh.rows.length) (i : Nat) (hi : i < sh.rows.length) (x : Sp) (hx : (ownJ sh e fs sh.rows.length)[i]? = some x) (y : Int) :
    IsSum (skipK (prnA sh e fs sh.rows.length) i sh.rows.length) y ↔ loK (ownJ sh e fs sh.rows.length) sh.rows.length - x.1 ≤ y ∧ y ≤ hiK (ownJ sh e fs sh.rows.length) sh.rows.length - x.2 := by
  have key : ∀ k, k ≤ sh.rows.length → ∃ lsR : List (List Int × Sp), (∀ p ∈ lsR, p.2.1 ≤ p.2.2 ∧ ∀ n, n ∈ p.1 ↔ p.2.1 ≤ n ∧ n ≤ p.2.2) ∧ lsR.map (·.1) = skipK (prnA sh e fs sh.rows.length) i k ∧
      sumI (lsR.map (·.2.1)) = loK (ownJ sh e fs sh.rows.length) k - (if i < k then x.1 else 0) ∧ sumI (lsR.map (·.2.2)) = hiK (ownJ sh e fs sh.rows.length) k - (if i < k then x.2 else 0) := by
    intro k
    induction k with
    | zero => intro _; exact ⟨[], by simp, rfl, by simp [loK, sumI], by simp [hiK, sumI]⟩
    | succ k ih =>
      intro hk
      obtain ⟨lsR, h1, h2, h3, h4⟩ := ih (by omega)
      obtain ⟨r, hr⟩ := some_get (xs := sh.rows) (k := k) (by omega)
      obtain ⟨fg, hf⟩ := some_get (xs := fs) (k := k) (by omega)
      have hol := ownJ_len (e := e) hl sh.rows.length (by omega)
      have hown : (ownJ sh e fs sh.rows.length)[k]? = some ((endsI (prnE sh e r fg)).getD (0, 0)) := by
        have pre : ∀ j, k < j → j ≤ sh.rows.length → (ownJ sh e fs j)[k]? = some ((endsI (prnE sh e r fg)).getD (0, 0)) := by
          intro j
          induction j with
          | zero => intro h; exact absurd h (Nat.not_lt_zero _)
          | succ j ihj =>
            intro hkj hjl
            obtain ⟨r', hr'⟩ := some_get (xs := sh.rows) (k := j) (by omega)
            obtain ⟨f', hf'⟩ := some_get (xs := fs) (k := j) (by omega)
            have hlj := ownJ_len (e := e) hl j (by omega)
            rw [ownJ_succ hr' hf']
            by_cases hkj2 : k = j
            · subst hkj2
              rw [hr] at hr'; rw [hf] at hf'; cases hr'; cases hf'
              rw [List.getElem?_append_right (by omega), hlj]; simp
            · rw [List.getElem?_append_left (by omega)]
              exact ihj (by omega) (by omega)
        exact pre _ (by omega) (Nat.le_refl _)
      by_cases hki : k = i
      · subst hki
        rw [hx] at hown
        have hxe := Option.some.inj hown
        refine ⟨lsR, h1, by rw [skip_t]; exact h2, ?_, ?_⟩
        · rw [h3, loK_succ hx]; simp <;> omega
        · rw [h4, hiK_succ hx]; simp <;> omega
      · have hpg := prnA_get (sh := sh) (e := e) (fs := fs) (k := k) (j := sh.rows.length) (by omega)
        have e1 : sh.rows.getD k 0 = r := by simp [List.getD, hr]
        have e2 : fs.getD k 0 = fg := by simp [List.getD, hf]
        rw [e1, e2] at hpg
        have hp := prn_rng hs he (hh k (by omega) r fg hr hf)
        refine ⟨lsR ++ [(prnE sh e r fg, (endsI (prnE sh e r fg)).getD (0, 0))], ?_, ?_, ?_, ?_⟩
        · intro p hpm
          rcases List.mem_append.1 hpm with hpm | hpm
          · exact h1 p hpm
          · rw [List.mem_singleton.1 hpm]; exact hp
        · rw [skip_f hki hpg, List.map_append, h2]; rfl
        · rw [List.map_append, sumI_app, h3, loK_succ hown]
          simp only [List.map_cons, List.map_nil, sumI_cons, sumI_nil]
          by_cases hik : i < k
          · rw [if_pos hik, if_pos (by omega)]; omega
          · rw [if_neg hik, if_neg (by omega)]; omega
        · rw [List.map_append, sumI_app, h4, hiK_succ hown]
          simp only [List.map_cons, List.map_nil, sumI_cons, sumI_nil]
          by_cases hik : i < k
          · rw [if_pos hik, if_pos (by omega)]; omega
          · rw [if_neg hik, if_neg (by omega)]; omega
  obtain ⟨lsR, h1, h2, h3, h4⟩ := key _ (Nat.le_refl _)
  rw [← h2, isSum_rng h1, h3, h4, if_pos hi, if_pos hi]
theorem own_get {sh : Sh} {e : Int} {fs : List Int} (hl : fs.length = sh.rows.length) {k : Nat} {r fg : Int} (hr : sh.rows[k]? = some r) (hf : fs[k]? = some fg) : (ownJ sh e fs sh.rows.length)[k]? = some ((endsI (prnE sh e r fg)).getD (0, 0)) := by
  have hk := (List.getElem?_eq_some_iff.1 hr).1
  have pre : ∀ j, k < j → j ≤ sh.rows.length → (ownJ sh e fs j)[k]? = some ((endsI (prnE sh e r fg)).getD (0, 0)) := by
    intro j
    induction j with
    | zero => intro h; exact absurd h (Nat.not_lt_zero _)
    | succ j ihj =>
      intro hkj hjl
      obtain ⟨r', hr'⟩ := some_get (xs := sh.rows) (k := j) (by omega)
      obtain ⟨f', hf'⟩ := some_get (xs := fs) (k := j) (by omega)
      have hlj := ownJ_len (e := e) hl j (by omega)
      rw [ownJ_succ hr' hf']
      by_cases hkj2 : k = j
      · subst hkj2
        rw [hr] at hr'; rw [hf] at hf'; cases hr'; cases hf'
        rw [List.getElem?_append_right (by omega), hlj]; simp
      · rw [List.getElem?_append_left (by omega)]
        exact ihj (by omega) (by omega)
  exact pre _ hk (Nat.le_refl _)
/-- Low and high sums, against one row's. -/
theorem lohi {own : List Sp} (ho : ∀ x ∈ own, x.1 ≤ x.2) {i : Nat} {x : Sp} (hx : own[i]? = some x) : ∀ k, loK own k ≤ hiK own k ∧ (i < k → x.2 - x.1 ≤ hiK own k - loK own k)
  | 0 => by simp [loK, hiK, sumI]
  | k + 1 => by
    have ih := lohi ho hx k
    cases hk : own[k]? with
    | none =>
      have hle := List.getElem?_eq_none_iff.1 hk
      have hil := (List.getElem?_eq_some_iff.1 hx).1
      have e1 : loK own (k + 1) = loK own k := by rw [loK, loK, List.take_of_length_le (by omega), List.take_of_length_le (by omega)]
      have e2 : hiK own (k + 1) = hiK own k := by rw [hiK, hiK, List.take_of_length_le (by omega), List.take_of_length_le (by omega)]
      rw [e1, e2]; exact ⟨ih.1, fun _ => ih.2 (by omega)⟩
    | some v =>
      have hv := ho v (List.mem_of_getElem? hk)
      rw [loK_succ hk, hiK_succ hk]
      refine ⟨by omega, fun h => ?_⟩
      by_cases hik : i = k
      · subst hik; rw [hx] at hk; cases hk; omega
      · have := ih.2 (by omega); omega
/-- What can be behind a row: a range, by its ends. -/
theorem can_rng {sh : Sh} {e total : Int} {fs : List Int} (hs : isSh sh = true) (he : 0 ≤ e) (hl : fs.length = sh.rows.length) (hh : hasJ sh e fs sh.rows.length)
    {i : Nat} {r fg : Int} (hr : sh.rows[i]? = some r) (hf : fs[i]? = some fg) (x : Sp) (hx : x = (endsI (prnE sh e r fg)).getD (0, 0)) (low high : Int) (hlow : low = loK (ownJ sh e fs sh.rows.length) sh.rows.length) (hhigh : high = hiK (ownJ sh e fs sh.rows.length) sh.rows.length) :
    (totL sh low total (high - low + 1).toNat = [] → ∀ n ∈ prnE sh e r fg, ¬ canB sh (prnA sh e fs sh.rows.length) i total n) ∧
    (totL sh low total (high - low + 1).toNat ≠ [] → ∀ all, all = (endsI (totL sh low total (high - low + 1).toNat)).getD (0, 0) →
      (bhV low high all x).1 ≤ (bhV low high all x).2 ∧ ∀ n, (n ∈ prnE sh e r fg ∧ canB sh (prnA sh e fs sh.rows.length) i total n) ↔ (bhV low high all x).1 ≤ n ∧ n ≤ (bhV low high all x).2) := by
  have hi := (List.getElem?_eq_some_iff.1 hr).1
  have hown := own_get (e := e) hl hr hf
  rw [← hx] at hown
  have hsk := skip_rng hs he hl hh i hi x hown
  rw [← hlow, ← hhigh] at hsk
  have hp := prn_rng hs he (hh i hi r fg hr hf)
  rw [← hx] at hp
  have hob : ∀ z ∈ ownJ sh e fs sh.rows.length, z.1 ≤ z.2 := by
    intro z hz
    obtain ⟨j, hj⟩ := List.mem_iff_getElem?.1 hz
    have hjl := (List.getElem?_eq_some_iff.1 hj).1
    rw [ownJ_len (e := e) hl sh.rows.length (by omega)] at hjl
    obtain ⟨r', hr'⟩ := some_get (xs := sh.rows) (k := j) (by omega)
    obtain ⟨f', hf'⟩ := some_get (xs := fs) (k := j) (by omega)
    have h5 := own_get (e := e) hl hr' hf'
    rw [hj] at h5
    rw [Option.some.inj h5]
    exact (prn_rng hs he (hh j (by omega) r' f' hr' hf')).1
  have hlh := lohi hob hown sh.rows.length
  rw [← hlow, ← hhigh] at hlh
  have hd := hlh.2 hi
  have hlh := hlh.1
  have hcan : ∀ n, canB sh (prnA sh e fs sh.rows.length) i total n ↔ ∃ y, (low - x.1 ≤ y ∧ y ≤ high - x.2) ∧ fig sh (n + y) = total := fun n => by
    simp only [canB, prnA_len, hsk]
  constructor
  · intro hT n hn hc
    obtain ⟨y, hy, hf⟩ := (hcan n).1 hc
    have h1 := (hp.2 n).1 hn
    have : n + y ∈ totL sh low total (high - low + 1).toNat := by
      rw [totL, List.mem_filter, mem_rngN]
      exact ⟨by omega, decide_eq_true hf⟩
    rw [hT] at this; cases this
  · intro hT all hall
    have ht := tot_rng hs hT
    have hE := ends_ne hT
    rw [← hall] at ht hE
    have ha1 := totL_bd hE.1
    have ha2 := totL_bd hE.2.1
    have ha3 := (hE.2.2 _ hE.1).2
    have hbv : bhV low high all x = (max x.1 (all.1 - (high - x.2)), min x.2 (all.2 - (low - x.1))) := rfl
    rw [hbv]
    simp only
    refine ⟨by omega, fun n => ?_⟩
    rw [hp.2, hcan]
    constructor
    · rintro ⟨h1, y, h2, h3⟩
      have := (ht (n + y)).1 ⟨by omega, by omega, h3⟩
      omega
    · intro h1
      refine ⟨by omega, ?_⟩
      by_cases hc : all.1 - n ≤ low - x.1
      · exact ⟨low - x.1, by omega, ((ht _).2 (by omega)).2.2⟩
      · exact ⟨all.1 - n, by omega, ((ht _).2 (by omega)).2.2⟩
end Go.Proofs


namespace Go.Proofs
open Go Go.Sx

/-! # What is behind the figures of a truth -/

theorem tru_prn {sh : Sh} {e : Int} {t : List Int} (he : 0 ≤ e) (ht : truK e sh.rows t = true) {i : Nat} {r n : Int} (hr : sh.rows[i]? = some r) (hn : t[i]? = some n) : n ∈ prnE sh e r (fig sh n) := by
  have h := inB_iff.1 ((truK_iff.1 ht).2 i r n hr hn)
  rw [prnE, List.mem_filter, mem_exL he]
  exact ⟨h, decide_eq_true rfl⟩
theorem figs_get {sh : Sh} {t : List Int} {i : Nat} {n : Int} (hn : t[i]? = some n) : (t.map (fig sh))[i]? = some (fig sh n) := by simp [hn]
theorem figs_inv {sh : Sh} {t : List Int} {i : Nat} {fg : Int} (h : (t.map (fig sh))[i]? = some fg) : ∃ n, t[i]? = some n ∧ fg = fig sh n := by
  rw [List.getElem?_map, Option.map_eq_some_iff] at h
  obtain ⟨n, h1, h2⟩ := h
  exact ⟨n, h1, h2.symm⟩
theorem hid_has {sh : Sh} {e : Int} {t : List Int} (he : 0 ≤ e) (ht : truK e sh.rows t = true) : hasJ sh e (t.map (fig sh)) sh.rows.length := by
  intro i _ r fg hr hf hE
  obtain ⟨n, hn, rfl⟩ := figs_inv hf
  have := tru_prn he ht hr hn
  rw [hE] at this; cases this
/-- The ends of a row's own numbers. -/
def ownX (sh : Sh) (e r n : Int) : Sp := (endsI (prnE sh e r (fig sh n))).getD (0, 0)
theorem own_x {sh : Sh} {e : Int} {t : List Int} (hs : isSh sh = true) (he : 0 ≤ e) (ht : truK e sh.rows t = true) {i : Nat} {r n : Int} (hr : sh.rows[i]? = some r) (hn : t[i]? = some n) :
    (ownJ sh e (t.map (fig sh)) sh.rows.length)[i]? = some (ownX sh e r n) ∧ (ownX sh e r n).1 ≤ n ∧ n ≤ (ownX sh e r n).2 ∧ (r - e ≤ (ownX sh e r n).1 ∧ (ownX sh e r n).2 ≤ r + e) := by
  have hl : (t.map (fig sh)).length = sh.rows.length := by rw [List.length_map]; exact truK_len ht
  have hm := tru_prn he ht hr hn
  have hne : prnE sh e r (fig sh n) ≠ [] := fun h => by rw [h] at hm; cases hm
  have hE := ends_ne hne
  have h1 := hE.2.2 _ hm
  have h2 := (mem_exL he).1 (List.mem_filter.1 hE.1).1
  have h3 := (mem_exL he).1 (List.mem_filter.1 hE.2.1).1
  exact ⟨own_get hl hr (figs_get hn), h1.1, h1.2, h2.1, h3.2⟩
theorem hid_sums {sh : Sh} {e : Int} {t : List Int} (hs : isSh sh = true) (he : 0 ≤ e) (ht : truK e sh.rows t = true) {i : Nat} {r n : Int} (hr : sh.rows[i]? = some r) (hn : t[i]? = some n) : ∀ k, k ≤ sh.rows.length →
    (loK (ownJ sh e (t.map (fig sh)) sh.rows.length) k ≤ sumI (t.take k) ∧ sumI (t.take k) ≤ hiK (ownJ sh e (t.map (fig sh)) sh.rows.length) k) ∧
    (i < k → loK (ownJ sh e (t.map (fig sh)) sh.rows.length) k - (ownX sh e r n).1 ≤ sumI (t.take k) - n ∧ sumI (t.take k) - n ≤ hiK (ownJ sh e (t.map (fig sh)) sh.rows.length) k - (ownX sh e r n).2)
  | 0, _ => by simp [loK, hiK, sumI]
  | k + 1, hk => by
    have ih := hid_sums hs he ht hr hn k (by omega)
    have hlen := truK_len ht
    obtain ⟨r', hr'⟩ := some_get (xs := sh.rows) (k := k) (by omega)
    obtain ⟨n', hn'⟩ := some_get (xs := t) (k := k) (by omega)
    have hx := own_x hs he ht hr' hn'
    rw [loK_succ hx.1, hiK_succ hx.1, sumI_take hn']
    refine ⟨by omega, fun hik => ?_⟩
    by_cases hc : i = k
    · subst hc
      rw [hr] at hr'; rw [hn] at hn'
      cases hr'; cases hn'
      omega
    · have := ih.2 (by omega)
      omega
theorem hid_eq {sh : Sh} {e : Int} {t : List Int} (hs : isSh sh = true) (he : 0 ≤ e) (ht : truK e sh.rows t = true) (total : Int) :
    let own := ownJ sh e (t.map (fig sh)) sh.rows.length
    let low := loK own sh.rows.length
    let high := hiK own sh.rows.length
    bhR sh e (t.map (fig sh)) total = if totL sh low total (high - low + 1).toNat = [] then ([], 5) else (own.map (bhV low high ((endsI (totL sh low total (high - low + 1).toNat)).getD (0, 0))), 0) := bhR_has (hid_has he ht)
/-- RoundHidden, for the truth's own total. -/
theorem hid_t {sh : Sh} {e : Int} {t : List Int} (hs : isSh sh = true) (he : 0 ≤ e) (ht : truK e sh.rows t = true) :
    ∃ X : List Sp, bhR sh e (t.map (fig sh)) (fig sh (sumI t)) = (X, 0) ∧ X.length = sh.rows.length ∧ ∀ (i : Nat) (r n : Int), sh.rows[i]? = some r → t[i]? = some n → ∃ x, X[i]? = some x ∧ r - e ≤ x.1 ∧ x.1 ≤ n ∧ n ≤ x.2 ∧ x.2 ≤ r + e ∧ fig sh x.1 = fig sh n ∧ fig sh x.2 = fig sh n := by
  have hbb := isSh_b hs
  have hlen := truK_len ht
  have hl : (t.map (fig sh)).length = sh.rows.length := by rw [List.length_map]; exact hlen
  have hol := ownJ_len (e := e) hl sh.rows.length (by omega)
  have hall : ∀ (i : Nat) (r n : Int), sh.rows[i]? = some r → t[i]? = some n → _ := fun i r n hr hn => (hid_sums hs he ht hr hn sh.rows.length (Nat.le_refl _))
  obtain ⟨r0, hr0⟩ := some_get (xs := sh.rows) (k := 0) (by omega)
  obtain ⟨n0, hn0⟩ := some_get (xs := t) (k := 0) (by omega)
  have h0 := (hall 0 r0 n0 hr0 hn0).1
  have htk : t.take sh.rows.length = t := by rw [← hlen, List.take_length]
  rw [htk] at h0
  have heq := hid_eq hs he ht (fig sh (sumI t))
  simp only at heq
  have hT : totL sh (loK (ownJ sh e (t.map (fig sh)) sh.rows.length) sh.rows.length) (fig sh (sumI t)) (hiK (ownJ sh e (t.map (fig sh)) sh.rows.length) sh.rows.length - loK (ownJ sh e (t.map (fig sh)) sh.rows.length) sh.rows.length + 1).toNat ≠ [] := by
    intro h
    have hm : sumI t ∈ totL sh (loK (ownJ sh e (t.map (fig sh)) sh.rows.length) sh.rows.length) (fig sh (sumI t)) (hiK (ownJ sh e (t.map (fig sh)) sh.rows.length) sh.rows.length - loK (ownJ sh e (t.map (fig sh)) sh.rows.length) sh.rows.length + 1).toNat := by
      rw [totL, List.mem_filter, mem_rngN]
      exact ⟨by omega, decide_eq_true rfl⟩
    rw [h] at hm; cases hm
  rw [if_neg hT] at heq
  refine ⟨_, heq, by rw [List.length_map, hol], fun i r n hr hn => ?_⟩
  have hx := own_x hs he ht hr hn
  have hc := (can_rng (total := fig sh (sumI t)) hs he hl (hid_has he ht) hr (figs_get hn) (ownX sh e r n) rfl _ _ rfl rfl).2 hT _ rfl
  refine ⟨_, by rw [List.getElem?_map, hx.1]; rfl, ?_⟩
  have hn1 : n ∈ prnE sh e r (fig sh n) ∧ canB sh (prnA sh e (t.map (fig sh)) sh.rows.length) i (fig sh (sumI t)) n := by
    refine ⟨tru_prn he ht hr hn, sumI t - n, ?_, by congr 1; omega⟩
    rw [prnA_len]
    have hi := (List.getElem?_eq_some_iff.1 hr).1
    rw [skip_rng hs he hl (hid_has he ht) i hi _ hx.1]
    have := (hall i r n hr hn).2 hi
    rw [htk] at this
    exact this
  have hb := (hc.2 n).1 hn1
  have ha := (hc.2 _).2 ⟨Int.le_refl _, hc.1⟩
  have hz := (hc.2 _).2 ⟨hc.1, Int.le_refl _⟩
  have ha1 := List.mem_filter.1 ha.1
  have hz1 := List.mem_filter.1 hz.1
  have ha2 := (mem_exL he).1 ha1.1
  have hz2 := (mem_exL he).1 hz1.1
  exact ⟨ha2.1, hb.1, hb.2, hz2.2, of_decide_eq_true ha1.2, of_decide_eq_true hz1.2⟩
/-- .. and for a total above all. -/
theorem hid_none {sh : Sh} {e : Int} {t : List Int} (hs : isSh sh = true) (he : 0 ≤ e) (ht : truK e sh.rows t = true) : bhR sh e (t.map (fig sh)) ((rTot sh e).2 + 1) = ([], 5) := by
  have hlen := truK_len ht
  have hl : (t.map (fig sh)).length = sh.rows.length := by rw [List.length_map]; exact hlen
  have hol := ownJ_len (e := e) hl sh.rows.length (by omega)
  have heq := hid_eq hs he ht ((rTot sh e).2 + 1)
  simp only at heq
  rw [heq, if_pos]
  have htr : truK e sh.rows ((ownJ sh e (t.map (fig sh)) sh.rows.length).map (·.2)) = true := by
    refine truK_iff.2 ⟨by rw [List.length_map, hol], fun j r m hr hm => ?_⟩
    have hj := (List.getElem?_eq_some_iff.1 hr).1
    obtain ⟨n, hn⟩ := some_get (xs := t) (k := j) (by omega)
    have hx := own_x hs he ht hr hn
    rw [List.getElem?_map, hx.1] at hm
    simp at hm
    subst hm
    exact inB_iff.2 (by omega)
  have hsum : sumI ((ownJ sh e (t.map (fig sh)) sh.rows.length).map (·.2)) = hiK (ownJ sh e (t.map (fig sh)) sh.rows.length) sh.rows.length := by
    rw [hiK, List.take_of_length_le (by omega)]
  have hmx := ((endT_E (F := fig sh) he sh.rows (fun k _ => fig sh k)).2.2 _ ⟨_, htr, rfl⟩).2
  simp only [hsum] at hmx
  refine List.eq_nil_iff_forall_not_mem.2 fun n hn => ?_
  have h1 := totL_bd hn
  have h2 := of_decide_eq_true (List.mem_filter.1 hn).2
  have h3 := fig_mono hs (show n ≤ hiK (ownJ sh e (t.map (fig sh)) sh.rows.length) sh.rows.length by omega)
  have h4 : fig sh (hiK (ownJ sh e (t.map (fig sh)) sh.rows.length) sh.rows.length) ≤ (rTot sh e).2 := hmx
  omega
end Go.Proofs


namespace Go.Proofs
open Go Go.Sx Go.RowKit

end Go.Proofs


namespace Go.Proofs
open Go Go.Sx Go.RowKit

theorem c_To_t {v u r : Int} (h : fineV v u r = true) (w : World) : Calls Tryz.prog 15 #[.int .i64 v, .int .i64 u, .int .i64 r] w (RetV w (.tuple #[.int .i64 (toF u r v), .int .i64 0])) := by
  have := r_To v u r w
  rw [show rTo v u r = (toF u r v, 0) by simp [rTo, h]] at this
  exact this
end Go.Proofs


namespace Go.Proofs
open Go Go.Sx Go.RowKit

theorem ref_arg {sh : Sh} (hs : isSh sh = true) : (1 ≤ sh.unit ∧ sh.unit ≤ 1048576) ∧ (1 ≤ sh.rule ∧ sh.rule ≤ 4) := by
  have := isSh_b hs
  omega
theorem bnd_len (sh : Sh) (e : Int) : (bndL sh e).length = sh.rows.length := by simp [bndL]
theorem bnd_get {sh : Sh} {e r : Int} {i : Nat} (hr : sh.rows[i]? = some r) : (spans (bndL sh e))[i]? = some (spanC (r - e, r + e)) := by
  have : (bndL sh e)[i]? = some (r - e, r + e) := by simp [bndL, hr]
  exact map_get (f := spanC) this
end Go.Proofs


namespace Go.Proofs
open Go Go.Sx Go.RowKit

set_option maxRecDepth 20000 in
theorem law_right (sh : Sh) (pt : Pt) (gd : Int) (w : World) (hre : Ro w 0 w.heap.size pt.ea sh.errs.length pt.ec 1 (ints sh.errs)) (hrr : Ro w 0 w.heap.size pt.ra sh.rows.length pt.rc 1 (ints sh.rows)) : Calls Tryz.prog 29 #[shV sh pt, (.int .i64 gd)] w (RetV w (.bool (okG sh gd))) := by
  have hok : okG sh gd = (isSh sh && inB gd 0 (sh.errs.length - 1)) := rfl
  refine calls_T0 (av := [_, _]) Tryz.func29 rfl rfl rfl ?_
  refine t_seq ?_
  refine t_reg ?_
  refine to_box rfl rfl (fun b2 => ?_)
  refine to_as rfl rfl ?_
  refine to_nil ?_
  refine tn_code ?_
  refine t_seq ?_
  refine t_reg ?_
  first | refine to_lda rfl rfl rfl ?_ | refine to_ldea rfl (by assumption) rfl rfl ?_
  refine to_call0 rfl rfl (fun w s => law_short _ _ w) rfl ?_
  refine to_mv rfl rfl ?_
  refine to_gs rfl rfl rfl (fun h1 => ?_) (fun h1 => ?_)
  · try simp only [decide_eq_true_eq, decide_eq_false_iff_not, Bool.not_eq_true', Bool.not_eq_false', Int.not_lt, Int.not_le, ne_eq, Decidable.not_not] at h1
    try have h1b := inB_iff.1 h1
    refine to_gt rfl rfl ?_
    first | refine to_lda rfl rfl rfl ?_ | refine to_ldea rfl (by assumption) rfl rfl ?_
    refine to_gt rfl rfl ?_
    refine to_call0 rfl rfl (fun w s => ref_Sheet sh pt w (rdw s) (rdw s)) rfl ?_
    refine to_pkT rfl rfl rfl ?_
    refine to_mv rfl rfl ?_
    refine to_gs rfl rfl rfl (fun h2 => ?_) (fun h2 => ?_)
    · try simp only [decide_eq_true_eq, decide_eq_false_iff_not, Bool.not_eq_true', Bool.not_eq_false', Int.not_lt, Int.not_le, ne_eq, Decidable.not_not] at h2
      try have h2b := inB_iff.1 h2
      have hsh : isSh sh = true := h2
      refine to_gt rfl rfl ?_
      first | refine to_lda rfl rfl rfl ?_ | refine to_ldea rfl (by assumption) rfl rfl ?_
      refine to_gt rfl rfl ?_
      refine to_mv rfl rfl ?_
      refine to_gt rfl rfl ?_
      refine to_call0 rfl rfl (fun w s => ref_Guard sh pt _ w (by have h9 := isSh_b hsh; omega)) rfl ?_
      refine to_pkT rfl rfl rfl ?_
      refine to_as rfl rfl ?_
      refine to_nil ?_
      refine tn_code ?_
      refine t_ret1 rfl rfl (res_tmp rfl) (fun w' s => ?_)
      first | (rw [hok]; simp_all; done) | (rw [hok]; simp [*]; done)
    · try simp only [decide_eq_true_eq, decide_eq_false_iff_not, Bool.not_eq_true', Bool.not_eq_false', Int.not_lt, Int.not_le, ne_eq, Decidable.not_not] at h2
      try have h2b := inB_iff.1 h2
      refine to_gf rfl rfl rfl rfl ?_
      refine to_gf rfl rfl rfl rfl ?_
      refine to_gf rfl rfl rfl rfl ?_
      refine to_pkF rfl rfl rfl ?_
      refine to_as rfl rfl ?_
      refine to_nil ?_
      refine tn_code ?_
      refine t_ret1 rfl rfl (res_tmp rfl) (fun w' s => ?_)
      first | (rw [hok]; simp_all; done) | (rw [hok]; simp [*]; done)
  · try simp only [decide_eq_true_eq, decide_eq_false_iff_not, Bool.not_eq_true', Bool.not_eq_false', Int.not_lt, Int.not_le, ne_eq, Decidable.not_not] at h1
    try have h1b := inB_iff.1 h1
    have hnot : isSh sh = false := (by rw [Bool.eq_false_iff]; intro hh; have h9 := isSh_b hh; simp at h1; omega)
    refine to_gf rfl rfl rfl rfl ?_
    refine to_gf rfl rfl rfl rfl ?_
    refine to_pkF rfl rfl rfl ?_
    refine to_mv rfl rfl ?_
    refine to_gf rfl rfl rfl rfl ?_
    refine to_gf rfl rfl rfl rfl ?_
    refine to_gf rfl rfl rfl rfl ?_
    refine to_pkF rfl rfl rfl ?_
    refine to_as rfl rfl ?_
    refine to_nil ?_
    refine tn_code ?_
    refine t_ret1 rfl rfl (res_tmp rfl) (fun w' s => ?_)
    first | (rw [hok]; simp_all; done) | (rw [hok]; simp [*]; done)

set_option maxRecDepth 20000 in
theorem law_to (sh : Sh) (pt : Pt) (v : Int) (w : World) (hs : isSh sh = true) (hv : -1099511627776 ≤ v ∧ v ≤ 1099511627776) : Calls Tryz.prog 34 #[shV sh pt, (.int .i64 v)] w (RetV w (.tuple #[.int .i64 (fig sh v), .bool true])) := by
  refine calls_T0 (av := [_, _]) Tryz.func34 rfl rfl rfl ?_
  refine t_seq ?_
  refine t_reg ?_
  refine to_box rfl rfl (fun b2 => ?_)
  refine to_as rfl rfl ?_
  refine to_as rfl rfl ?_
  refine to_nil ?_
  refine tn_code ?_
  refine t_seq ?_
  refine t_reg ?_
  refine to_mv rfl rfl ?_
  first | refine to_fa rfl rfl rfl (by simp only [Nat.reduceAdd]; rfl) rfl ?_ | refine to_fae rfl rfl rfl (by simp only [Nat.reduceAdd]; rfl) rfl ?_
  first | refine to_lds rfl rfl rfl ?_ | refine to_ldes rfl (by assumption) rfl rfl ?_
  first | refine to_fa rfl rfl rfl (by simp only [Nat.reduceAdd]; rfl) rfl ?_ | refine to_fae rfl rfl rfl (by simp only [Nat.reduceAdd]; rfl) rfl ?_
  first | refine to_lds rfl rfl rfl ?_ | refine to_ldes rfl (by assumption) rfl rfl ?_
  refine to_call0 rfl rfl (fun w s => c_To_t (by simp only [fineV, Bool.and_eq_true]; exact ⟨⟨inB_iff.2 hv, inB_iff.2 (ref_arg hs).1⟩, inB_iff.2 (ref_arg hs).2⟩) w) rfl ?_
  refine to_mv rfl rfl ?_
  refine to_ex rfl rfl rfl ?_
  refine to_ex rfl rfl rfl ?_
  refine to_as rfl rfl ?_
  refine to_as rfl rfl ?_
  refine to_nil ?_
  refine tn_code ?_
  refine t_seq ?_
  refine t_reg ?_
  refine to_mv rfl rfl ?_
  refine to_mv rfl rfl ?_
  refine to_eql rfl rfl rfl ?_
  refine to_as rfl rfl ?_
  refine to_as rfl rfl ?_
  refine to_nil ?_
  refine tn_code ?_
  refine t_ret2 rfl rfl (res_tmp rfl) (res_tmp rfl) (fun w' s => ?_)
  rfl

end Go.Proofs


namespace Go.Proofs
open Go Go.Sx Go.RowKit

end Go.Proofs


namespace Go.Proofs
open Go Go.Sx Go.RowKit

theorem tru_all {e : Int} {rs t : List Int} (hl : t.length = rs.length) (h : ∀ j, j < t.length → ∀ n r, t[j]? = some n → rs[j]? = some r → inB n (r - e) (r + e) = true) : truK e rs t = true :=
  truK_iff.2 ⟨hl, fun j r n hr hn => h j (List.getElem?_eq_some_iff.1 hn).1 n r hn hr⟩
theorem tru_len {e : Int} {rs t : List Int} (hl : ¬ t.length = rs.length) : truK e rs t = false := by
  rw [Bool.eq_false_iff]; exact fun h => hl (truK_len h)
theorem tru_at {e n r : Int} {rs t : List Int} {j : Nat} (hn : t[j]? = some n) (hr : rs[j]? = some r) (h : inB n (r - e) (r + e) = false) : truK e rs t = false := by
  rw [Bool.eq_false_iff]; intro hh
  have := (truK_iff.1 hh).2 j r n hr hn
  rw [h] at this; cases this
set_option maxRecDepth 20000 in
theorem ref_Truth (sh : Sh) (pt : Pt) (k : Nat) (e : Int) (t : List Int) (ta : Option Addr) (tc : Nat) (w : World) (hre : Ro w 0 w.heap.size pt.ea sh.errs.length pt.ec 1 (ints sh.errs)) (hrr : Ro w 0 w.heap.size pt.ra sh.rows.length pt.rc 1 (ints sh.rows)) (hs : isSh sh = true) (he : sh.errs[k]? = some e) (hrl : Ro w 0 w.heap.size ta t.length tc 1 (ints t)) : Calls Tryz.prog 31 #[shV sh pt, (.int .i64 (k : Int)), .slice ta t.length tc] w (RetV w (.bool (truK e sh.rows t))) := by
  have heb := errs_b (isSh_e hs) e (List.mem_of_getElem? he)
  have hbb := isSh_b hs
  have hxe := map_get (f := intC) he
  have hke := (List.getElem?_eq_some_iff.1 he).1
  refine calls_T0 (av := [_, _, _]) Tryz.func31 rfl rfl rfl ?_
  refine t_seq ?_
  refine t_reg ?_
  refine to_box rfl rfl (fun b3 => ?_)
  refine to_as rfl rfl ?_
  refine to_nil ?_
  refine tn_code ?_
  refine t_seq ?_
  refine t_seq ?_
  refine t_reg ?_
  refine to_mv rfl rfl ?_
  refine to_lenS rfl rfl ?_
  first | refine to_fa rfl rfl rfl (by simp only [Nat.reduceAdd]; rfl) rfl ?_ | refine to_fae rfl rfl rfl (by simp only [Nat.reduceAdd]; rfl) rfl ?_
  first | refine to_lds rfl rfl rfl ?_ | refine to_ldes rfl (by assumption) rfl rfl ?_
  refine to_lenS rfl rfl ?_
  refine to_neq rfl rfl rfl ?_
  refine to_nil ?_
  refine tn_code ?_
  refine t_if rfl (fun h1 => ?_) (fun h1 => ?_)
  · try simp only [decide_eq_true_eq, decide_eq_false_iff_not, Bool.not_eq_true', Bool.not_eq_false', Int.not_lt, Int.not_le, ne_eq, Decidable.not_not] at h1
    try have h1b := inB_iff.1 h1
    have hfin := tru_len (e := e) (rs := sh.rows) (t := t) (by omega)
    refine t_seq ?_
    refine t_reg ?_
    refine to_as rfl rfl ?_
    refine to_nil ?_
    refine tn_code ?_
    refine t_ret1 rfl rfl (res_tmp rfl) (fun w' s => ?_)
    rw [hfin]
  · try simp only [decide_eq_true_eq, decide_eq_false_iff_not, Bool.not_eq_true', Bool.not_eq_false', Int.not_lt, Int.not_le, ne_eq, Decidable.not_not] at h1
    try have h1b := inB_iff.1 h1
    refine t_skip ?_
    refine tn_code ?_
    refine t_seq ?_
    refine t_seq ?_
    refine t_reg ?_
    refine to_as rfl rfl ?_
    refine to_nil ?_
    refine tn_code ?_
    refine t_blk ?_
    refine t_loop2 (ι := Nat) (fun j => j ≤ t.length ∧ ∀ i, i < j → ∀ n r, t[i]? = some n → sh.rows[i]? = some r → inB n (r - e) (r + e) = true) (fun j => [(1, (.int .i64 (k : Int))), (2, .slice ta t.length tc), (3, (.pointer (some ⟨b3, 0, none⟩))), (7, (.int .i64 (j : Int)))]) (fun j => [.own b3 (isC (shC sh pt) 33), .snap 0 w.heap.size w]) (fun j => t.length - j) (0) [.own b3 (isC (shC sh pt) 33), .snap 0 w.heap.size w] (rfl) (⟨Nat.zero_le _, fun j hj => absurd hj (Nat.not_lt_zero _)⟩) (⟨rfl, rfl, rfl, rfl, trivial⟩) ?_
    rintro j ⟨hk, hall⟩
    show T _ _ _ ⟨_, [(1, (.int .i64 (k : Int))), (2, .slice ta t.length tc), (3, (.pointer (some ⟨b3, 0, none⟩))), (7, (.int .i64 (j : Int)))], _⟩ [.own b3 (isC (shC sh pt) 33), .snap 0 w.heap.size w]
    refine t_seq ?_
    refine t_seq ?_
    refine t_reg ?_
    refine to_mv rfl rfl ?_
    refine to_mv rfl rfl ?_
    refine to_lenS rfl rfl ?_
    refine to_lss rfl rfl rfl ?_
    refine to_nil ?_
    refine tn_code ?_
    refine t_if rfl (fun h2 => ?_) (fun h2 => ?_)
    · try simp only [decide_eq_true_eq, decide_eq_false_iff_not, Bool.not_eq_true', Bool.not_eq_false', Int.not_lt, Int.not_le, ne_eq, Decidable.not_not] at h2
      try have h2b := inB_iff.1 h2
      obtain ⟨n, hn⟩ := some_get (xs := t) (k := j) (by omega)
      obtain ⟨r, hr⟩ := some_get (xs := sh.rows) (k := j) (by omega)
      have hrb := isSh_r hs (List.mem_of_getElem? hr)
      have hxn := map_get (f := intC) hn
      have hxr := map_get (f := intC) hr
      refine t_skip ?_
      refine tn_code ?_
      refine t_seq ?_
      refine t_blk ?_
      refine t_seq ?_
      refine t_regD rfl (by kernel_rfl) (by kernel_rfl) ?_
      refine to_mv rfl rfl ?_
      refine to_mv rfl rfl ?_
      first | refine to_ix rfl rfl rfl (by first | omega | decide) (by first | omega | decide) rfl ?_ | refine to_ixi rfl rfl rfl (by omega) (by omega) (by omega) rfl ?_
      first | refine to_lds rfl rfl rfl ?_ | refine to_ldes rfl (by assumption) rfl rfl ?_
      first | refine to_fa rfl rfl rfl (by simp only [Nat.reduceAdd]; rfl) rfl ?_ | refine to_fae rfl rfl rfl (by simp only [Nat.reduceAdd]; rfl) rfl ?_
      first | refine to_lds rfl rfl rfl ?_ | refine to_ldes rfl (by assumption) rfl rfl ?_
      refine to_mv rfl rfl ?_
      first | refine to_ix rfl rfl rfl (by first | omega | decide) (by first | omega | decide) rfl ?_ | refine to_ixi rfl rfl rfl (by omega) (by omega) (by omega) rfl ?_
      first | refine to_lds rfl rfl rfl ?_ | refine to_ldes rfl (by assumption) rfl rfl ?_
      first | refine to_fa rfl rfl rfl (by simp only [Nat.reduceAdd]; rfl) rfl ?_ | refine to_fae rfl rfl rfl (by simp only [Nat.reduceAdd]; rfl) rfl ?_
      first | refine to_lds rfl rfl rfl ?_ | refine to_ldes rfl (by assumption) rfl rfl ?_
      refine to_mv rfl rfl ?_
      first | refine to_ix rfl rfl rfl (by first | omega | decide) (by first | omega | decide) rfl ?_ | refine to_ixi rfl rfl rfl (by omega) (by omega) (by omega) rfl ?_
      first | refine to_lds rfl rfl rfl ?_ | refine to_ldes rfl (by assumption) rfl rfl ?_
      refine to_sub rfl rfl (by omega) rfl ?_
      first | refine to_fa rfl rfl rfl (by simp only [Nat.reduceAdd]; rfl) rfl ?_ | refine to_fae rfl rfl rfl (by simp only [Nat.reduceAdd]; rfl) rfl ?_
      first | refine to_lds rfl rfl rfl ?_ | refine to_ldes rfl (by assumption) rfl rfl ?_
      refine to_mv rfl rfl ?_
      first | refine to_ix rfl rfl rfl (by first | omega | decide) (by first | omega | decide) rfl ?_ | refine to_ixi rfl rfl rfl (by omega) (by omega) (by omega) rfl ?_
      first | refine to_lds rfl rfl rfl ?_ | refine to_ldes rfl (by assumption) rfl rfl ?_
      first | refine to_fa rfl rfl rfl (by simp only [Nat.reduceAdd]; rfl) rfl ?_ | refine to_fae rfl rfl rfl (by simp only [Nat.reduceAdd]; rfl) rfl ?_
      first | refine to_lds rfl rfl rfl ?_ | refine to_ldes rfl (by assumption) rfl rfl ?_
      refine to_mv rfl rfl ?_
      first | refine to_ix rfl rfl rfl (by first | omega | decide) (by first | omega | decide) rfl ?_ | refine to_ixi rfl rfl rfl (by omega) (by omega) (by omega) rfl ?_
      first | refine to_lds rfl rfl rfl ?_ | refine to_ldes rfl (by assumption) rfl rfl ?_
      refine to_add rfl rfl (by omega) rfl ?_
      refine to_call0 rfl rfl (fun w s => ref_in _ _ _ w) rfl ?_
      refine to_not rfl rfl ?_
      refine to_nil ?_
      refine tn_code ?_
      refine t_if rfl (fun h3 => ?_) (fun h3 => ?_)
      · try simp only [decide_eq_true_eq, decide_eq_false_iff_not, Bool.not_eq_true', Bool.not_eq_false', Int.not_lt, Int.not_le, ne_eq, Decidable.not_not] at h3
        try have h3b := inB_iff.1 h3
        have hfin := tru_at (e := e) hn hr h3
        refine t_seq ?_
        refine t_reg ?_
        refine to_as rfl rfl ?_
        refine to_nil ?_
        refine tn_code ?_
        refine t_ret1 rfl rfl (res_tmp rfl) (fun w' s => ?_)
        rw [hfin]
      · try simp only [decide_eq_true_eq, decide_eq_false_iff_not, Bool.not_eq_true', Bool.not_eq_false', Int.not_lt, Int.not_le, ne_eq, Decidable.not_not] at h3
        try have h3b := inB_iff.1 h3
        refine t_skip ?_
        refine tn_blk ?_
        refine tn_code ?_
        refine t_reg ?_
        refine to_mv rfl rfl ?_
        refine to_add rfl rfl (by omega) rfl ?_
        refine to_as rfl rfl ?_
        refine to_nil ?_
        exact tn_loop2 (j + 1) [.own b3 (isC (shC sh pt) 33), .snap 0 w.heap.size w] (rfl) (⟨by omega, all_succ hall (fun a b h1 h2 => by rw [hn] at h1; rw [hr] at h2; cases h1; cases h2; assumption)⟩) (by omega) (⟨rfl, rfl, rfl, rfl, trivial⟩)
    · try simp only [decide_eq_true_eq, decide_eq_false_iff_not, Bool.not_eq_true', Bool.not_eq_false', Int.not_lt, Int.not_le, ne_eq, Decidable.not_not] at h2
      try have h2b := inB_iff.1 h2
      have hk2 : j = t.length := by omega
      subst hk2
      have hfin := tru_all (e := e) (rs := sh.rows) (by omega) hall
      refine t_exit ?_
      refine tx_code ?_
      refine tx_inv ?_
      refine tx_blk ?_
      refine tn_code ?_
      refine t_seq ?_
      refine t_reg ?_
      refine to_as rfl rfl ?_
      refine to_nil ?_
      refine tn_code ?_
      refine t_ret1 rfl rfl (res_tmp rfl) (fun w' s => ?_)
      rw [hfin]

theorem fig_smallS {sh : Sh} (hs : isSh sh = true) {v : Int} (hv : -100008 ≤ v ∧ v ≤ 100008) : -100009 ≤ fig sh v ∧ fig sh v ≤ 100009 := fig_b (B := 100008) hs hv
theorem tru_small {sh : Sh} {e : Int} {t : List Int} (hs : isSh sh = true) (he : 0 ≤ e ∧ e ≤ 8) (h : truK e sh.rows t = true) : ∀ n ∈ t, -100008 ≤ n ∧ n ≤ 100008 := by
  intro n hn
  have := tru_bd (B := 100000) h (fun r hr => isSh_r hs hr) n hn
  omega
theorem figk_succ' {F : Int → Int} {xs : List Int} {k : Nat} {y : Int} (h : xs[k]? = some y) : figO F (xs.take (k + 1)) = figO F (xs.take k) + F y := by rw [take_snoc h, figO_app]; simp [figO, sumI_cons, sumI_nil]
theorem sums_small {sh : Sh} {t : List Int} (hs : isSh sh = true) (hl : t.length ≤ 7) (hb : ∀ n ∈ t, -100008 ≤ n ∧ n ≤ 100008) (k : Nat) : (-700063 ≤ sumI (t.take k) ∧ sumI (t.take k) ≤ 700063) ∧ (-700063 ≤ figO (fig sh) (t.take k) ∧ figO (fig sh) (t.take k) ≤ 700063) := by
  have h1 := sum_bd (B := 100008) (by decide) (xs := t.take k) (fun x hx => hb x (List.mem_of_mem_take hx))
  have h2 := sum_bd (B := 100009) (by decide) (xs := (t.take k).map (fig sh)) (fun x hx => by
    obtain ⟨y, hy, rfl⟩ := List.mem_map.1 hx
    exact fig_smallS hs (hb y (List.mem_of_mem_take hy)))
  rw [List.length_map] at h2
  have h3 : (t.take k).length ≤ 7 := by simp; omega
  simp only [figO]
  omega

set_option maxRecDepth 20000 in
theorem law_added (sh : Sh) (pt : Pt) (t : List Int) (ta : Option Addr) (tc : Nat) (w : World) (hrl : Ro w 0 w.heap.size ta t.length tc 1 (ints t)) (hs : isSh sh = true) (hl7 : t.length ≤ 7) (hb : ∀ n ∈ t, -100008 ≤ n ∧ n ≤ 100008) : Calls Tryz.prog 47 #[shV sh pt, .slice ta t.length tc] w (RetV w (.tuple #[.int .i64 (sumI t), .int .i64 (figO (fig sh) t), .bool true])) := by
  have hsm := sums_small hs hl7 hb
  refine calls_T0 (av := [_, _]) Tryz.func47 rfl rfl rfl ?_
  refine t_seq ?_
  refine t_reg ?_
  refine to_box rfl rfl (fun b2 => ?_)
  refine to_as rfl rfl ?_
  refine to_as rfl rfl ?_
  refine to_as rfl rfl ?_
  refine to_nil ?_
  refine tn_code ?_
  refine t_seq ?_
  refine t_reg ?_
  refine to_as rfl rfl ?_
  refine to_as rfl rfl ?_
  refine to_nil ?_
  refine tn_code ?_
  refine t_seq ?_
  refine t_seq ?_
  refine t_reg ?_
  refine to_as rfl rfl ?_
  refine to_nil ?_
  refine tn_code ?_
  refine t_blk ?_
  refine t_loop2 (ι := Nat) (fun j => j ≤ t.length) (fun j => [(1, .slice ta t.length tc), (2, (.pointer (some ⟨b2, 0, none⟩))), (7, (.int .i64 (sumI (t.take j)))), (8, (.int .i64 (figO (fig sh) (t.take j)))), (9, (.int .i64 (j : Int)))]) (fun j => [.own b2 (isC (shC sh pt) 33), .snap 0 w.heap.size w]) (fun j => t.length - j) (0) [.own b2 (isC (shC sh pt) 33), .snap 0 w.heap.size w] (rfl) (Nat.zero_le _) (⟨rfl, rfl, rfl, rfl, rfl, trivial⟩) ?_
  rintro j hk
  show T _ _ _ ⟨_, [(1, .slice ta t.length tc), (2, (.pointer (some ⟨b2, 0, none⟩))), (7, (.int .i64 (sumI (t.take j)))), (8, (.int .i64 (figO (fig sh) (t.take j)))), (9, (.int .i64 (j : Int)))], _⟩ [.own b2 (isC (shC sh pt) 33), .snap 0 w.heap.size w]
  refine t_seq ?_
  refine t_seq ?_
  refine t_reg ?_
  refine to_mv rfl rfl ?_
  refine to_mv rfl rfl ?_
  refine to_lenS rfl rfl ?_
  refine to_lss rfl rfl rfl ?_
  refine to_nil ?_
  refine tn_code ?_
  refine t_if rfl (fun h1 => ?_) (fun h1 => ?_)
  · try simp only [decide_eq_true_eq, decide_eq_false_iff_not, Bool.not_eq_true', Bool.not_eq_false', Int.not_lt, Int.not_le, ne_eq, Decidable.not_not] at h1
    try have h1b := inB_iff.1 h1
    obtain ⟨n, hn⟩ := some_get (xs := t) (k := j) (by omega)
    have hxn := map_get (f := intC) hn
    have hnb := hb n (List.mem_of_getElem? hn)
    have hfn := fig_smallS hs hnb
    have hsj := hsm j
    refine t_skip ?_
    refine tn_code ?_
    refine t_seq ?_
    refine t_blk ?_
    refine t_seq ?_
    refine t_regD rfl (by kernel_rfl) (by kernel_rfl) ?_
    first | refine to_lda rfl rfl rfl ?_ | refine to_ldea rfl (by assumption) rfl rfl ?_
    refine to_mv rfl rfl ?_
    refine to_mv rfl rfl ?_
    first | refine to_ix rfl rfl rfl (by first | omega | decide) (by first | omega | decide) rfl ?_ | refine to_ixi rfl rfl rfl (by omega) (by omega) (by omega) rfl ?_
    first | refine to_lds rfl rfl rfl ?_ | refine to_ldes rfl (by assumption) rfl rfl ?_
    refine to_call0 rfl rfl (fun w s => law_to sh pt _ w hs (by omega)) rfl ?_
    refine to_mv rfl rfl ?_
    refine to_ex rfl rfl rfl ?_
    refine to_ex rfl rfl rfl ?_
    refine to_fix (s := 26) (b' := true) rfl (rfl) ?_
    refine to_as rfl rfl ?_
    refine to_as rfl rfl ?_
    refine to_nil ?_
    refine tn_code ?_
    refine t_seq ?_
    refine t_seq ?_
    refine t_reg ?_
    refine to_mv rfl rfl ?_
    refine to_not rfl rfl ?_
    refine to_mv rfl rfl ?_
    refine to_gt rfl rfl ?_
    refine to_mv rfl rfl ?_
    refine to_gt rfl rfl ?_
    refine to_lss rfl rfl rfl ?_
    refine to_fix (s := 31) (b' := false) rfl (decide_eq_false (by omega)) ?_
    refine to_pkF rfl rfl rfl ?_
    refine to_mv rfl rfl ?_
    refine to_gt rfl rfl ?_
    refine to_mv rfl rfl ?_
    refine to_gt rfl rfl ?_
    refine to_gtr rfl rfl rfl ?_
    refine to_fix (s := 35) (b' := false) rfl (decide_eq_false (by omega)) ?_
    refine to_pkF rfl rfl rfl ?_
    refine to_nil ?_
    refine tn_code ?_
    refine t_ifF rfl ?_
    refine t_skip ?_
    refine tn_code ?_
    refine t_reg ?_
    refine to_mv rfl rfl ?_
    refine to_mv rfl rfl ?_
    refine to_mv rfl rfl ?_
    first | refine to_ix rfl rfl rfl (by first | omega | decide) (by first | omega | decide) rfl ?_ | refine to_ixi rfl rfl rfl (by omega) (by omega) (by omega) rfl ?_
    first | refine to_lds rfl rfl rfl ?_ | refine to_ldes rfl (by assumption) rfl rfl ?_
    refine to_add rfl rfl (by omega) rfl ?_
    refine to_mv rfl rfl ?_
    refine to_mv rfl rfl ?_
    refine to_add rfl rfl (by omega) rfl ?_
    refine to_as rfl rfl ?_
    refine to_as rfl rfl ?_
    refine to_nil ?_
    refine tn_blk ?_
    refine tn_code ?_
    refine t_reg ?_
    refine to_mv rfl rfl ?_
    refine to_add rfl rfl (by omega) rfl ?_
    refine to_as rfl rfl ?_
    refine to_nil ?_
    exact tn_loop2 (j + 1) [.own b2 (isC (shC sh pt) 33), .snap 0 w.heap.size w] (rfl) (by omega) (by omega) (⟨rfl, rfl, congrArg (fun z => some (Value.int .i64 z)) (sumI_take hn).symm, congrArg (fun z => some (Value.int .i64 z)) (figk_succ' hn).symm, rfl, trivial⟩)
  · try simp only [decide_eq_true_eq, decide_eq_false_iff_not, Bool.not_eq_true', Bool.not_eq_false', Int.not_lt, Int.not_le, ne_eq, Decidable.not_not] at h1
    try have h1b := inB_iff.1 h1
    have hk2 : j = t.length := by omega
    subst hk2
    rw [List.take_length]
    refine t_exit ?_
    refine tx_code ?_
    refine tx_inv ?_
    refine tx_blk ?_
    refine tn_code ?_
    refine t_seq ?_
    refine t_reg ?_
    refine to_mv rfl rfl ?_
    refine to_mv rfl rfl ?_
    refine to_as rfl rfl ?_
    refine to_as rfl rfl ?_
    refine to_as rfl rfl ?_
    refine to_nil ?_
    refine tn_code ?_
    refine t_ret3 rfl rfl (res_tmp rfl) (res_tmp rfl) (res_tmp rfl) (fun w' s => ?_)
    rfl

end Go.Proofs


namespace Go.Proofs
open Go Go.Sx Go.RowKit

theorem c_Total {sh : Sh} {pt : Pt} {k : Nat} {e : Int} {z : Sp} {w : World} (hre : Ro w 0 w.heap.size pt.ea sh.errs.length pt.ec 1 (ints sh.errs)) (hrr : Ro w 0 w.heap.size pt.ra sh.rows.length pt.rc 1 (ints sh.rows)) (hs : isSh sh = true) (he : sh.errs[k]? = some e) (h : rTot sh e = z) : Calls Tryz.prog 41 #[shV sh pt, .int .i64 (k : Int)] w (RetV w (.tuple #[spanV z, .int .i64 0])) := by
  have := r_Total_t sh pt k e w hre hrr hs he
  rw [h] at this; exact this
end Go.Proofs


namespace Go.Proofs
open Go Go.Sx Go.RowKit

end Go.Proofs


namespace Go.Proofs
open Go Go.Sx Go.RowKit

theorem c_Behind {sh : Sh} {pt : Pt} {k : Nat} {e : Int} {fs : List Int} {fa : Option Addr} {fc : Nat} {total : Int} {X : List Sp} {er : Int} {w : World} (hre : Ro w 0 w.heap.size pt.ea sh.errs.length pt.ec 1 (ints sh.errs)) (hrr : Ro w 0 w.heap.size pt.ra sh.rows.length pt.rc 1 (ints sh.rows)) (hs : isSh sh = true) (he : sh.errs[k]? = some e) (hrf : Ro w 0 w.heap.size fa fs.length fc 1 (ints fs)) (hl : fs.length = sh.rows.length) (h : bhR sh e fs total = (X, er)) :
    Calls Tryz.prog 54 #[shV sh pt, .int .i64 (k : Int), .slice fa fs.length fc, .int .i64 total] w (Ret w (RSpE X er)) := by
  have := r_Behind_t sh pt k e fs fa fc total w hre hrr hs he hrf hl
  rw [h] at this; exact this
theorem figs_succ {sh : Sh} {t : List Int} {j : Nat} {n : Int} (h : t[j]? = some n) : ints ((t.take (j + 1)).map (fig sh)) = ints ((t.take j).map (fig sh)) ++ [intC (fig sh n)] := by rw [take_snoc h]; simp
theorem figs_at {sh : Sh} {t : List Int} {j : Nat} {n : Int} (h : t[j]? = some n) : (ints (t.map (fig sh)))[j]? = some (intC (fig sh n)) := by simp [h]
theorem tot_bd {sh : Sh} {e : Int} {t : List Int} (hs : isSh sh = true) (he : 0 ≤ e ∧ e ≤ 8) : -700064 ≤ (rTot sh e).2 ∧ (rTot sh e).2 ≤ 700064 := by
  obtain ⟨u, hu, h2⟩ := (endT_E (F := fig sh) he.1 sh.rows (fun k _ => fig sh k)).2.1
  have hb := isSh_b hs
  have hul := truK_len hu
  have hus := tru_small hs he hu
  have hss := sums_small hs (t := u) (by omega) hus u.length
  rw [List.take_length] at hss
  have := fig_b (sh := sh) (v := sumI u) (B := 700063) hs (by omega)
  have h3 : fig sh (sumI u) = (rTot sh e).2 := h2
  omega

set_option maxRecDepth 20000 in
theorem w_RoundHidden_no (sh : Sh) (pt : Pt) (gd : Int) (t : List Int) (ta : Option Addr) (tc : Nat) (w : World) (hre : Ro w 0 w.heap.size pt.ea sh.errs.length pt.ec 1 (ints sh.errs)) (hrr : Ro w 0 w.heap.size pt.ra sh.rows.length pt.rc 1 (ints sh.rows)) (hrl : Ro w 0 w.heap.size ta t.length tc 1 (ints t)) (ho : okG sh gd = false) (hg : Gl w) : Calls Tryz.prog 14 #[shV sh pt, (.int .i64 gd), .slice ta t.length tc] w (RetV w (.bool true)) := by
  refine calls_T0 (av := [_, _, _]) Tryz.func14 rfl rfl rfl ?_
  refine t_seq ?_
  refine t_reg ?_
  refine to_box rfl rfl (fun b3 => ?_)
  refine to_as rfl rfl ?_
  refine to_nil ?_
  refine tn_code ?_
  refine t_seq ?_
  refine t_seq ?_
  refine t_reg ?_
  first | refine to_lda rfl rfl rfl ?_ | refine to_ldea rfl (by assumption) rfl rfl ?_
  refine to_mv rfl rfl ?_
  refine to_call0 rfl rfl (fun w s => law_right sh pt _ w (rdw s) (rdw s)) rfl ?_
  refine to_fix (s := 31) (b' := false) rfl (ho) ?_
  refine to_not rfl rfl ?_
  refine to_mv rfl rfl ?_
  refine to_gf rfl rfl rfl rfl ?_
  refine to_gf rfl rfl rfl rfl ?_
  refine to_gf rfl rfl rfl rfl ?_
  refine to_pkT rfl rfl rfl ?_
  refine to_mv rfl rfl ?_
  refine to_gf rfl rfl rfl rfl ?_
  refine to_gf rfl rfl rfl rfl ?_
  refine to_gf rfl rfl rfl rfl ?_
  refine to_gf rfl rfl rfl rfl ?_
  refine to_gf rfl rfl rfl rfl ?_
  refine to_pkT rfl rfl rfl ?_
  refine to_nil ?_
  refine tn_code ?_
  refine t_ifT rfl ?_
  refine t_seq ?_
  refine t_reg ?_
  refine to_call0 rfl rfl (fun w s => law_known w (gl_up hg (belowH_of s))) rfl ?_
  refine to_as rfl rfl ?_
  refine to_nil ?_
  refine tn_code ?_
  refine t_ret1 rfl rfl (res_tmp rfl) (fun w' s => ?_)
  rfl

set_option maxRecDepth 20000 in
theorem w_RoundHidden_sl (sh : Sh) (pt : Pt) (gd : Int) (t : List Int) (ta : Option Addr) (tc : Nat) (w : World) (hre : Ro w 0 w.heap.size pt.ea sh.errs.length pt.ec 1 (ints sh.errs)) (hrr : Ro w 0 w.heap.size pt.ra sh.rows.length pt.rc 1 (ints sh.rows)) (hrl : Ro w 0 w.heap.size ta t.length tc 1 (ints t)) (hs : isSh sh = true) (k : Nat) (e : Int) (hgk : gd = (k : Int)) (he : sh.errs[k]? = some e) (hsl7 : decide (t.length ≤ 7) = false) (hg : Gl w) : Calls Tryz.prog 14 #[shV sh pt, (.int .i64 gd), .slice ta t.length tc] w (RetV w (.bool true)) := by
  subst hgk
  have heb := errs_b (isSh_e hs) e (List.mem_of_getElem? he)
  have hbb := isSh_b hs
  have hxe := map_get (f := intC) he
  have hke := (List.getElem?_eq_some_iff.1 he).1
  have hok := okG_t hs he
  refine calls_T0 (av := [_, _, _]) Tryz.func14 rfl rfl rfl ?_
  refine t_seq ?_
  refine t_reg ?_
  refine to_box rfl rfl (fun b3 => ?_)
  refine to_as rfl rfl ?_
  refine to_nil ?_
  refine tn_code ?_
  refine t_seq ?_
  refine t_seq ?_
  refine t_reg ?_
  first | refine to_lda rfl rfl rfl ?_ | refine to_ldea rfl (by assumption) rfl rfl ?_
  refine to_mv rfl rfl ?_
  refine to_call0 rfl rfl (fun w s => law_right sh pt _ w (rdw s) (rdw s)) rfl ?_
  refine to_fix (s := 31) (b' := true) rfl (hok) ?_
  refine to_not rfl rfl ?_
  refine to_mv rfl rfl ?_
  refine to_gt rfl rfl ?_
  refine to_mv rfl rfl ?_
  refine to_gt rfl rfl ?_
  refine to_call0 rfl rfl (fun w s => law_slim t _ _ w) rfl ?_
  refine to_fix (s := 35) (b' := false) rfl (hsl7) ?_
  refine to_gt rfl rfl ?_
  refine to_not rfl rfl ?_
  refine to_pkF rfl rfl rfl ?_
  refine to_mv rfl rfl ?_
  refine to_gf rfl rfl rfl rfl ?_
  refine to_gf rfl rfl rfl rfl ?_
  refine to_gf rfl rfl rfl rfl ?_
  refine to_gf rfl rfl rfl rfl ?_
  refine to_gf rfl rfl rfl rfl ?_
  refine to_pkT rfl rfl rfl ?_
  refine to_nil ?_
  refine tn_code ?_
  refine t_ifT rfl ?_
  refine t_seq ?_
  refine t_reg ?_
  refine to_call0 rfl rfl (fun w s => law_known w (gl_up hg (belowH_of s))) rfl ?_
  refine to_as rfl rfl ?_
  refine to_nil ?_
  refine tn_code ?_
  refine t_ret1 rfl rfl (res_tmp rfl) (fun w' s => ?_)
  rfl

set_option maxRecDepth 20000 in
theorem w_RoundHidden_tr (sh : Sh) (pt : Pt) (gd : Int) (t : List Int) (ta : Option Addr) (tc : Nat) (w : World) (hre : Ro w 0 w.heap.size pt.ea sh.errs.length pt.ec 1 (ints sh.errs)) (hrr : Ro w 0 w.heap.size pt.ra sh.rows.length pt.rc 1 (ints sh.rows)) (hrl : Ro w 0 w.heap.size ta t.length tc 1 (ints t)) (hs : isSh sh = true) (k : Nat) (e : Int) (hgk : gd = (k : Int)) (he : sh.errs[k]? = some e) (hsl7 : decide (t.length ≤ 7) = true) (htr : truK e sh.rows t = false) (hg : Gl w) : Calls Tryz.prog 14 #[shV sh pt, (.int .i64 gd), .slice ta t.length tc] w (RetV w (.bool true)) := by
  subst hgk
  have heb := errs_b (isSh_e hs) e (List.mem_of_getElem? he)
  have hbb := isSh_b hs
  have hxe := map_get (f := intC) he
  have hke := (List.getElem?_eq_some_iff.1 he).1
  have hok := okG_t hs he
  refine calls_T0 (av := [_, _, _]) Tryz.func14 rfl rfl rfl ?_
  refine t_seq ?_
  refine t_reg ?_
  refine to_box rfl rfl (fun b3 => ?_)
  refine to_as rfl rfl ?_
  refine to_nil ?_
  refine tn_code ?_
  refine t_seq ?_
  refine t_seq ?_
  refine t_reg ?_
  first | refine to_lda rfl rfl rfl ?_ | refine to_ldea rfl (by assumption) rfl rfl ?_
  refine to_mv rfl rfl ?_
  refine to_call0 rfl rfl (fun w s => law_right sh pt _ w (rdw s) (rdw s)) rfl ?_
  refine to_fix (s := 31) (b' := true) rfl (hok) ?_
  refine to_not rfl rfl ?_
  refine to_mv rfl rfl ?_
  refine to_gt rfl rfl ?_
  refine to_mv rfl rfl ?_
  refine to_gt rfl rfl ?_
  refine to_call0 rfl rfl (fun w s => law_slim t _ _ w) rfl ?_
  refine to_fix (s := 35) (b' := true) rfl (hsl7) ?_
  refine to_gt rfl rfl ?_
  refine to_not rfl rfl ?_
  refine to_pkF rfl rfl rfl ?_
  refine to_mv rfl rfl ?_
  refine to_gt rfl rfl ?_
  first | refine to_lda rfl rfl rfl ?_ | refine to_ldea rfl (by assumption) rfl rfl ?_
  refine to_gt rfl rfl ?_
  refine to_mv rfl rfl ?_
  refine to_gt rfl rfl ?_
  refine to_mv rfl rfl ?_
  refine to_gt rfl rfl ?_
  refine to_call0 rfl rfl (fun w s => ref_Truth sh pt k e t _ _ w (rdw s) (rdw s) hs he (rdw s)) rfl ?_
  refine to_fix (s := 42) (b' := false) rfl (htr) ?_
  refine to_gt rfl rfl ?_
  refine to_not rfl rfl ?_
  refine to_pkF rfl rfl rfl ?_
  refine to_nil ?_
  refine tn_code ?_
  refine t_ifT rfl ?_
  refine t_seq ?_
  refine t_reg ?_
  refine to_call0 rfl rfl (fun w s => law_known w (gl_up hg (belowH_of s))) rfl ?_
  refine to_as rfl rfl ?_
  refine to_nil ?_
  refine tn_code ?_
  refine t_ret1 rfl rfl (res_tmp rfl) (fun w' s => ?_)
  rfl

set_option maxRecDepth 20000 in
theorem w_RoundHidden_ok (sh : Sh) (pt : Pt) (gd : Int) (t : List Int) (ta : Option Addr) (tc : Nat) (w : World) (hre : Ro w 0 w.heap.size pt.ea sh.errs.length pt.ec 1 (ints sh.errs)) (hrr : Ro w 0 w.heap.size pt.ra sh.rows.length pt.rc 1 (ints sh.rows)) (hrl : Ro w 0 w.heap.size ta t.length tc 1 (ints t)) (hs : isSh sh = true) (k : Nat) (e : Int) (hgk : gd = (k : Int)) (he : sh.errs[k]? = some e) (hsl7 : decide (t.length ≤ 7) = true) (htr : truK e sh.rows t = true) (X : List Sp) (hX : bhR sh e (t.map (fig sh)) (fig sh (sumI t)) = (X, 0)) (hXl : X.length = sh.rows.length) (hXa : ∀ (i : Nat) (r n : Int), sh.rows[i]? = some r → t[i]? = some n → ∃ x, X[i]? = some x ∧ r - e ≤ x.1 ∧ x.1 ≤ n ∧ n ≤ x.2 ∧ x.2 ≤ r + e ∧ fig sh x.1 = fig sh n ∧ fig sh x.2 = fig sh n) (hg : Gl w) : Calls Tryz.prog 14 #[shV sh pt, (.int .i64 gd), .slice ta t.length tc] w (RetV w (.bool true)) := by
  subst hgk
  have heb := errs_b (isSh_e hs) e (List.mem_of_getElem? he)
  have hbb := isSh_b hs
  have hxe := map_get (f := intC) he
  have hke := (List.getElem?_eq_some_iff.1 he).1
  have hok := okG_t hs he
  have htl := truK_len htr
  have hbl := bnd_len sh e
  have hts := tru_small hs heb htr
  have h7 : t.length ≤ 7 := of_decide_eq_true hsl7
  have hss := sums_small hs h7 hts t.length
  rw [List.take_length] at hss
  have hfs := fig_b (sh := sh) (v := sumI t) (B := 700063) hs (by omega)
  have htb := tot_bd (t := t) hs heb
  have hY := hid_none hs heb.1 htr
  have hgl : (t.map (fig sh)).length = t.length := List.length_map _
  refine calls_T0 (av := [_, _, _]) Tryz.func14 rfl rfl rfl ?_
  refine t_seq ?_
  refine t_reg ?_
  refine to_box rfl rfl (fun b3 => ?_)
  refine to_as rfl rfl ?_
  refine to_nil ?_
  refine tn_code ?_
  refine t_seq ?_
  refine t_seq ?_
  refine t_reg ?_
  first | refine to_lda rfl rfl rfl ?_ | refine to_ldea rfl (by assumption) rfl rfl ?_
  refine to_mv rfl rfl ?_
  refine to_call0 rfl rfl (fun w s => law_right sh pt _ w (rdw s) (rdw s)) rfl ?_
  refine to_fix (s := 31) (b' := true) rfl (hok) ?_
  refine to_not rfl rfl ?_
  refine to_mv rfl rfl ?_
  refine to_gt rfl rfl ?_
  refine to_mv rfl rfl ?_
  refine to_gt rfl rfl ?_
  refine to_call0 rfl rfl (fun w s => law_slim t _ _ w) rfl ?_
  refine to_fix (s := 35) (b' := true) rfl (hsl7) ?_
  refine to_gt rfl rfl ?_
  refine to_not rfl rfl ?_
  refine to_pkF rfl rfl rfl ?_
  refine to_mv rfl rfl ?_
  refine to_gt rfl rfl ?_
  first | refine to_lda rfl rfl rfl ?_ | refine to_ldea rfl (by assumption) rfl rfl ?_
  refine to_gt rfl rfl ?_
  refine to_mv rfl rfl ?_
  refine to_gt rfl rfl ?_
  refine to_mv rfl rfl ?_
  refine to_gt rfl rfl ?_
  refine to_call0 rfl rfl (fun w s => ref_Truth sh pt k e t _ _ w (rdw s) (rdw s) hs he (rdw s)) rfl ?_
  refine to_fix (s := 42) (b' := true) rfl (htr) ?_
  refine to_gt rfl rfl ?_
  refine to_not rfl rfl ?_
  refine to_pkF rfl rfl rfl ?_
  refine to_nil ?_
  refine tn_code ?_
  refine t_ifF rfl ?_
  refine t_skip ?_
  refine tn_code ?_
  refine t_seq ?_
  refine t_reg ?_
  first | refine to_lda rfl rfl rfl ?_ | refine to_ldea rfl (by assumption) rfl rfl ?_
  refine to_mv rfl rfl ?_
  refine to_call0 rfl rfl (fun w s => law_added sh pt t _ _ w (rdw s) hs h7 hts) rfl ?_
  refine to_mv rfl rfl ?_
  refine to_ex rfl rfl rfl ?_
  refine to_ex rfl rfl rfl ?_
  refine to_ex rfl rfl rfl ?_
  refine to_fix (s := 52) (b' := true) rfl (rfl) ?_
  refine to_as rfl rfl ?_
  refine to_as rfl rfl ?_
  refine to_as rfl rfl ?_
  refine to_nil ?_
  refine tn_code ?_
  refine t_seq ?_
  refine t_reg ?_
  first | refine to_lda rfl rfl rfl ?_ | refine to_ldea rfl (by assumption) rfl rfl ?_
  refine to_mv rfl rfl ?_
  refine to_call0 rfl rfl (fun w s => law_to sh pt (sumI t) w hs (by omega)) rfl ?_
  refine to_mv rfl rfl ?_
  refine to_ex rfl rfl rfl ?_
  refine to_ex rfl rfl rfl ?_
  refine to_fix (s := 58) (b' := true) rfl (rfl) ?_
  refine to_as rfl rfl ?_
  refine to_as rfl rfl ?_
  refine to_nil ?_
  refine tn_code ?_
  refine t_seq ?_
  refine t_reg ?_
  first | refine to_lda rfl rfl rfl ?_ | refine to_ldea rfl (by assumption) rfl rfl ?_
  refine to_mv rfl rfl ?_
  refine to_call0 rfl rfl (fun w s => c_Total (rdw s) (rdw s) hs he (rfl : rTot sh e = rTot sh e)) rfl ?_
  refine to_mv rfl rfl ?_
  refine to_ex rfl rfl rfl ?_
  refine to_ex rfl rfl rfl ?_
  refine to_alloc rfl (fun b12 => ?_)
  first | refine to_st rfl rfl rfl rfl ?_ | refine to_ste rfl rfl (by assumption) rfl rfl ?_
  refine to_as rfl rfl ?_
  refine to_nil ?_
  refine tn_code ?_
  refine t_seq ?_
  refine t_reg ?_
  first | refine to_lda rfl rfl rfl ?_ | refine to_ldea rfl (by assumption) rfl rfl ?_
  refine to_mv rfl rfl ?_
  refine to_callR rfl rfl (fun w s => r_Bounds_t sh pt k e w (rdw s) (rdw s) hs he) rfl (fun v68 lo68 w68 hlo68 hR68 => ?_)
  obtain ⟨pa68, pc68, rfl, hro68⟩ := hR68
  rw [hbl] at *
  refine to_mv rfl rfl ?_
  refine to_ex rfl rfl rfl ?_
  refine to_ex rfl rfl rfl ?_
  refine to_as rfl rfl ?_
  refine to_as rfl rfl ?_
  refine to_nil ?_
  refine tn_code ?_
  refine t_seq ?_
  refine t_seq ?_
  refine t_reg ?_
  refine to_mv rfl rfl ?_
  refine to_not rfl rfl ?_
  refine to_mv rfl rfl ?_
  refine to_gt rfl rfl ?_
  refine to_mv rfl rfl ?_
  refine to_gt rfl rfl ?_
  refine to_not rfl rfl ?_
  refine to_pkF rfl rfl rfl ?_
  refine to_mv rfl rfl ?_
  refine to_gt rfl rfl ?_
  refine to_mv rfl rfl ?_
  refine to_gt rfl rfl ?_
  refine to_neq rfl rfl rfl ?_
  refine to_fix (s := 79) (b' := false) rfl (rfl) ?_
  refine to_pkF rfl rfl rfl ?_
  refine to_mv rfl rfl ?_
  refine to_gt rfl rfl ?_
  first | refine to_fa rfl rfl rfl (by simp only [Nat.reduceAdd]; rfl) rfl ?_ | refine to_fae rfl rfl rfl (by simp only [Nat.reduceAdd]; rfl) rfl ?_
  refine to_gt rfl rfl ?_
  first | refine to_lds rfl rfl rfl ?_ | refine to_ldes rfl (by assumption) rfl rfl ?_
  refine to_gt rfl rfl ?_
  refine to_lss rfl rfl rfl ?_
  refine to_fix (s := 84) (b' := false) rfl (decide_eq_false (by omega)) ?_
  refine to_pkF rfl rfl rfl ?_
  refine to_mv rfl rfl ?_
  refine to_gt rfl rfl ?_
  first | refine to_fa rfl rfl rfl (by simp only [Nat.reduceAdd]; rfl) rfl ?_ | refine to_fae rfl rfl rfl (by simp only [Nat.reduceAdd]; rfl) rfl ?_
  refine to_gt rfl rfl ?_
  first | refine to_lds rfl rfl rfl ?_ | refine to_ldes rfl (by assumption) rfl rfl ?_
  refine to_gt rfl rfl ?_
  refine to_gtr rfl rfl rfl ?_
  refine to_fix (s := 89) (b' := false) rfl (decide_eq_false (by omega)) ?_
  refine to_pkF rfl rfl rfl ?_
  refine to_mv rfl rfl ?_
  refine to_gt rfl rfl ?_
  refine to_mv rfl rfl ?_
  refine to_gt rfl rfl ?_
  refine to_neq rfl rfl rfl ?_
  refine to_fix (s := 93) (b' := false) rfl (rfl) ?_
  refine to_pkF rfl rfl rfl ?_
  refine to_mv rfl rfl ?_
  refine to_gt rfl rfl ?_
  refine to_mv rfl rfl ?_
  refine to_gt rfl rfl ?_
  refine to_lenS rfl rfl ?_
  refine to_gt rfl rfl ?_
  refine to_mv rfl rfl ?_
  refine to_gt rfl rfl ?_
  refine to_lenS rfl rfl ?_
  refine to_gt rfl rfl ?_
  refine to_neq rfl rfl rfl ?_
  refine to_fix (s := 100) (b' := false) rfl (by simp; omega) ?_
  refine to_pkF rfl rfl rfl ?_
  refine to_nil ?_
  refine tn_code ?_
  refine t_ifF rfl ?_
  refine t_skip ?_
  refine tn_code ?_
  refine t_seq ?_
  refine t_reg ?_
  refine to_as rfl rfl ?_
  refine to_nil ?_
  refine tn_code ?_
  refine t_seq ?_
  refine t_seq ?_
  refine t_reg ?_
  refine to_as rfl rfl ?_
  refine to_nil ?_
  refine tn_code ?_
  refine t_blk ?_
  refine t_nilrow 3 1 ?_
  refine t_loop2 (ι := Nat × Option Addr × Nat) (fun ((j, a', c') : Nat × Option Addr × Nat) => j ≤ t.length) (fun ((j, a', c') : Nat × Option Addr × Nat) => [(1, (.int .i64 (k : Int))), (2, .slice ta t.length tc), (3, (.pointer (some ⟨b3, 0, none⟩))), (10, (.int .i64 (fig sh (sumI t)))), (12, (.pointer (some ⟨b12, 0, none⟩))), (14, .slice pa68 sh.rows.length pc68), (16, .slice a' j c'), (17, (.int .i64 (j : Int)))]) (fun ((j, a', c') : Nat × Option Addr × Nat) => [.row a' j c' 3 1 (ints ((t.take j).map (fig sh))), .own b12 (isC (spanC (rTot sh e)) 53), .own b3 (isC (shC sh pt) 33), .snap lo68 w68.heap.size w68, .snap 0 w.heap.size w]) (fun ((j, a', c') : Nat × Option Addr × Nat) => t.length - j) ((0, none, 0)) [.row none 0 0 3 1 [], .own b12 (isC (spanC (rTot sh e)) 53), .own b3 (isC (shC sh pt) 33), .snap lo68 w68.heap.size w68, .snap 0 w.heap.size w] (rfl) (Nat.zero_le _) (⟨rfl, rfl, rfl, rfl, rfl, rfl, rfl, rfl, trivial⟩) ?_
  rintro ⟨j, a', c'⟩ hk
  try dsimp only at hk
  show T _ _ _ ⟨_, [(1, (.int .i64 (k : Int))), (2, .slice ta t.length tc), (3, (.pointer (some ⟨b3, 0, none⟩))), (10, (.int .i64 (fig sh (sumI t)))), (12, (.pointer (some ⟨b12, 0, none⟩))), (14, .slice pa68 sh.rows.length pc68), (16, .slice a' j c'), (17, (.int .i64 (j : Int)))], _⟩ [.row a' j c' 3 1 (ints ((t.take j).map (fig sh))), .own b12 (isC (spanC (rTot sh e)) 53), .own b3 (isC (shC sh pt) 33), .snap lo68 w68.heap.size w68, .snap 0 w.heap.size w]
  refine t_seq ?_
  refine t_seq ?_
  refine t_reg ?_
  refine to_mv rfl rfl ?_
  refine to_mv rfl rfl ?_
  refine to_lenS rfl rfl ?_
  refine to_lss rfl rfl rfl ?_
  refine to_nil ?_
  refine tn_code ?_
  refine t_if rfl (fun h1 => ?_) (fun h1 => ?_)
  · try simp only [decide_eq_true_eq, decide_eq_false_iff_not, Bool.not_eq_true', Bool.not_eq_false', Int.not_lt, Int.not_le, ne_eq, Decidable.not_not] at h1
    try have h1b := inB_iff.1 h1
    obtain ⟨n, hn⟩ := some_get (xs := t) (k := j) (by omega)
    have hxn := map_get (f := intC) hn
    have hnb := hts n (List.mem_of_getElem? hn)
    refine t_skip ?_
    refine tn_code ?_
    refine t_seq ?_
    refine t_blk ?_
    refine t_seq ?_
    refine t_regD rfl (by kernel_rfl) (by kernel_rfl) ?_
    first | refine to_lda rfl rfl rfl ?_ | refine to_ldea rfl (by assumption) rfl rfl ?_
    refine to_mv rfl rfl ?_
    refine to_mv rfl rfl ?_
    first | refine to_ix rfl rfl rfl (by first | omega | decide) (by first | omega | decide) rfl ?_ | refine to_ixi rfl rfl rfl (by omega) (by omega) (by omega) rfl ?_
    first | refine to_lds rfl rfl rfl ?_ | refine to_ldes rfl (by assumption) rfl rfl ?_
    refine to_call0 rfl rfl (fun w s => law_to sh pt n w hs (by omega)) rfl ?_
    refine to_mv rfl rfl ?_
    refine to_ex rfl rfl rfl ?_
    refine to_ex rfl rfl rfl ?_
    refine to_fix (s := 116) (b' := true) rfl (rfl) ?_
    refine to_as rfl rfl ?_
    refine to_as rfl rfl ?_
    refine to_nil ?_
    refine tn_code ?_
    refine t_seq ?_
    refine t_seq ?_
    refine t_reg ?_
    refine to_mv rfl rfl ?_
    refine to_not rfl rfl ?_
    refine to_nil ?_
    refine tn_code ?_
    refine t_ifF rfl ?_
    refine t_skip ?_
    refine tn_code ?_
    refine t_reg ?_
    refine to_mv rfl rfl ?_
    refine to_mv rfl rfl ?_
    refine to_bsl rfl rfl rfl rfl (fun a121 => ?_)
    refine to_app rfl rfl rfl (by simp [scals, scal]) (by decide) (by omega) (by decide) rfl (fun a122 c122 => ?_)
    refine to_as rfl rfl ?_
    refine to_nil ?_
    refine tn_blk ?_
    refine tn_code ?_
    refine t_reg ?_
    refine to_mv rfl rfl ?_
    refine to_add rfl rfl (by omega) rfl ?_
    refine to_as rfl rfl ?_
    refine to_nil ?_
    exact tn_loop2 ((j + 1, a122, c122)) [.row a122 (j + 1) c122 3 1 (ints ((t.take j).map (fig sh)) ++ [[Value.int .i64 (fig sh n)]]), .own b12 (isC (spanC (rTot sh e)) 53), .own b3 (isC (shC sh pt) 33), .snap lo68 w68.heap.size w68, .snap 0 w.heap.size w] (by dsimp only; rw [figs_succ hn]) (by dsimp only; omega) (by dsimp only; omega) (⟨rfl, rfl, rfl, rfl, rfl, rfl, rfl, rfl, trivial⟩)
  · try simp only [decide_eq_true_eq, decide_eq_false_iff_not, Bool.not_eq_true', Bool.not_eq_false', Int.not_lt, Int.not_le, ne_eq, Decidable.not_not] at h1
    try have h1b := inB_iff.1 h1
    have hk2 : j = t.length := by omega
    subst hk2
    rw [List.take_length]
    refine t_exit ?_
    refine tx_code ?_
    refine tx_inv ?_
    refine tx_blk ?_
    refine tn_code ?_
    refine t_seq ?_
    refine t_reg ?_
    first | refine to_lda rfl rfl rfl ?_ | refine to_ldea rfl (by assumption) rfl rfl ?_
    refine to_mv rfl rfl ?_
    refine to_mv rfl rfl ?_
    refine to_mv rfl rfl ?_
    refine to_callR rfl rfl (fun w s => (by have h9 := c_Behind (sh := sh) (pt := pt) (fa := a') (fc := c') (w := w) (rdw s) (rdw s) hs he (by have h8 := rdw s (a := a'); rw [← hgl] at h8; exact h8) (hgl.trans htl) hX; rw [hgl] at h9; exact h9)) rfl (fun v128 lo128 w128 hlo128 hR128 => ?_)
    obtain ⟨pa128, pc128, rfl, hro128⟩ := hR128
    rw [hXl] at *
    refine to_mv rfl rfl ?_
    refine to_ex rfl rfl rfl ?_
    refine to_ex rfl rfl rfl ?_
    refine to_as rfl rfl ?_
    refine to_as rfl rfl ?_
    refine to_nil ?_
    refine tn_code ?_
    refine t_seq ?_
    refine t_reg ?_
    first | refine to_lda rfl rfl rfl ?_ | refine to_ldea rfl (by assumption) rfl rfl ?_
    refine to_mv rfl rfl ?_
    refine to_mv rfl rfl ?_
    first | refine to_fa rfl rfl rfl (by simp only [Nat.reduceAdd]; rfl) rfl ?_ | refine to_fae rfl rfl rfl (by simp only [Nat.reduceAdd]; rfl) rfl ?_
    first | refine to_lds rfl rfl rfl ?_ | refine to_ldes rfl (by assumption) rfl rfl ?_
    refine to_add rfl rfl (by omega) rfl ?_
    refine to_callR rfl rfl (fun w s => (by have h9 := c_Behind (sh := sh) (pt := pt) (fa := a') (fc := c') (w := w) (rdw s) (rdw s) hs he (by have h8 := rdw s (a := a'); rw [← hgl] at h8; exact h8) (hgl.trans htl) hY; rw [hgl] at h9; exact h9)) rfl (fun v138 lo138 w138 hlo138 hR138 => ?_)
    obtain ⟨pa138, pc138, rfl, hro138⟩ := hR138
    refine to_mv rfl rfl ?_
    refine to_ex rfl rfl rfl ?_
    refine to_ex rfl rfl rfl ?_
    refine to_as rfl rfl ?_
    refine to_as rfl rfl ?_
    refine to_nil ?_
    refine tn_code ?_
    refine t_seq ?_
    refine t_seq ?_
    refine t_reg ?_
    refine to_mv rfl rfl ?_
    refine to_neq rfl rfl rfl ?_
    refine to_fix (s := 142) (b' := false) rfl (rfl) ?_
    refine to_mv rfl rfl ?_
    refine to_gt rfl rfl ?_
    refine to_mv rfl rfl ?_
    refine to_gt rfl rfl ?_
    refine to_lenS rfl rfl ?_
    refine to_gt rfl rfl ?_
    refine to_mv rfl rfl ?_
    refine to_gt rfl rfl ?_
    refine to_lenS rfl rfl ?_
    refine to_gt rfl rfl ?_
    refine to_neq rfl rfl rfl ?_
    refine to_fix (s := 148) (b' := false) rfl (by simp; omega) ?_
    refine to_pkF rfl rfl rfl ?_
    refine to_mv rfl rfl ?_
    refine to_gt rfl rfl ?_
    refine to_mv rfl rfl ?_
    refine to_gt rfl rfl ?_
    refine to_neq rfl rfl rfl ?_
    refine to_fix (s := 152) (b' := false) rfl (rfl) ?_
    refine to_pkF rfl rfl rfl ?_
    refine to_mv rfl rfl ?_
    refine to_gt rfl rfl ?_
    refine to_mv rfl rfl ?_
    refine to_gt rfl rfl ?_
    refine to_lenS rfl rfl ?_
    refine to_gt rfl rfl ?_
    refine to_neq rfl rfl rfl ?_
    refine to_fix (s := 157) (b' := false) rfl (by simp) ?_
    refine to_pkF rfl rfl rfl ?_
    refine to_nil ?_
    refine tn_code ?_
    refine t_ifF rfl ?_
    refine t_skip ?_
    refine tn_code ?_
    refine t_seq ?_
    refine t_seq ?_
    refine t_reg ?_
    refine to_as rfl rfl ?_
    refine to_nil ?_
    refine tn_code ?_
    refine t_blk ?_
    refine t_loop2 (ι := Nat) (fun j => j ≤ t.length) (fun j => [(2, .slice ta t.length tc), (3, (.pointer (some ⟨b3, 0, none⟩))), (14, .slice pa68 sh.rows.length pc68), (16, .slice a' t.length c'), (20, .slice pa128 sh.rows.length pc128), (24, (.int .i64 (j : Int)))]) (fun j => [.row a' t.length c' 3 1 (ints (t.map (fig sh))), .own b3 (isC (shC sh pt) 33), .snap lo128 w128.heap.size w128, .snap lo68 w68.heap.size w68, .snap 0 w.heap.size w]) (fun j => t.length - j) (0) [.row a' t.length c' 3 1 (ints (t.map (fig sh))), .own b3 (isC (shC sh pt) 33), .snap lo128 w128.heap.size w128, .snap lo68 w68.heap.size w68, .snap 0 w.heap.size w] (rfl) (Nat.zero_le _) (⟨rfl, rfl, rfl, rfl, rfl, rfl, trivial⟩) ?_
    rintro j hk
    show T _ _ _ ⟨_, [(2, .slice ta t.length tc), (3, (.pointer (some ⟨b3, 0, none⟩))), (14, .slice pa68 sh.rows.length pc68), (16, .slice a' t.length c'), (20, .slice pa128 sh.rows.length pc128), (24, (.int .i64 (j : Int)))], _⟩ [.row a' t.length c' 3 1 (ints (t.map (fig sh))), .own b3 (isC (shC sh pt) 33), .snap lo128 w128.heap.size w128, .snap lo68 w68.heap.size w68, .snap 0 w.heap.size w]
    refine t_seq ?_
    refine t_seq ?_
    refine t_reg ?_
    refine to_mv rfl rfl ?_
    refine to_mv rfl rfl ?_
    refine to_lenS rfl rfl ?_
    refine to_lss rfl rfl rfl ?_
    refine to_nil ?_
    refine tn_code ?_
    refine t_if rfl (fun h2 => ?_) (fun h2 => ?_)
    · try simp only [decide_eq_true_eq, decide_eq_false_iff_not, Bool.not_eq_true', Bool.not_eq_false', Int.not_lt, Int.not_le, ne_eq, Decidable.not_not] at h2
      try have h2b := inB_iff.1 h2
      obtain ⟨n, hn⟩ := some_get (xs := t) (k := j) (by omega)
      obtain ⟨r, hr⟩ := some_get (xs := sh.rows) (k := j) (by omega)
      have hrb := isSh_r hs (List.mem_of_getElem? hr)
      have hxn := map_get (f := intC) hn
      have hxb := bnd_get (e := e) hr
      have hxg := figs_at (sh := sh) hn
      obtain ⟨x, hx, hb1, hb2, hb3, hb4, hx1, hx2⟩ := hXa j r n hr hn
      have hxx := map_get (f := spanC) hx
      refine t_skip ?_
      refine tn_code ?_
      refine t_seq ?_
      refine t_blk ?_
      refine t_seq ?_
      refine t_seq ?_
      refine t_regD rfl (by kernel_rfl) (by kernel_rfl) ?_
      refine to_mv rfl rfl ?_
      refine to_mv rfl rfl ?_
      first | refine to_ix rfl rfl rfl (by first | omega | decide) (by first | omega | decide) rfl ?_ | refine to_ixi rfl rfl rfl (by omega) (by omega) (by omega) rfl ?_
      first | refine to_fa rfl rfl rfl (by simp only [Nat.reduceAdd]; rfl) rfl ?_ | refine to_fae rfl rfl rfl (by simp only [Nat.reduceAdd]; rfl) rfl ?_
      first | refine to_lds rfl rfl rfl ?_ | refine to_ldes rfl (by assumption) rfl rfl ?_
      refine to_mv rfl rfl ?_
      refine to_mv rfl rfl ?_
      first | refine to_ix rfl rfl rfl (by first | omega | decide) (by first | omega | decide) rfl ?_ | refine to_ixi rfl rfl rfl (by omega) (by omega) (by omega) rfl ?_
      first | refine to_fa rfl rfl rfl (by simp only [Nat.reduceAdd]; rfl) rfl ?_ | refine to_fae rfl rfl rfl (by simp only [Nat.reduceAdd]; rfl) rfl ?_
      first | refine to_lds rfl rfl rfl ?_ | refine to_ldes rfl (by assumption) rfl rfl ?_
      refine to_lss rfl rfl rfl ?_
      refine to_fix (s := 175) (b' := false) rfl (decide_eq_false (by omega)) ?_
      refine to_mv rfl rfl ?_
      refine to_gt rfl rfl ?_
      refine to_mv rfl rfl ?_
      refine to_gt rfl rfl ?_
      refine to_mv rfl rfl ?_
      refine to_gt rfl rfl ?_
      first | refine to_ix rfl rfl rfl (by first | omega | decide) (by first | omega | decide) rfl ?_ | refine to_ixi rfl rfl rfl (by omega) (by omega) (by omega) rfl ?_
      refine to_gt rfl rfl ?_
      first | refine to_fa rfl rfl rfl (by simp only [Nat.reduceAdd]; rfl) rfl ?_ | refine to_fae rfl rfl rfl (by simp only [Nat.reduceAdd]; rfl) rfl ?_
      refine to_gt rfl rfl ?_
      first | refine to_lds rfl rfl rfl ?_ | refine to_ldes rfl (by assumption) rfl rfl ?_
      refine to_gt rfl rfl ?_
      refine to_mv rfl rfl ?_
      refine to_gt rfl rfl ?_
      refine to_mv rfl rfl ?_
      refine to_gt rfl rfl ?_
      first | refine to_ix rfl rfl rfl (by first | omega | decide) (by first | omega | decide) rfl ?_ | refine to_ixi rfl rfl rfl (by omega) (by omega) (by omega) rfl ?_
      refine to_gt rfl rfl ?_
      first | refine to_lds rfl rfl rfl ?_ | refine to_ldes rfl (by assumption) rfl rfl ?_
      refine to_gt rfl rfl ?_
      refine to_gtr rfl rfl rfl ?_
      refine to_fix (s := 186) (b' := false) rfl (decide_eq_false (by omega)) ?_
      refine to_pkF rfl rfl rfl ?_
      refine to_mv rfl rfl ?_
      refine to_gt rfl rfl ?_
      refine to_mv rfl rfl ?_
      refine to_gt rfl rfl ?_
      refine to_mv rfl rfl ?_
      refine to_gt rfl rfl ?_
      first | refine to_ix rfl rfl rfl (by first | omega | decide) (by first | omega | decide) rfl ?_ | refine to_ixi rfl rfl rfl (by omega) (by omega) (by omega) rfl ?_
      refine to_gt rfl rfl ?_
      first | refine to_fa rfl rfl rfl (by simp only [Nat.reduceAdd]; rfl) rfl ?_ | refine to_fae rfl rfl rfl (by simp only [Nat.reduceAdd]; rfl) rfl ?_
      refine to_gt rfl rfl ?_
      first | refine to_lds rfl rfl rfl ?_ | refine to_ldes rfl (by assumption) rfl rfl ?_
      refine to_gt rfl rfl ?_
      refine to_mv rfl rfl ?_
      refine to_gt rfl rfl ?_
      refine to_mv rfl rfl ?_
      refine to_gt rfl rfl ?_
      first | refine to_ix rfl rfl rfl (by first | omega | decide) (by first | omega | decide) rfl ?_ | refine to_ixi rfl rfl rfl (by omega) (by omega) (by omega) rfl ?_
      refine to_gt rfl rfl ?_
      first | refine to_lds rfl rfl rfl ?_ | refine to_ldes rfl (by assumption) rfl rfl ?_
      refine to_gt rfl rfl ?_
      refine to_lss rfl rfl rfl ?_
      refine to_fix (s := 198) (b' := false) rfl (decide_eq_false (by omega)) ?_
      refine to_pkF rfl rfl rfl ?_
      refine to_mv rfl rfl ?_
      refine to_gt rfl rfl ?_
      refine to_mv rfl rfl ?_
      refine to_gt rfl rfl ?_
      refine to_mv rfl rfl ?_
      refine to_gt rfl rfl ?_
      first | refine to_ix rfl rfl rfl (by first | omega | decide) (by first | omega | decide) rfl ?_ | refine to_ixi rfl rfl rfl (by omega) (by omega) (by omega) rfl ?_
      refine to_gt rfl rfl ?_
      first | refine to_fa rfl rfl rfl (by simp only [Nat.reduceAdd]; rfl) rfl ?_ | refine to_fae rfl rfl rfl (by simp only [Nat.reduceAdd]; rfl) rfl ?_
      refine to_gt rfl rfl ?_
      first | refine to_lds rfl rfl rfl ?_ | refine to_ldes rfl (by assumption) rfl rfl ?_
      refine to_gt rfl rfl ?_
      refine to_mv rfl rfl ?_
      refine to_gt rfl rfl ?_
      refine to_mv rfl rfl ?_
      refine to_gt rfl rfl ?_
      first | refine to_ix rfl rfl rfl (by first | omega | decide) (by first | omega | decide) rfl ?_ | refine to_ixi rfl rfl rfl (by omega) (by omega) (by omega) rfl ?_
      refine to_gt rfl rfl ?_
      first | refine to_fa rfl rfl rfl (by simp only [Nat.reduceAdd]; rfl) rfl ?_ | refine to_fae rfl rfl rfl (by simp only [Nat.reduceAdd]; rfl) rfl ?_
      refine to_gt rfl rfl ?_
      first | refine to_lds rfl rfl rfl ?_ | refine to_ldes rfl (by assumption) rfl rfl ?_
      refine to_gt rfl rfl ?_
      refine to_gtr rfl rfl rfl ?_
      refine to_fix (s := 211) (b' := false) rfl (decide_eq_false (by omega)) ?_
      refine to_pkF rfl rfl rfl ?_
      refine to_nil ?_
      refine tn_code ?_
      refine t_ifF rfl ?_
      refine t_skip ?_
      refine tn_code ?_
      refine t_seq ?_
      refine t_regD rfl (by kernel_rfl) (by kernel_rfl) ?_
      first | refine to_lda rfl rfl rfl ?_ | refine to_ldea rfl (by assumption) rfl rfl ?_
      refine to_mv rfl rfl ?_
      refine to_mv rfl rfl ?_
      first | refine to_ix rfl rfl rfl (by first | omega | decide) (by first | omega | decide) rfl ?_ | refine to_ixi rfl rfl rfl (by omega) (by omega) (by omega) rfl ?_
      first | refine to_fa rfl rfl rfl (by simp only [Nat.reduceAdd]; rfl) rfl ?_ | refine to_fae rfl rfl rfl (by simp only [Nat.reduceAdd]; rfl) rfl ?_
      first | refine to_lds rfl rfl rfl ?_ | refine to_ldes rfl (by assumption) rfl rfl ?_
      refine to_call0 rfl rfl (fun w s => law_to sh pt x.1 w hs (by omega)) rfl ?_
      refine to_mv rfl rfl ?_
      refine to_ex rfl rfl rfl ?_
      refine to_ex rfl rfl rfl ?_
      refine to_fix (s := 222) (b' := true) rfl (rfl) ?_
      refine to_as rfl rfl ?_
      refine to_as rfl rfl ?_
      refine to_nil ?_
      refine tn_code ?_
      refine t_seq ?_
      refine t_regD rfl (by kernel_rfl) (by kernel_rfl) ?_
      first | refine to_lda rfl rfl rfl ?_ | refine to_ldea rfl (by assumption) rfl rfl ?_
      refine to_mv rfl rfl ?_
      refine to_mv rfl rfl ?_
      first | refine to_ix rfl rfl rfl (by first | omega | decide) (by first | omega | decide) rfl ?_ | refine to_ixi rfl rfl rfl (by omega) (by omega) (by omega) rfl ?_
      first | refine to_fa rfl rfl rfl (by simp only [Nat.reduceAdd]; rfl) rfl ?_ | refine to_fae rfl rfl rfl (by simp only [Nat.reduceAdd]; rfl) rfl ?_
      first | refine to_lds rfl rfl rfl ?_ | refine to_ldes rfl (by assumption) rfl rfl ?_
      refine to_call0 rfl rfl (fun w s => law_to sh pt x.2 w hs (by omega)) rfl ?_
      refine to_mv rfl rfl ?_
      refine to_ex rfl rfl rfl ?_
      refine to_ex rfl rfl rfl ?_
      refine to_fix (s := 232) (b' := true) rfl (rfl) ?_
      refine to_as rfl rfl ?_
      refine to_as rfl rfl ?_
      refine to_nil ?_
      refine tn_code ?_
      refine t_seq ?_
      refine t_reg ?_
      refine to_mv rfl rfl ?_
      refine to_not rfl rfl ?_
      refine to_mv rfl rfl ?_
      refine to_gt rfl rfl ?_
      refine to_mv rfl rfl ?_
      refine to_gt rfl rfl ?_
      refine to_not rfl rfl ?_
      refine to_pkF rfl rfl rfl ?_
      refine to_mv rfl rfl ?_
      refine to_gt rfl rfl ?_
      refine to_mv rfl rfl ?_
      refine to_gt rfl rfl ?_
      refine to_mv rfl rfl ?_
      refine to_gt rfl rfl ?_
      refine to_mv rfl rfl ?_
      refine to_gt rfl rfl ?_
      first | refine to_ix rfl rfl rfl (by first | omega | decide) (by first | omega | decide) rfl ?_ | refine to_ixi rfl rfl rfl (by omega) (by omega) (by omega) rfl ?_
      refine to_gt rfl rfl ?_
      first | refine to_lds rfl rfl rfl ?_ | refine to_ldes rfl (by assumption) rfl rfl ?_
      refine to_gt rfl rfl ?_
      refine to_neq rfl rfl rfl ?_
      refine to_fix (s := 245) (b' := false) rfl (by simp [hx1]) ?_
      refine to_pkF rfl rfl rfl ?_
      refine to_mv rfl rfl ?_
      refine to_gt rfl rfl ?_
      refine to_mv rfl rfl ?_
      refine to_gt rfl rfl ?_
      refine to_mv rfl rfl ?_
      refine to_gt rfl rfl ?_
      refine to_mv rfl rfl ?_
      refine to_gt rfl rfl ?_
      first | refine to_ix rfl rfl rfl (by first | omega | decide) (by first | omega | decide) rfl ?_ | refine to_ixi rfl rfl rfl (by omega) (by omega) (by omega) rfl ?_
      refine to_gt rfl rfl ?_
      first | refine to_lds rfl rfl rfl ?_ | refine to_ldes rfl (by assumption) rfl rfl ?_
      refine to_gt rfl rfl ?_
      refine to_neq rfl rfl rfl ?_
      refine to_fix (s := 253) (b' := false) rfl (by simp [hx2]) ?_
      refine to_pkF rfl rfl rfl ?_
      refine to_nil ?_
      refine tn_code ?_
      refine t_ifF rfl ?_
      refine t_skip ?_
      refine tn_blk ?_
      refine tn_code ?_
      refine t_reg ?_
      refine to_mv rfl rfl ?_
      refine to_add rfl rfl (by omega) rfl ?_
      refine to_as rfl rfl ?_
      refine to_nil ?_
      exact tn_loop2 (j + 1) [.row a' t.length c' 3 1 (ints (t.map (fig sh))), .own b3 (isC (shC sh pt) 33), .snap lo128 w128.heap.size w128, .snap lo68 w68.heap.size w68, .snap 0 w.heap.size w] (rfl) (by omega) (by omega) (⟨rfl, rfl, rfl, rfl, rfl, rfl, trivial⟩)
    · try simp only [decide_eq_true_eq, decide_eq_false_iff_not, Bool.not_eq_true', Bool.not_eq_false', Int.not_lt, Int.not_le, ne_eq, Decidable.not_not] at h2
      try have h2b := inB_iff.1 h2
      refine t_exit ?_
      refine tx_code ?_
      refine tx_inv ?_
      refine tx_blk ?_
      refine tn_code ?_
      refine t_seq ?_
      refine t_reg ?_
      refine to_call0 rfl rfl (fun w s => law_known w (gl_up hg (belowH_of s))) rfl ?_
      refine to_as rfl rfl ?_
      refine to_nil ?_
      refine tn_code ?_
      refine t_ret1 rfl rfl (res_tmp rfl) (fun w' s => ?_)
      rfl

theorem w_RoundHidden (sh : Sh) (pt : Pt) (gd : Int) (t : List Int) (ta : Option Addr) (tc : Nat) (w : World) (hre : Ro w 0 w.heap.size pt.ea sh.errs.length pt.ec 1 (ints sh.errs)) (hrr : Ro w 0 w.heap.size pt.ra sh.rows.length pt.rc 1 (ints sh.rows)) (hrl : Ro w 0 w.heap.size ta t.length tc 1 (ints t)) (hg : Gl w) : Calls Tryz.prog 14 #[shV sh pt, .int .i64 gd, .slice ta t.length tc] w (RetV w (.bool true)) := by
  rcases bool_tf (okG sh gd) with ho | ho
  · obtain ⟨hs, k, e, hk, he⟩ := okG_b ho
    rcases bool_tf (decide (t.length ≤ 7)) with h7 | h7
    · rcases bool_tf (truK e sh.rows t) with htr | htr
      · have heb := errs_b (isSh_e hs) e (List.mem_of_getElem? he)
        obtain ⟨X, h1, h2, h3⟩ := hid_t hs heb.1 htr
        exact w_RoundHidden_ok sh pt gd t ta tc w hre hrr hrl hs k e hk he h7 htr X h1 h2 h3 hg
      · exact w_RoundHidden_tr sh pt gd t ta tc w hre hrr hrl hs k e hk he h7 htr hg
    · exact w_RoundHidden_sl sh pt gd t ta tc w hre hrr hrl hs k e hk he h7 hg
  · exact w_RoundHidden_no sh pt gd t ta tc w hre hrr hrl ho hg

end Go.Proofs


namespace Go.Proofs.YtebellbkmioadaaGreatDoor
open Go Go.Sx Go.RowKit Go.WideShapes Go.ChangeShapes

section
variable {H : Type} {enc : TypeId × Value → H}
set_option maxRecDepth 100000 in
theorem roundHidden_law (W : World) (base : Nat) (args : Array Value) (ds : List (DataW H)) (p : List MemPlace) (hval : ∀ (j : Nat) t v, Tryz.f14.params[j]? = some t → args[j]? = some v → Value.okWide Tryz.prog W .any base t v)
    (hA : DataW.TrodAll enc Tryz.prog W 0 (fun _ => true) true Tryz.f14.params.toList args.toList ds p) (hg : Gl W) : Calls Tryz.prog 14 args W (RetV W (.bool true)) := by
  obtain ⟨l⟩ := args
  rw [Tryz.params14] at hA hval
  obtain ⟨v0, l0, d0, e0, p0, q0, hl0, rfl, h0, hA0⟩ := trodAll_cons hA
  have hl0' : l = v0 :: l0 := hl0
  subst hl0'
  obtain ⟨v1, l1, d1, e1, p1, q1, hl1, rfl, h1, hA1⟩ := trodAll_cons hA0
  subst hl1
  obtain ⟨v2, l2, d2, e2, p2, q2, hl2, rfl, h2, hA2⟩ := trodAll_cons hA1
  subst hl2
  obtain rfl := trodAll_nil hA2
  obtain ⟨sh0, pt0, rfl, hre0, hrr0⟩ := open_sh (hval 0 33 v0 rfl rfl) h0
  obtain ⟨n1, rfl, _⟩ := open_i u3 (hval 1 3 v1 rfl rfl) h1
  obtain ⟨t2, a2, c2, rfl, hr2⟩ := open_ints36 (hval 2 30 v2 rfl rfl) h2
  exact w_RoundHidden sh0 pt0 n1 t2 a2 c2 W hre0 hrr0 hr2 hg
end

set_option maxRecDepth 100000 in
theorem roundHidden_lifted (os : Os) (started : os.Started) (H : Type) (enc : TypeId × Value → H) :
    ReturnsInHanded {} Tryz.checked os 14 .any (fun w args => (Rows.roundHiddenSpec.pre enc Tryz.prog Tryz.f14 [] false w args ∧ laidMetH Tryz.prog laidL w) ∧ sizedMet enc Tryz.prog Tryz.f14 (OpenSpec.ofChange Rows.roundHiddenSpec) false w args)
      (Rows.roundHiddenSpec.post enc Tryz.prog Tryz.f14 false true false false) :=
  law_lifted started (by kernel_rfl) Tryz.func14 rfl rfl (by kernel_rfl) (fun ds h => by
      match ds, h with
      | [_, _, _], _ => rfl)
    (ChangeSpec.witness_shaped (enc := enc) (C := Tryz.checked) (os := os) (X := fun w _ => laidMetH Tryz.prog laidL w) false (World.laidAll Tryz.prog os laidL) #[.agg #[.int .i64 0, .int .i64 0, .slice none 0 0, .slice none 0 0], .int .i64 0, .slice none 0 0] 8 (World.laidAll_os _ _ _)
      (World.shaped_of_ZipB (by kernel_rfl) (by kernel_rfl)) (by kernel_rfl) (by kernel_rfl) (by kernel_rfl)
      (by rw [MakeChecks.laidMetH_plain _ _ _ (by kernel_rfl)]; exact laidMet_laidAll _ (by kernel_rfl) (by kernel_rfl)))
    (fun W base args ds p hval hA hg => roundHidden_law W base args ds p hval hA hg)

theorem roundHidden_holds : Rows.RoundHiddenSaid :=
  OpenClaim.holds_of_wide 14 Tryz.f14 rfl rfl rfl rfl rfl rfl rfl ⟨rfl, rfl, rfl, rfl, rfl⟩ rfl rfl rfl rfl rfl (by kernel_rfl) Tryz.func14 (by kernel_rfl)
    (of_decide_eq_true (by kernel_rfl)) (by unfold Func.isWrapper; first | (rw [if_pos (by decide +kernel)]; kernel_rfl) | (rw [if_neg (by decide +kernel)]; exact ⟨rfl, rfl⟩))
    (fun os started H enc _ => roundHidden_lifted os started H enc)

theorem roundHidden_card : Rows.RoundHiddenCardSaid :=
  Claim7.holds_tied_plain_at .later [] [.data, .data, .data, .data, .pinned] true (true, "96da020e9171284ac76ac3c82595ce7ceccbab9aed8a1f73712d8b3a4229c7e5") true
    roundHidden_holds (fun _ h => by cases h) (by kernel_rfl) (fun _ h => by cases h) roundHidden_row_tie rfl ⟨rfl, rfl⟩ (by kernel_rfl) rfl
    (fun f fn hf hfn => by
      obtain rfl : f = 14 := Option.some.inj ((show Tryz.prog.funcNamed "ephemerist/ephemeristlaw04.RoundHidden" = some 14 by kernel_rfl).symm.trans hf) |>.symm
      obtain rfl : fn = Tryz.f14 := (Option.some.inj (Tryz.func14.symm.trans hfn)).symm
      exact ⟨by kernel_rfl, fun j t ht => by
        rw [Tryz.params14] at ht
        have hm : t ∈ [33, 3, 30] := by simpa using Array.mem_of_getElem? ht
        have hall : ([33, 3, 30].all fun u => !Tryz.prog.wantsStandIn u) = true := by kernel_rfl
        exact (show Tryz.prog.wantsStandIn t = false by simpa using List.all_eq_true.1 hall t hm)⟩)
    (by kernel_rfl)
end Go.Proofs.YtebellbkmioadaaGreatDoor

