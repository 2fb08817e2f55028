/- RoundEnough: for every input the law returns true, and each argument reads behind the call as it read before. Conditions: the package-level variables that the row lists hold what the program's text lays (tied by the card). -/
import Derived.Test.YtebellbkmioadaaGreatDoorOwnC
import Derived.Test.YtebellbkmioadaaGreatDoorOwnE
import Derived.Test.YtebellbkmioadaaGreatDoorOwnF
import Derived.LaidOnce
import Derived.SevenTiedAt
import Derived.Test.YtebellbkmioadaaGreatDoorTie
import Derived.Test.YtebellbkmioadaaGreatDoorCards
set_option linter.unusedVariables false
set_option linter.unusedSimpArgs false
namespace Go.Proofs
open Go Go.Sx

/-! # Plain laws of round: rounding -/

/-! ## Numbers behind a figure -/

theorem fig_mono {sh : Sh} {v w : Int} (hs : isSh sh = true) (h : v ≤ w) : fig sh v ≤ fig sh w := toF_mono (isSh_b hs).1.1 h
/-! ## Lists that lie on a map from one place on -/

end Go.Proofs


namespace Go.Proofs
open Go Go.Sx

/-! # Plain laws of round: what is sure -/

theorem sureK_mem {sh : Sh} {e : Int} {i : Int} : ∀ k, i ∈ sureK sh e k ↔ ∃ (j : Nat) (r : Int), j < k ∧ i = j ∧ sh.rows[j]? = some r ∧ fig sh (r - e) = fig sh (r + e)
  | 0 => by simp [sureK]
  | k + 1 => by
    have ih := sureK_mem (sh := sh) (e := e) (i := i) k
    have key : (∃ (j : Nat) (r : Int), j < k + 1 ∧ i = j ∧ sh.rows[j]? = some r ∧ fig sh (r - e) = fig sh (r + e)) ↔ i ∈ sureK sh e k ∨ (i = k ∧ ∃ r, sh.rows[k]? = some r ∧ fig sh (r - e) = fig sh (r + e)) := by
      rw [ih]
      constructor
      · rintro ⟨j, r, h1, h2, h3, h4⟩
        by_cases hj : j = k
        · subst hj; exact .inr ⟨h2, r, h3, h4⟩
        · exact .inl ⟨j, r, by omega, h2, h3, h4⟩
      · rintro (⟨j, r, h1, h2, h3, h4⟩ | ⟨h1, r, h2, h3⟩)
        · exact ⟨j, r, by omega, h2, h3, h4⟩
        · exact ⟨k, r, by omega, h1, h2, h3⟩
    rw [key]
    simp only [sureK]
    cases hr : sh.rows[k]? with
    | none => simp
    | some r =>
      simp only
      by_cases h : fig sh (r - e) = fig sh (r + e)
      · rw [if_pos h]; simp [h]
      · rw [if_neg h]; simp [h]
theorem sure_has {sh : Sh} {e r : Int} {k : Nat} (hr : sh.rows[k]? = some r) : (sureL sh e).contains (k : Int) = decide (fig sh (r - e) = fig sh (r + e)) := by
  have hk := (List.getElem?_eq_some_iff.1 hr).1
  have h1 : ((k : Int) ∈ sureL sh e) ↔ fig sh (r - e) = fig sh (r + e) := by
    rw [sureL, sureK_mem]
    constructor
    · rintro ⟨j, r', _, h2, h3, h4⟩
      have : j = k := by omega
      subst this; rw [hr] at h3; cases h3; exact h4
    · exact fun h => ⟨k, r, hk, rfl, hr, h⟩
  rw [List.contains_eq_mem]
  exact decide_eq_decide.2 h1
def allS (sh : Sh) (e : Int) : Prop := ∀ (k : Nat) r, sh.rows[k]? = some r → fig sh (r - e) = fig sh (r + e)
theorem sureK_full {sh : Sh} {e : Int} : ∀ k, k ≤ sh.rows.length → ((sureK sh e k).length = k ↔ ∀ (j : Nat) r, j < k → sh.rows[j]? = some r → fig sh (r - e) = fig sh (r + e))
  | 0, _ => by simp [sureK]
  | k + 1, hk => by
    have ih := sureK_full (sh := sh) (e := e) k (by omega)
    have hl := sureK_len sh e k
    obtain ⟨r, hr⟩ := some_get (xs := sh.rows) (k := k) (by omega)
    by_cases h : fig sh (r - e) = fig sh (r + e)
    · rw [sureK_t hr h, List.length_append, List.length_singleton]
      constructor
      · intro h2 j r' hj hr'
        by_cases hjk : j = k
        · subst hjk; rw [hr] at hr'; cases hr'; exact h
        · exact ih.1 (by omega) j r' (by omega) hr'
      · intro h2
        have := ih.2 (fun j r' hj => h2 j r' (by omega))
        omega
    · rw [sureK_f hr h]
      constructor
      · intro h2; omega
      · intro h2; exact absurd (h2 k r (by omega) hr) h
theorem sure_all {sh : Sh} {e : Int} : (sureL sh e).length = sh.rows.length ↔ allS sh e := by
  rw [sureL, sureK_full _ (Nat.le_refl _)]
  exact ⟨fun h k r hr => h k r (List.getElem?_eq_some_iff.1 hr).1 hr, fun h j r _ hr => h j r hr⟩
theorem sure_mono {sh : Sh} (hs : isSh sh = true) {r a b : Int} (hab : b ≤ a ∧ 0 ≤ b) (h : fig sh (r - a) = fig sh (r + a)) : fig sh (r - b) = fig sh (r + b) := by
  have h1 := fig_mono hs (show r - a ≤ r - b by omega)
  have h2 := fig_mono hs (show r - b ≤ r + b by omega)
  have h3 := fig_mono hs (show r + b ≤ r + a by omega)
  omega

/-- The first with which something is so that stays so. -/
theorem least_mono {p : Int → Bool} {es : List Int} (hm : ∀ (i j : Nat) a b, i ≤ j → es[i]? = some a → es[j]? = some b → p a = true → p b = true) {k : Nat} {e : Int} (he : es[k]? = some e) :
    p e = decide ((leastP p es).2 = 0 ∧ (leastP p es).1 ≤ k) := by
  by_cases hn : ∃ j : Nat, j < es.length ∧ ∃ a, es[j]? = some a ∧ p a = true
  · have hex : ∃ j : Nat, (j < es.length ∧ ∃ a, es[j]? = some a ∧ p a = true) ∧ ∀ i, i < j → ∀ a, es[i]? = some a → p a = false := by
      obtain ⟨j, hj⟩ := hn
      induction j using Nat.strongRecOn with
      | _ j ih =>
        by_cases hc : ∃ i, i < j ∧ ∃ a, es[i]? = some a ∧ p a = true
        · obtain ⟨i, h1, h2⟩ := hc
          exact ih i h1 ⟨by omega, h2⟩
        · refine ⟨j, hj, fun i hi a ha => ?_⟩
          cases hq : p a with
          | false => rfl
          | true => exact absurd ⟨i, hi, a, ha, hq⟩ hc
    obtain ⟨j, ⟨hj, a, ha, hpa⟩, hmin⟩ := hex
    have hf := idxI_found (p := p) hmin ha hpa
    have hl : leastP p es = ((j : Int), 0) := by simp only [leastP, hf]; rw [if_neg (by omega)]
    rw [hl]
    by_cases hjk : j ≤ k
    · rw [hm j k a e hjk ha he hpa]; simp; omega
    · rw [hmin k (by omega) e he]; simp; omega
  · have hall : ∀ j, j < es.length → ∀ y, es[j]? = some y → p y = false := fun j hj y hy => by
      cases hq : p y with
      | false => rfl
      | true => exact absurd ⟨j, hj, y, hy, hq⟩ hn
    have hf := idxI_none (p := p) hall
    have hl : leastP p es = (0, 5) := by simp only [leastP, hf]; rfl
    rw [hl, hall k (List.getElem?_eq_some_iff.1 he).1 e he]; simp
theorem least_cases (p : Int → Bool) (es : List Int) : ((leastP p es).2 = 0 ∧ ∃ (k : Nat) (e : Int), (leastP p es).1 = k ∧ es[k]? = some e ∧ p e = true) ∨ ((leastP p es) = (0, 5) ∧ ∀ e ∈ es, p e = false) := by
  by_cases hn : ∃ j : Nat, j < es.length ∧ ∃ a, es[j]? = some a ∧ p a = true
  · have hex : ∃ j : Nat, (j < es.length ∧ ∃ a, es[j]? = some a ∧ p a = true) ∧ ∀ i, i < j → ∀ a, es[i]? = some a → p a = false := by
      obtain ⟨j, hj⟩ := hn
      induction j using Nat.strongRecOn with
      | _ j ih =>
        by_cases hc : ∃ i, i < j ∧ ∃ a, es[i]? = some a ∧ p a = true
        · obtain ⟨i, h1, h2⟩ := hc
          exact ih i h1 ⟨by omega, h2⟩
        · refine ⟨j, hj, fun i hi a ha => ?_⟩
          cases hq : p a with
          | false => rfl
          | true => exact absurd ⟨i, hi, a, ha, hq⟩ hc
    obtain ⟨j, ⟨hj, a, ha, hpa⟩, hmin⟩ := hex
    have hf := idxI_found (p := p) hmin ha hpa
    have hl : leastP p es = ((j : Int), 0) := by simp only [leastP, hf]; rw [if_neg (by omega)]
    rw [hl]; exact .inl ⟨rfl, j, a, rfl, ha, hpa⟩
  · have hall : ∀ j, j < es.length → ∀ y, es[j]? = some y → p y = false := fun j hj y hy => by
      cases hq : p y with
      | false => rfl
      | true => exact absurd ⟨j, hj, y, hy, hq⟩ hn
    have hf := idxI_none (p := p) hall
    refine .inr ⟨by simp only [leastP, hf]; rfl, fun e he => ?_⟩
    obtain ⟨j, hj⟩ := List.mem_iff_getElem?.1 he
    exact hall j (List.getElem?_eq_some_iff.1 hj).1 e hj
def pNeed (sh : Sh) (row : Int) : Int → Bool := fun e => (sureL sh e).contains row
def pGuards (sh : Sh) : Int → Bool := fun e => decide ((sureL sh e).length = sh.rows.length)
theorem errs_le {sh : Sh} (hs : isSh sh = true) {i j : Nat} {a b : Int} (hij : i ≤ j) (ha : sh.errs[i]? = some a) (hb : sh.errs[j]? = some b) : b ≤ a ∧ 0 ≤ b :=
  ⟨errs_mono (isSh_e hs) i j a b hij ha hb, (errs_b (isSh_e hs) b (List.mem_of_getElem? hb)).1⟩
theorem need_mono {sh : Sh} (hs : isSh sh = true) {r : Int} {k : Nat} (hr : sh.rows[k]? = some r) : ∀ (i j : Nat) a b, i ≤ j → sh.errs[i]? = some a → sh.errs[j]? = some b → pNeed sh (k : Int) a = true → pNeed sh (k : Int) b = true := by
  intro i j a b hij ha hb h
  simp only [pNeed, sure_has hr, decide_eq_true_eq] at h ⊢
  exact sure_mono hs (errs_le hs hij ha hb) h
theorem guards_mono {sh : Sh} (hs : isSh sh = true) : ∀ (i j : Nat) a b, i ≤ j → sh.errs[i]? = some a → sh.errs[j]? = some b → pGuards sh a = true → pGuards sh b = true := by
  intro i j a b hij ha hb h
  simp only [pGuards, decide_eq_true_eq, sure_all] at h ⊢
  exact fun k r hr => sure_mono hs (errs_le hs hij ha hb) (h k r hr)
/-- RoundEnough. -/
theorem enough_plain {sh : Sh} (hs : isSh sh = true) {g k : Nat} {e r : Int} (he : sh.errs[g]? = some e) (hr : sh.rows[k]? = some r) :
    (sureL sh e).contains (k : Int) = decide ((leastP (pNeed sh k) sh.errs).2 = 0 ∧ (leastP (pNeed sh k) sh.errs).1 ≤ g) ∧
    decide ((sureL sh e).length = sh.rows.length) = decide ((leastP (pGuards sh) sh.errs).2 = 0 ∧ (leastP (pGuards sh) sh.errs).1 ≤ g) ∧
    ((leastP (pGuards sh) sh.errs).2 = 0 → (leastP (pNeed sh k) sh.errs).2 = 0 ∧ (leastP (pNeed sh k) sh.errs).1 ≤ (leastP (pGuards sh) sh.errs).1) ∧
    ((leastP (pGuards sh) sh.errs).2 = 0 ∨ (leastP (pGuards sh) sh.errs).2 = 5) ∧ ((leastP (pNeed sh k) sh.errs).2 = 0 ∨ (leastP (pNeed sh k) sh.errs).2 = 5) := by
  refine ⟨least_mono (need_mono hs hr) he, least_mono (guards_mono hs) he, fun h => ?_, ?_, ?_⟩
  · rcases least_cases (pGuards sh) sh.errs with ⟨_, j, a, h2, h3, h4⟩ | ⟨h2, _⟩
    · have h5 : pNeed sh (k : Int) a = true := by
        simp only [pGuards, decide_eq_true_eq, sure_all] at h4
        simp only [pNeed, sure_has hr, decide_eq_true_eq]
        exact h4 k r hr
      have h6 := least_mono (need_mono hs hr) h3
      rw [h5] at h6
      have h7 := of_decide_eq_true h6.symm
      rw [h2]; exact h7
    · rw [h2] at h; cases h
  · rcases least_cases (pGuards sh) sh.errs with ⟨h, _⟩ | ⟨h, _⟩
    · exact .inl h
    · rw [h]; exact .inr rfl
  · rcases least_cases (pNeed sh k) sh.errs with ⟨h, _⟩ | ⟨h, _⟩
    · exact .inl h
    · rw [h]; exact .inr rfl

/-! ## More guard figures -/

/-! ## Totals of truths -/

/-! ## The other sign -/

end Go.Proofs


namespace Go.Proofs
open Go Go.Sx Go.RowKit

end Go.Proofs


namespace Go.Proofs
open Go Go.Sx Go.RowKit

end Go.Proofs


namespace Go.Proofs
open Go Go.Sx Go.RowKit

end Go.Proofs


namespace Go.Proofs
open Go Go.Sx Go.RowKit

set_option maxRecDepth 20000 in
theorem law_right (sh : Sh) (pt : Pt) (gd : Int) (w : World) (hre : Ro w 0 w.heap.size pt.ea sh.errs.length pt.ec 1 (ints sh.errs)) (hrr : Ro w 0 w.heap.size pt.ra sh.rows.length pt.rc 1 (ints sh.rows)) : Calls Tryz.prog 29 #[shV sh pt, (.int .i64 gd)] w (RetV w (.bool (okG sh gd))) := by
  have hok : okG sh gd = (isSh sh && inB gd 0 (sh.errs.length - 1)) := rfl
  refine calls_T0 (av := [_, _]) Tryz.func29 rfl rfl rfl ?_
  refine t_seq ?_
  refine t_reg ?_
  refine to_box rfl rfl (fun b2 => ?_)
  refine to_as rfl rfl ?_
  refine to_nil ?_
  refine tn_code ?_
  refine t_seq ?_
  refine t_reg ?_
  first | refine to_lda rfl rfl rfl ?_ | refine to_ldea rfl (by assumption) rfl rfl ?_
  refine to_call0 rfl rfl (fun w s => law_short _ _ w) rfl ?_
  refine to_mv rfl rfl ?_
  refine to_gs rfl rfl rfl (fun h1 => ?_) (fun h1 => ?_)
  · try simp only [decide_eq_true_eq, decide_eq_false_iff_not, Bool.not_eq_true', Bool.not_eq_false', Int.not_lt, Int.not_le, ne_eq, Decidable.not_not] at h1
    try have h1b := inB_iff.1 h1
    refine to_gt rfl rfl ?_
    first | refine to_lda rfl rfl rfl ?_ | refine to_ldea rfl (by assumption) rfl rfl ?_
    refine to_gt rfl rfl ?_
    refine to_call0 rfl rfl (fun w s => ref_Sheet sh pt w (rdw s) (rdw s)) rfl ?_
    refine to_pkT rfl rfl rfl ?_
    refine to_mv rfl rfl ?_
    refine to_gs rfl rfl rfl (fun h2 => ?_) (fun h2 => ?_)
    · try simp only [decide_eq_true_eq, decide_eq_false_iff_not, Bool.not_eq_true', Bool.not_eq_false', Int.not_lt, Int.not_le, ne_eq, Decidable.not_not] at h2
      try have h2b := inB_iff.1 h2
      have hsh : isSh sh = true := h2
      refine to_gt rfl rfl ?_
      first | refine to_lda rfl rfl rfl ?_ | refine to_ldea rfl (by assumption) rfl rfl ?_
      refine to_gt rfl rfl ?_
      refine to_mv rfl rfl ?_
      refine to_gt rfl rfl ?_
      refine to_call0 rfl rfl (fun w s => ref_Guard sh pt _ w (by have h9 := isSh_b hsh; omega)) rfl ?_
      refine to_pkT rfl rfl rfl ?_
      refine to_as rfl rfl ?_
      refine to_nil ?_
      refine tn_code ?_
      refine t_ret1 rfl rfl (res_tmp rfl) (fun w' s => ?_)
      first | (rw [hok]; simp_all; done) | (rw [hok]; simp [*]; done)
    · try simp only [decide_eq_true_eq, decide_eq_false_iff_not, Bool.not_eq_true', Bool.not_eq_false', Int.not_lt, Int.not_le, ne_eq, Decidable.not_not] at h2
      try have h2b := inB_iff.1 h2
      refine to_gf rfl rfl rfl rfl ?_
      refine to_gf rfl rfl rfl rfl ?_
      refine to_gf rfl rfl rfl rfl ?_
      refine to_pkF rfl rfl rfl ?_
      refine to_as rfl rfl ?_
      refine to_nil ?_
      refine tn_code ?_
      refine t_ret1 rfl rfl (res_tmp rfl) (fun w' s => ?_)
      first | (rw [hok]; simp_all; done) | (rw [hok]; simp [*]; done)
  · try simp only [decide_eq_true_eq, decide_eq_false_iff_not, Bool.not_eq_true', Bool.not_eq_false', Int.not_lt, Int.not_le, ne_eq, Decidable.not_not] at h1
    try have h1b := inB_iff.1 h1
    have hnot : isSh sh = false := (by rw [Bool.eq_false_iff]; intro hh; have h9 := isSh_b hh; simp at h1; omega)
    refine to_gf rfl rfl rfl rfl ?_
    refine to_gf rfl rfl rfl rfl ?_
    refine to_pkF rfl rfl rfl ?_
    refine to_mv rfl rfl ?_
    refine to_gf rfl rfl rfl rfl ?_
    refine to_gf rfl rfl rfl rfl ?_
    refine to_gf rfl rfl rfl rfl ?_
    refine to_pkF rfl rfl rfl ?_
    refine to_as rfl rfl ?_
    refine to_nil ?_
    refine tn_code ?_
    refine t_ret1 rfl rfl (res_tmp rfl) (fun w' s => ?_)
    first | (rw [hok]; simp_all; done) | (rw [hok]; simp [*]; done)

end Go.Proofs


namespace Go.Proofs
open Go Go.Sx Go.RowKit

theorem row_ok {sh : Sh} {k : Nat} {r : Int} (h : sh.rows[k]? = some r) : inB (k : Int) 0 (sh.rows.length - 1) = true := by
  have := (List.getElem?_eq_some_iff.1 h).1
  exact inB_iff.2 (by omega)
theorem row_ex {sh : Sh} {row : Int} (h : inB row 0 (sh.rows.length - 1) = true) : ∃ (k : Nat) (r : Int), row = (k : Int) ∧ sh.rows[k]? = some r := by
  have hb := inB_iff.1 h
  obtain ⟨k, rfl⟩ := Int.eq_ofNat_of_zero_le hb.1
  obtain ⟨e, he⟩ := some_get (xs := sh.rows) (k := k) (by omega)
  exact ⟨k, e, rfl, he⟩

theorem need_t {sh : Sh} {row : Int} (hs : isSh sh = true) (h : inB row 0 (sh.rows.length - 1) = true) : rNeed sh row = leastP (pNeed sh row) sh.errs := by simp only [rNeed, hs, h]; rfl
theorem guards_t {sh : Sh} (hs : isSh sh = true) : rGuards sh = leastP (pGuards sh) sh.errs := by simp only [rGuards, hs]; rfl
theorem c_Need {sh : Sh} {row a b : Int} (pt : Pt) (w : World) (hre : Ro w 0 w.heap.size pt.ea sh.errs.length pt.ec 1 (ints sh.errs)) (hrr : Ro w 0 w.heap.size pt.ra sh.rows.length pt.rc 1 (ints sh.rows)) (hl : sh.rows.length ≤ 1000000) (h : rNeed sh row = (a, b)) : Calls Tryz.prog 37 #[shV sh pt, .int .i64 row] w (RetV w (.tuple #[.int .i64 a, .int .i64 b])) := by
  have := r_Need sh pt row w hre hrr hl
  rw [h] at this; exact this
theorem c_Guards {sh : Sh} {a b : Int} (pt : Pt) (w : World) (hre : Ro w 0 w.heap.size pt.ea sh.errs.length pt.ec 1 (ints sh.errs)) (hrr : Ro w 0 w.heap.size pt.ra sh.rows.length pt.rc 1 (ints sh.rows)) (h : rGuards sh = (a, b)) : Calls Tryz.prog 38 #[shV sh pt] w (RetV w (.tuple #[.int .i64 a, .int .i64 b])) := by
  have := r_Guards sh pt w hre hrr
  rw [h] at this; exact this
theorem least_two (p : Int → Bool) (es : List Int) : ∃ a b : Int, leastP p es = (a, b) ∧ (b = 0 ∨ a = 0 ∧ b = 5) := by
  simp only [leastP]
  split
  · exact ⟨0, 5, rfl, .inr ⟨rfl, rfl⟩⟩
  · exact ⟨_, 0, rfl, .inl rfl⟩

end Go.Proofs


namespace Go.Proofs
open Go Go.Sx Go.RowKit

theorem enough_cases {sh : Sh} (hs : isSh sh = true) {g k : Nat} {e r : Int} (he : sh.errs[g]? = some e) (hr : sh.rows[k]? = some r) :
    (∃ m n : Int, leastP (pGuards sh) sh.errs = (m, 0) ∧ leastP (pNeed sh k) sh.errs = (n, 0) ∧ n ≤ m ∧ (sureL sh e).contains (k : Int) = decide (n ≤ g) ∧ decide ((sureL sh e).length = sh.rows.length) = decide (m ≤ g)) ∨
    (∃ n : Int, leastP (pGuards sh) sh.errs = (0, 5) ∧ leastP (pNeed sh k) sh.errs = (n, 0) ∧ (sureL sh e).contains (k : Int) = decide (n ≤ g) ∧ ¬ (sureL sh e).length = sh.rows.length) ∨
    (leastP (pGuards sh) sh.errs = (0, 5) ∧ leastP (pNeed sh k) sh.errs = (0, 5) ∧ (sureL sh e).contains (k : Int) = false ∧ ¬ (sureL sh e).length = sh.rows.length) := by
  obtain ⟨h1, h2, h3, _, _⟩ := enough_plain hs he hr
  obtain ⟨m, mb, hG, rfl | ⟨rfl, rfl⟩⟩ := least_two (pGuards sh) sh.errs
  · obtain ⟨n, nb, hN, hnb⟩ := least_two (pNeed sh k) sh.errs
    rw [hG, hN] at h3
    have h4 := h3 rfl
    simp only at h4
    obtain ⟨rfl, h5⟩ := h4
    rw [hN] at h1; rw [hG] at h2
    exact .inl ⟨m, n, hG, hN, h5, by simpa using h1, by simpa using h2⟩
  · rw [hG] at h2
    have h6 : ¬ (sureL sh e).length = sh.rows.length := by
      have : decide ((sureL sh e).length = sh.rows.length) = false := by simpa using h2
      simpa using this
    obtain ⟨n, nb, hN, rfl | ⟨rfl, rfl⟩⟩ := least_two (pNeed sh k) sh.errs
    · rw [hN] at h1
      exact .inr (.inl ⟨n, hG, hN, by simpa using h1, h6⟩)
    · rw [hN] at h1
      exact .inr (.inr ⟨hG, hN, by simpa using h1, h6⟩)

set_option maxRecDepth 20000 in
theorem w_RoundEnough_no (sh : Sh) (pt : Pt) (gd : Int) (row : Int) (w : World) (hre : Ro w 0 w.heap.size pt.ea sh.errs.length pt.ec 1 (ints sh.errs)) (hrr : Ro w 0 w.heap.size pt.ra sh.rows.length pt.rc 1 (ints sh.rows)) (ho : okG sh gd = false) (hg : Gl w) : Calls Tryz.prog 8 #[shV sh pt, (.int .i64 gd), (.int .i64 row)] w (RetV w (.bool true)) := by
  refine calls_T0 (av := [_, _, _]) Tryz.func8 rfl rfl rfl ?_
  refine t_seq ?_
  refine t_reg ?_
  refine to_box rfl rfl (fun b3 => ?_)
  refine to_as rfl rfl ?_
  refine to_nil ?_
  refine tn_code ?_
  refine t_seq ?_
  refine t_seq ?_
  refine t_reg ?_
  first | refine to_lda rfl rfl rfl ?_ | refine to_ldea rfl (by assumption) rfl rfl ?_
  refine to_mv rfl rfl ?_
  refine to_call0 rfl rfl (fun w s => law_right sh pt _ w (rdw s) (rdw s)) rfl ?_
  refine to_fix (s := 15) (b' := false) rfl (ho) ?_
  refine to_not rfl rfl ?_
  refine to_mv rfl rfl ?_
  refine to_gf rfl rfl rfl rfl ?_
  refine to_gf rfl rfl rfl rfl ?_
  refine to_gf rfl rfl rfl rfl ?_
  refine to_gf rfl rfl rfl rfl ?_
  refine to_pkT rfl rfl rfl ?_
  refine to_nil ?_
  refine tn_code ?_
  refine t_ifT rfl ?_
  refine t_seq ?_
  refine t_reg ?_
  refine to_call0 rfl rfl (fun w s => law_known w (gl_up hg (belowH_of s))) rfl ?_
  refine to_as rfl rfl ?_
  refine to_nil ?_
  refine tn_code ?_
  refine t_ret1 rfl rfl (res_tmp rfl) (fun w' s => ?_)
  rfl

set_option maxRecDepth 20000 in
theorem w_RoundEnough_rN (sh : Sh) (pt : Pt) (gd : Int) (row : Int) (w : World) (hre : Ro w 0 w.heap.size pt.ea sh.errs.length pt.ec 1 (ints sh.errs)) (hrr : Ro w 0 w.heap.size pt.ra sh.rows.length pt.rc 1 (ints sh.rows)) (hs : isSh sh = true) (k : Nat) (e : Int) (hgk : gd = (k : Int)) (he : sh.errs[k]? = some e) (hrn : inB row 0 (sh.rows.length - 1) = false) (hg : Gl w) : Calls Tryz.prog 8 #[shV sh pt, (.int .i64 gd), (.int .i64 row)] w (RetV w (.bool true)) := by
  subst hgk
  have heb := errs_b (isSh_e hs) e (List.mem_of_getElem? he)
  have hbb := isSh_b hs
  have hxe := map_get (f := intC) he
  have hke := (List.getElem?_eq_some_iff.1 he).1
  have hok := okG_t hs he
  refine calls_T0 (av := [_, _, _]) Tryz.func8 rfl rfl rfl ?_
  refine t_seq ?_
  refine t_reg ?_
  refine to_box rfl rfl (fun b3 => ?_)
  refine to_as rfl rfl ?_
  refine to_nil ?_
  refine tn_code ?_
  refine t_seq ?_
  refine t_seq ?_
  refine t_reg ?_
  first | refine to_lda rfl rfl rfl ?_ | refine to_ldea rfl (by assumption) rfl rfl ?_
  refine to_mv rfl rfl ?_
  refine to_call0 rfl rfl (fun w s => law_right sh pt _ w (rdw s) (rdw s)) rfl ?_
  refine to_fix (s := 15) (b' := true) rfl (hok) ?_
  refine to_not rfl rfl ?_
  refine to_mv rfl rfl ?_
  refine to_gt rfl rfl ?_
  first | refine to_lda rfl rfl rfl ?_ | refine to_ldea rfl (by assumption) rfl rfl ?_
  refine to_gt rfl rfl ?_
  refine to_mv rfl rfl ?_
  refine to_gt rfl rfl ?_
  refine to_call0 rfl rfl (fun w s => ref_Row sh pt _ w (by omega)) rfl ?_
  refine to_fix (s := 20) (b' := false) rfl (hrn) ?_
  refine to_gt rfl rfl ?_
  refine to_not rfl rfl ?_
  refine to_pkF rfl rfl rfl ?_
  refine to_nil ?_
  refine tn_code ?_
  refine t_ifT rfl ?_
  refine t_seq ?_
  refine t_reg ?_
  refine to_call0 rfl rfl (fun w s => law_known w (gl_up hg (belowH_of s))) rfl ?_
  refine to_as rfl rfl ?_
  refine to_nil ?_
  refine tn_code ?_
  refine t_ret1 rfl rfl (res_tmp rfl) (fun w' s => ?_)
  rfl

set_option maxRecDepth 20000 in
theorem w_RoundEnough_tt (sh : Sh) (pt : Pt) (gd : Int) (row : Int) (w : World) (hre : Ro w 0 w.heap.size pt.ea sh.errs.length pt.ec 1 (ints sh.errs)) (hrr : Ro w 0 w.heap.size pt.ra sh.rows.length pt.rc 1 (ints sh.rows)) (hs : isSh sh = true) (k : Nat) (e : Int) (hgk : gd = (k : Int)) (he : sh.errs[k]? = some e) (i : Nat) (r : Int) (hri : row = (i : Int)) (hr : sh.rows[i]? = some r) (m n : Int) (hG : leastP (pGuards sh) sh.errs = (m, 0)) (hN : leastP (pNeed sh i) sh.errs = (n, 0)) (hnm : n ≤ m) (hL : (sureL sh e).contains (i : Int) = decide (n ≤ k)) (hA : decide ((sureL sh e).length = sh.rows.length) = decide (m ≤ k)) (hg : Gl w) : Calls Tryz.prog 8 #[shV sh pt, (.int .i64 gd), (.int .i64 row)] w (RetV w (.bool true)) := by
  subst hgk
  have heb := errs_b (isSh_e hs) e (List.mem_of_getElem? he)
  have hbb := isSh_b hs
  have hxe := map_get (f := intC) he
  have hke := (List.getElem?_eq_some_iff.1 he).1
  have hok := okG_t hs he
  subst hri
  have hrt := row_ok hr
  have hrb := isSh_r hs (List.mem_of_getElem? hr)
  have hxr := map_get (f := intC) hr
  have hir := (List.getElem?_eq_some_iff.1 hr).1
  have hG2 := (guards_t hs).trans hG
  have hN2 := (need_t hs hrt).trans hN
  refine calls_T0 (av := [_, _, _]) Tryz.func8 rfl rfl rfl ?_
  refine t_seq ?_
  refine t_reg ?_
  refine to_box rfl rfl (fun b3 => ?_)
  refine to_as rfl rfl ?_
  refine to_nil ?_
  refine tn_code ?_
  refine t_seq ?_
  refine t_seq ?_
  refine t_reg ?_
  first | refine to_lda rfl rfl rfl ?_ | refine to_ldea rfl (by assumption) rfl rfl ?_
  refine to_mv rfl rfl ?_
  refine to_call0 rfl rfl (fun w s => law_right sh pt _ w (rdw s) (rdw s)) rfl ?_
  refine to_fix (s := 15) (b' := true) rfl (hok) ?_
  refine to_not rfl rfl ?_
  refine to_mv rfl rfl ?_
  refine to_gt rfl rfl ?_
  first | refine to_lda rfl rfl rfl ?_ | refine to_ldea rfl (by assumption) rfl rfl ?_
  refine to_gt rfl rfl ?_
  refine to_mv rfl rfl ?_
  refine to_gt rfl rfl ?_
  refine to_call0 rfl rfl (fun w s => ref_Row sh pt _ w (by omega)) rfl ?_
  refine to_fix (s := 20) (b' := true) rfl (hrt) ?_
  refine to_gt rfl rfl ?_
  refine to_not rfl rfl ?_
  refine to_pkF rfl rfl rfl ?_
  refine to_nil ?_
  refine tn_code ?_
  refine t_ifF rfl ?_
  refine t_skip ?_
  refine tn_code ?_
  refine t_seq ?_
  refine t_reg ?_
  first | refine to_lda rfl rfl rfl ?_ | refine to_ldea rfl (by assumption) rfl rfl ?_
  refine to_mv rfl rfl ?_
  refine to_callR rfl rfl (fun w s => r_Sure_t sh pt k e w (rdw s) (rdw s) hs he) rfl (fun v27 lo27 w27 hlo27 hR27 => ?_)
  obtain ⟨pa27, pc27, rfl, hro27⟩ := hR27
  refine to_mv rfl rfl ?_
  refine to_ex rfl rfl rfl ?_
  refine to_ex rfl rfl rfl ?_
  refine to_as rfl rfl ?_
  refine to_as rfl rfl ?_
  refine to_nil ?_
  refine tn_code ?_
  refine t_seq ?_
  refine t_reg ?_
  first | refine to_lda rfl rfl rfl ?_ | refine to_ldea rfl (by assumption) rfl rfl ?_
  refine to_mv rfl rfl ?_
  refine to_call0 rfl rfl (fun w s => c_Need pt w (rdw s) (rdw s) (by omega) hN2) rfl ?_
  refine to_mv rfl rfl ?_
  refine to_ex rfl rfl rfl ?_
  refine to_ex rfl rfl rfl ?_
  refine to_as rfl rfl ?_
  refine to_as rfl rfl ?_
  refine to_nil ?_
  refine tn_code ?_
  refine t_seq ?_
  refine t_reg ?_
  first | refine to_lda rfl rfl rfl ?_ | refine to_ldea rfl (by assumption) rfl rfl ?_
  refine to_call0 rfl rfl (fun w s => c_Guards pt w (rdw s) (rdw s) hG2) rfl ?_
  refine to_mv rfl rfl ?_
  refine to_ex rfl rfl rfl ?_
  refine to_ex rfl rfl rfl ?_
  refine to_as rfl rfl ?_
  refine to_as rfl rfl ?_
  refine to_nil ?_
  refine tn_code ?_
  refine t_seq ?_
  refine t_seq ?_
  refine t_reg ?_
  refine to_mv rfl rfl ?_
  refine to_neq rfl rfl rfl ?_
  refine to_fix (s := 42) (b' := false) rfl (rfl) ?_
  refine to_mv rfl rfl ?_
  refine to_gt rfl rfl ?_
  refine to_mv rfl rfl ?_
  refine to_gt rfl rfl ?_
  refine to_neq rfl rfl rfl ?_
  refine to_fix (s := 45) (b' := false) rfl (rfl) ?_
  refine to_gt rfl rfl ?_
  refine to_mv rfl rfl ?_
  refine to_gf rfl rfl rfl rfl ?_
  refine to_gf rfl rfl rfl rfl ?_
  refine to_gt rfl rfl ?_
  refine to_pkF rfl rfl rfl ?_
  refine to_pkF rfl rfl rfl ?_
  refine to_mv rfl rfl ?_
  refine to_gt rfl rfl ?_
  refine to_mv rfl rfl ?_
  refine to_gt rfl rfl ?_
  refine to_neq rfl rfl rfl ?_
  refine to_fix (s := 53) (b' := false) rfl (rfl) ?_
  refine to_gt rfl rfl ?_
  refine to_mv rfl rfl ?_
  refine to_gf rfl rfl rfl rfl ?_
  refine to_gf rfl rfl rfl rfl ?_
  refine to_gt rfl rfl ?_
  refine to_pkF rfl rfl rfl ?_
  refine to_pkF rfl rfl rfl ?_
  refine to_mv rfl rfl ?_
  refine to_gt rfl rfl ?_
  refine to_mv rfl rfl ?_
  refine to_gt rfl rfl ?_
  refine to_lenS rfl rfl ?_
  refine to_gt rfl rfl ?_
  first | refine to_fa rfl rfl rfl (by simp only [Nat.reduceAdd]; rfl) rfl ?_ | refine to_fae rfl rfl rfl (by simp only [Nat.reduceAdd]; rfl) rfl ?_
  refine to_gt rfl rfl ?_
  first | refine to_lds rfl rfl rfl ?_ | refine to_ldes rfl (by assumption) rfl rfl ?_
  refine to_gt rfl rfl ?_
  refine to_lenS rfl rfl ?_
  refine to_gt rfl rfl ?_
  refine to_gtr rfl rfl rfl ?_
  refine to_fix (s := 65) (b' := false) rfl (decide_eq_false (by have h9 := sureK_len sh e sh.rows.length; simp only [sureL]; omega)) ?_
  refine to_pkF rfl rfl rfl ?_
  refine to_mv rfl rfl ?_
  refine to_gt rfl rfl ?_
  refine to_mv rfl rfl ?_
  refine to_gt rfl rfl ?_
  refine to_eql rfl rfl rfl ?_
  refine to_fix (s := 69) (b' := true) rfl (rfl) ?_
  refine to_gt rfl rfl ?_
  refine to_mv rfl rfl ?_
  refine to_gt rfl rfl ?_
  refine to_mv rfl rfl ?_
  refine to_gt rfl rfl ?_
  refine to_neq rfl rfl rfl ?_
  refine to_fix (s := 72) (b' := false) rfl (rfl) ?_
  refine to_gt rfl rfl ?_
  refine to_mv rfl rfl ?_
  refine to_gt rfl rfl ?_
  refine to_mv rfl rfl ?_
  refine to_gt rfl rfl ?_
  refine to_mv rfl rfl ?_
  refine to_gt rfl rfl ?_
  refine to_lss rfl rfl rfl ?_
  refine to_fix (s := 76) (b' := false) rfl (decide_eq_false (by omega)) ?_
  refine to_gt rfl rfl ?_
  refine to_pkF rfl rfl rfl ?_
  refine to_gt rfl rfl ?_
  refine to_pkT rfl rfl rfl ?_
  refine to_pkF rfl rfl rfl ?_
  refine to_nil ?_
  refine tn_code ?_
  refine t_ifF rfl ?_
  refine t_skip ?_
  refine tn_code ?_
  refine t_seq ?_
  refine t_reg ?_
  refine to_mv rfl rfl ?_
  refine to_mv rfl rfl ?_
  refine to_call0 rfl rfl (fun w s => ref_Listed (sureL sh e) _ _ _ w (rdw s) (by have h9 := sureK_len sh e sh.rows.length; simp only [sureL]; omega)) rfl ?_
  refine to_mv rfl rfl ?_
  refine to_eql rfl rfl rfl ?_
  refine to_fix (s := 84) (b' := true) rfl (rfl) ?_
  refine to_mv rfl rfl ?_
  refine to_gt rfl rfl ?_
  refine to_mv rfl rfl ?_
  refine to_gt rfl rfl ?_
  refine to_mv rfl rfl ?_
  refine to_gt rfl rfl ?_
  refine to_geq rfl rfl rfl ?_
  refine to_pkT rfl rfl rfl ?_
  refine to_beq rfl rfl (by kernel_rfl) rfl ?_
  refine to_fix (s := 90) (b' := true) rfl (by rw [hL]; simp) ?_
  refine to_mv rfl rfl ?_
  refine to_gt rfl rfl ?_
  refine to_mv rfl rfl ?_
  refine to_gt rfl rfl ?_
  refine to_lenS rfl rfl ?_
  refine to_gt rfl rfl ?_
  first | refine to_fa rfl rfl rfl (by simp only [Nat.reduceAdd]; rfl) rfl ?_ | refine to_fae rfl rfl rfl (by simp only [Nat.reduceAdd]; rfl) rfl ?_
  refine to_gt rfl rfl ?_
  first | refine to_lds rfl rfl rfl ?_ | refine to_ldes rfl (by assumption) rfl rfl ?_
  refine to_gt rfl rfl ?_
  refine to_lenS rfl rfl ?_
  refine to_gt rfl rfl ?_
  refine to_eql rfl rfl rfl ?_
  refine to_gt rfl rfl ?_
  refine to_mv rfl rfl ?_
  refine to_gt rfl rfl ?_
  refine to_eql rfl rfl rfl ?_
  refine to_fix (s := 99) (b' := true) rfl (rfl) ?_
  refine to_gt rfl rfl ?_
  refine to_mv rfl rfl ?_
  refine to_gt rfl rfl ?_
  refine to_mv rfl rfl ?_
  refine to_gt rfl rfl ?_
  refine to_mv rfl rfl ?_
  refine to_gt rfl rfl ?_
  refine to_geq rfl rfl rfl ?_
  refine to_gt rfl rfl ?_
  refine to_pkT rfl rfl rfl ?_
  refine to_gt rfl rfl ?_
  refine to_beq rfl rfl (by kernel_rfl) rfl ?_
  refine to_fix (s := 105) (b' := true) rfl (by have h9 : decide (((sureL sh e).length : Int) = (sh.rows.length : Int)) = decide ((sureL sh e).length = sh.rows.length) := decide_eq_decide.2 (by omega); rw [h9, hA]; simp) ?_
  refine to_pkT rfl rfl rfl ?_
  refine to_mv rfl rfl ?_
  refine to_gt rfl rfl ?_
  refine to_call0 rfl rfl (fun w s => law_known w (gl_up hg (belowH_of s))) rfl ?_
  refine to_pkT rfl rfl rfl ?_
  refine to_as rfl rfl ?_
  refine to_nil ?_
  refine tn_code ?_
  refine t_ret1 rfl rfl (res_tmp rfl) (fun w' s => ?_)
  rfl

set_option maxRecDepth 20000 in
theorem w_RoundEnough_ft (sh : Sh) (pt : Pt) (gd : Int) (row : Int) (w : World) (hre : Ro w 0 w.heap.size pt.ea sh.errs.length pt.ec 1 (ints sh.errs)) (hrr : Ro w 0 w.heap.size pt.ra sh.rows.length pt.rc 1 (ints sh.rows)) (hs : isSh sh = true) (k : Nat) (e : Int) (hgk : gd = (k : Int)) (he : sh.errs[k]? = some e) (i : Nat) (r : Int) (hri : row = (i : Int)) (hr : sh.rows[i]? = some r) (n : Int) (hG : leastP (pGuards sh) sh.errs = (0, 5)) (hN : leastP (pNeed sh i) sh.errs = (n, 0)) (hL : (sureL sh e).contains (i : Int) = decide (n ≤ k)) (hA : ¬ (sureL sh e).length = sh.rows.length) (hg : Gl w) : Calls Tryz.prog 8 #[shV sh pt, (.int .i64 gd), (.int .i64 row)] w (RetV w (.bool true)) := by
  subst hgk
  have heb := errs_b (isSh_e hs) e (List.mem_of_getElem? he)
  have hbb := isSh_b hs
  have hxe := map_get (f := intC) he
  have hke := (List.getElem?_eq_some_iff.1 he).1
  have hok := okG_t hs he
  subst hri
  have hrt := row_ok hr
  have hrb := isSh_r hs (List.mem_of_getElem? hr)
  have hxr := map_get (f := intC) hr
  have hir := (List.getElem?_eq_some_iff.1 hr).1
  have hG2 := (guards_t hs).trans hG
  have hN2 := (need_t hs hrt).trans hN
  refine calls_T0 (av := [_, _, _]) Tryz.func8 rfl rfl rfl ?_
  refine t_seq ?_
  refine t_reg ?_
  refine to_box rfl rfl (fun b3 => ?_)
  refine to_as rfl rfl ?_
  refine to_nil ?_
  refine tn_code ?_
  refine t_seq ?_
  refine t_seq ?_
  refine t_reg ?_
  first | refine to_lda rfl rfl rfl ?_ | refine to_ldea rfl (by assumption) rfl rfl ?_
  refine to_mv rfl rfl ?_
  refine to_call0 rfl rfl (fun w s => law_right sh pt _ w (rdw s) (rdw s)) rfl ?_
  refine to_fix (s := 15) (b' := true) rfl (hok) ?_
  refine to_not rfl rfl ?_
  refine to_mv rfl rfl ?_
  refine to_gt rfl rfl ?_
  first | refine to_lda rfl rfl rfl ?_ | refine to_ldea rfl (by assumption) rfl rfl ?_
  refine to_gt rfl rfl ?_
  refine to_mv rfl rfl ?_
  refine to_gt rfl rfl ?_
  refine to_call0 rfl rfl (fun w s => ref_Row sh pt _ w (by omega)) rfl ?_
  refine to_fix (s := 20) (b' := true) rfl (hrt) ?_
  refine to_gt rfl rfl ?_
  refine to_not rfl rfl ?_
  refine to_pkF rfl rfl rfl ?_
  refine to_nil ?_
  refine tn_code ?_
  refine t_ifF rfl ?_
  refine t_skip ?_
  refine tn_code ?_
  refine t_seq ?_
  refine t_reg ?_
  first | refine to_lda rfl rfl rfl ?_ | refine to_ldea rfl (by assumption) rfl rfl ?_
  refine to_mv rfl rfl ?_
  refine to_callR rfl rfl (fun w s => r_Sure_t sh pt k e w (rdw s) (rdw s) hs he) rfl (fun v27 lo27 w27 hlo27 hR27 => ?_)
  obtain ⟨pa27, pc27, rfl, hro27⟩ := hR27
  refine to_mv rfl rfl ?_
  refine to_ex rfl rfl rfl ?_
  refine to_ex rfl rfl rfl ?_
  refine to_as rfl rfl ?_
  refine to_as rfl rfl ?_
  refine to_nil ?_
  refine tn_code ?_
  refine t_seq ?_
  refine t_reg ?_
  first | refine to_lda rfl rfl rfl ?_ | refine to_ldea rfl (by assumption) rfl rfl ?_
  refine to_mv rfl rfl ?_
  refine to_call0 rfl rfl (fun w s => c_Need pt w (rdw s) (rdw s) (by omega) hN2) rfl ?_
  refine to_mv rfl rfl ?_
  refine to_ex rfl rfl rfl ?_
  refine to_ex rfl rfl rfl ?_
  refine to_as rfl rfl ?_
  refine to_as rfl rfl ?_
  refine to_nil ?_
  refine tn_code ?_
  refine t_seq ?_
  refine t_reg ?_
  first | refine to_lda rfl rfl rfl ?_ | refine to_ldea rfl (by assumption) rfl rfl ?_
  refine to_call0 rfl rfl (fun w s => c_Guards pt w (rdw s) (rdw s) hG2) rfl ?_
  refine to_mv rfl rfl ?_
  refine to_ex rfl rfl rfl ?_
  refine to_ex rfl rfl rfl ?_
  refine to_as rfl rfl ?_
  refine to_as rfl rfl ?_
  refine to_nil ?_
  refine tn_code ?_
  refine t_seq ?_
  refine t_seq ?_
  refine t_reg ?_
  refine to_mv rfl rfl ?_
  refine to_neq rfl rfl rfl ?_
  refine to_fix (s := 42) (b' := false) rfl (rfl) ?_
  refine to_mv rfl rfl ?_
  refine to_gt rfl rfl ?_
  refine to_mv rfl rfl ?_
  refine to_gt rfl rfl ?_
  refine to_neq rfl rfl rfl ?_
  refine to_fix (s := 45) (b' := false) rfl (rfl) ?_
  refine to_gt rfl rfl ?_
  refine to_mv rfl rfl ?_
  refine to_gf rfl rfl rfl rfl ?_
  refine to_gf rfl rfl rfl rfl ?_
  refine to_gt rfl rfl ?_
  refine to_pkF rfl rfl rfl ?_
  refine to_pkF rfl rfl rfl ?_
  refine to_mv rfl rfl ?_
  refine to_gt rfl rfl ?_
  refine to_mv rfl rfl ?_
  refine to_gt rfl rfl ?_
  refine to_neq rfl rfl rfl ?_
  refine to_fix (s := 53) (b' := true) rfl (rfl) ?_
  refine to_gt rfl rfl ?_
  refine to_mv rfl rfl ?_
  refine to_gt rfl rfl ?_
  refine to_mv rfl rfl ?_
  refine to_gt rfl rfl ?_
  refine to_neq rfl rfl rfl ?_
  refine to_fix (s := 56) (b' := false) rfl (rfl) ?_
  refine to_gt rfl rfl ?_
  refine to_pkT rfl rfl rfl ?_
  refine to_pkF rfl rfl rfl ?_
  refine to_mv rfl rfl ?_
  refine to_gt rfl rfl ?_
  refine to_mv rfl rfl ?_
  refine to_gt rfl rfl ?_
  refine to_lenS rfl rfl ?_
  refine to_gt rfl rfl ?_
  first | refine to_fa rfl rfl rfl (by simp only [Nat.reduceAdd]; rfl) rfl ?_ | refine to_fae rfl rfl rfl (by simp only [Nat.reduceAdd]; rfl) rfl ?_
  refine to_gt rfl rfl ?_
  first | refine to_lds rfl rfl rfl ?_ | refine to_ldes rfl (by assumption) rfl rfl ?_
  refine to_gt rfl rfl ?_
  refine to_lenS rfl rfl ?_
  refine to_gt rfl rfl ?_
  refine to_gtr rfl rfl rfl ?_
  refine to_fix (s := 65) (b' := false) rfl (decide_eq_false (by have h9 := sureK_len sh e sh.rows.length; simp only [sureL]; omega)) ?_
  refine to_pkF rfl rfl rfl ?_
  refine to_mv rfl rfl ?_
  refine to_gt rfl rfl ?_
  refine to_mv rfl rfl ?_
  refine to_gt rfl rfl ?_
  refine to_eql rfl rfl rfl ?_
  refine to_fix (s := 69) (b' := false) rfl (rfl) ?_
  refine to_gt rfl rfl ?_
  refine to_mv rfl rfl ?_
  refine to_gf rfl rfl rfl rfl ?_
  refine to_gf rfl rfl rfl rfl ?_
  refine to_gf rfl rfl rfl rfl ?_
  refine to_gf rfl rfl rfl rfl ?_
  refine to_gf rfl rfl rfl rfl ?_
  refine to_gf rfl rfl rfl rfl ?_
  refine to_gf rfl rfl rfl rfl ?_
  refine to_gt rfl rfl ?_
  refine to_pkF rfl rfl rfl ?_
  refine to_pkF rfl rfl rfl ?_
  refine to_nil ?_
  refine tn_code ?_
  refine t_ifF rfl ?_
  refine t_skip ?_
  refine tn_code ?_
  refine t_seq ?_
  refine t_reg ?_
  refine to_mv rfl rfl ?_
  refine to_mv rfl rfl ?_
  refine to_call0 rfl rfl (fun w s => ref_Listed (sureL sh e) _ _ _ w (rdw s) (by have h9 := sureK_len sh e sh.rows.length; simp only [sureL]; omega)) rfl ?_
  refine to_mv rfl rfl ?_
  refine to_eql rfl rfl rfl ?_
  refine to_fix (s := 84) (b' := true) rfl (rfl) ?_
  refine to_mv rfl rfl ?_
  refine to_gt rfl rfl ?_
  refine to_mv rfl rfl ?_
  refine to_gt rfl rfl ?_
  refine to_mv rfl rfl ?_
  refine to_gt rfl rfl ?_
  refine to_geq rfl rfl rfl ?_
  refine to_pkT rfl rfl rfl ?_
  refine to_beq rfl rfl (by kernel_rfl) rfl ?_
  refine to_fix (s := 90) (b' := true) rfl (by rw [hL]; simp) ?_
  refine to_mv rfl rfl ?_
  refine to_gt rfl rfl ?_
  refine to_mv rfl rfl ?_
  refine to_gt rfl rfl ?_
  refine to_lenS rfl rfl ?_
  refine to_gt rfl rfl ?_
  first | refine to_fa rfl rfl rfl (by simp only [Nat.reduceAdd]; rfl) rfl ?_ | refine to_fae rfl rfl rfl (by simp only [Nat.reduceAdd]; rfl) rfl ?_
  refine to_gt rfl rfl ?_
  first | refine to_lds rfl rfl rfl ?_ | refine to_ldes rfl (by assumption) rfl rfl ?_
  refine to_gt rfl rfl ?_
  refine to_lenS rfl rfl ?_
  refine to_gt rfl rfl ?_
  refine to_eql rfl rfl rfl ?_
  refine to_gt rfl rfl ?_
  refine to_mv rfl rfl ?_
  refine to_gt rfl rfl ?_
  refine to_eql rfl rfl rfl ?_
  refine to_fix (s := 99) (b' := false) rfl (rfl) ?_
  refine to_gt rfl rfl ?_
  refine to_mv rfl rfl ?_
  refine to_gf rfl rfl rfl rfl ?_
  refine to_gf rfl rfl rfl rfl ?_
  refine to_gf rfl rfl rfl rfl ?_
  refine to_gt rfl rfl ?_
  refine to_pkF rfl rfl rfl ?_
  refine to_gt rfl rfl ?_
  refine to_beq rfl rfl (by kernel_rfl) rfl ?_
  refine to_fix (s := 105) (b' := true) rfl (by have h9 : decide (((sureL sh e).length : Int) = (sh.rows.length : Int)) = false := decide_eq_false (by omega); rw [h9]; rfl) ?_
  refine to_pkT rfl rfl rfl ?_
  refine to_mv rfl rfl ?_
  refine to_gt rfl rfl ?_
  refine to_call0 rfl rfl (fun w s => law_known w (gl_up hg (belowH_of s))) rfl ?_
  refine to_pkT rfl rfl rfl ?_
  refine to_as rfl rfl ?_
  refine to_nil ?_
  refine tn_code ?_
  refine t_ret1 rfl rfl (res_tmp rfl) (fun w' s => ?_)
  rfl

set_option maxRecDepth 20000 in
theorem w_RoundEnough_ff (sh : Sh) (pt : Pt) (gd : Int) (row : Int) (w : World) (hre : Ro w 0 w.heap.size pt.ea sh.errs.length pt.ec 1 (ints sh.errs)) (hrr : Ro w 0 w.heap.size pt.ra sh.rows.length pt.rc 1 (ints sh.rows)) (hs : isSh sh = true) (k : Nat) (e : Int) (hgk : gd = (k : Int)) (he : sh.errs[k]? = some e) (i : Nat) (r : Int) (hri : row = (i : Int)) (hr : sh.rows[i]? = some r) (hG : leastP (pGuards sh) sh.errs = (0, 5)) (hN : leastP (pNeed sh i) sh.errs = (0, 5)) (hL : (sureL sh e).contains (i : Int) = false) (hA : ¬ (sureL sh e).length = sh.rows.length) (hg : Gl w) : Calls Tryz.prog 8 #[shV sh pt, (.int .i64 gd), (.int .i64 row)] w (RetV w (.bool true)) := by
  subst hgk
  have heb := errs_b (isSh_e hs) e (List.mem_of_getElem? he)
  have hbb := isSh_b hs
  have hxe := map_get (f := intC) he
  have hke := (List.getElem?_eq_some_iff.1 he).1
  have hok := okG_t hs he
  subst hri
  have hrt := row_ok hr
  have hrb := isSh_r hs (List.mem_of_getElem? hr)
  have hxr := map_get (f := intC) hr
  have hir := (List.getElem?_eq_some_iff.1 hr).1
  have hG2 := (guards_t hs).trans hG
  have hN2 := (need_t hs hrt).trans hN
  refine calls_T0 (av := [_, _, _]) Tryz.func8 rfl rfl rfl ?_
  refine t_seq ?_
  refine t_reg ?_
  refine to_box rfl rfl (fun b3 => ?_)
  refine to_as rfl rfl ?_
  refine to_nil ?_
  refine tn_code ?_
  refine t_seq ?_
  refine t_seq ?_
  refine t_reg ?_
  first | refine to_lda rfl rfl rfl ?_ | refine to_ldea rfl (by assumption) rfl rfl ?_
  refine to_mv rfl rfl ?_
  refine to_call0 rfl rfl (fun w s => law_right sh pt _ w (rdw s) (rdw s)) rfl ?_
  refine to_fix (s := 15) (b' := true) rfl (hok) ?_
  refine to_not rfl rfl ?_
  refine to_mv rfl rfl ?_
  refine to_gt rfl rfl ?_
  first | refine to_lda rfl rfl rfl ?_ | refine to_ldea rfl (by assumption) rfl rfl ?_
  refine to_gt rfl rfl ?_
  refine to_mv rfl rfl ?_
  refine to_gt rfl rfl ?_
  refine to_call0 rfl rfl (fun w s => ref_Row sh pt _ w (by omega)) rfl ?_
  refine to_fix (s := 20) (b' := true) rfl (hrt) ?_
  refine to_gt rfl rfl ?_
  refine to_not rfl rfl ?_
  refine to_pkF rfl rfl rfl ?_
  refine to_nil ?_
  refine tn_code ?_
  refine t_ifF rfl ?_
  refine t_skip ?_
  refine tn_code ?_
  refine t_seq ?_
  refine t_reg ?_
  first | refine to_lda rfl rfl rfl ?_ | refine to_ldea rfl (by assumption) rfl rfl ?_
  refine to_mv rfl rfl ?_
  refine to_callR rfl rfl (fun w s => r_Sure_t sh pt k e w (rdw s) (rdw s) hs he) rfl (fun v27 lo27 w27 hlo27 hR27 => ?_)
  obtain ⟨pa27, pc27, rfl, hro27⟩ := hR27
  refine to_mv rfl rfl ?_
  refine to_ex rfl rfl rfl ?_
  refine to_ex rfl rfl rfl ?_
  refine to_as rfl rfl ?_
  refine to_as rfl rfl ?_
  refine to_nil ?_
  refine tn_code ?_
  refine t_seq ?_
  refine t_reg ?_
  first | refine to_lda rfl rfl rfl ?_ | refine to_ldea rfl (by assumption) rfl rfl ?_
  refine to_mv rfl rfl ?_
  refine to_call0 rfl rfl (fun w s => c_Need pt w (rdw s) (rdw s) (by omega) hN2) rfl ?_
  refine to_mv rfl rfl ?_
  refine to_ex rfl rfl rfl ?_
  refine to_ex rfl rfl rfl ?_
  refine to_as rfl rfl ?_
  refine to_as rfl rfl ?_
  refine to_nil ?_
  refine tn_code ?_
  refine t_seq ?_
  refine t_reg ?_
  first | refine to_lda rfl rfl rfl ?_ | refine to_ldea rfl (by assumption) rfl rfl ?_
  refine to_call0 rfl rfl (fun w s => c_Guards pt w (rdw s) (rdw s) hG2) rfl ?_
  refine to_mv rfl rfl ?_
  refine to_ex rfl rfl rfl ?_
  refine to_ex rfl rfl rfl ?_
  refine to_as rfl rfl ?_
  refine to_as rfl rfl ?_
  refine to_nil ?_
  refine tn_code ?_
  refine t_seq ?_
  refine t_seq ?_
  refine t_reg ?_
  refine to_mv rfl rfl ?_
  refine to_neq rfl rfl rfl ?_
  refine to_fix (s := 42) (b' := false) rfl (rfl) ?_
  refine to_mv rfl rfl ?_
  refine to_gt rfl rfl ?_
  refine to_mv rfl rfl ?_
  refine to_gt rfl rfl ?_
  refine to_neq rfl rfl rfl ?_
  refine to_fix (s := 45) (b' := true) rfl (rfl) ?_
  refine to_gt rfl rfl ?_
  refine to_mv rfl rfl ?_
  refine to_gt rfl rfl ?_
  refine to_mv rfl rfl ?_
  refine to_gt rfl rfl ?_
  refine to_neq rfl rfl rfl ?_
  refine to_fix (s := 48) (b' := false) rfl (rfl) ?_
  refine to_gt rfl rfl ?_
  refine to_pkT rfl rfl rfl ?_
  refine to_pkF rfl rfl rfl ?_
  refine to_mv rfl rfl ?_
  refine to_gt rfl rfl ?_
  refine to_mv rfl rfl ?_
  refine to_gt rfl rfl ?_
  refine to_neq rfl rfl rfl ?_
  refine to_fix (s := 53) (b' := true) rfl (rfl) ?_
  refine to_gt rfl rfl ?_
  refine to_mv rfl rfl ?_
  refine to_gt rfl rfl ?_
  refine to_mv rfl rfl ?_
  refine to_gt rfl rfl ?_
  refine to_neq rfl rfl rfl ?_
  refine to_fix (s := 56) (b' := false) rfl (rfl) ?_
  refine to_gt rfl rfl ?_
  refine to_pkT rfl rfl rfl ?_
  refine to_pkF rfl rfl rfl ?_
  refine to_mv rfl rfl ?_
  refine to_gt rfl rfl ?_
  refine to_mv rfl rfl ?_
  refine to_gt rfl rfl ?_
  refine to_lenS rfl rfl ?_
  refine to_gt rfl rfl ?_
  first | refine to_fa rfl rfl rfl (by simp only [Nat.reduceAdd]; rfl) rfl ?_ | refine to_fae rfl rfl rfl (by simp only [Nat.reduceAdd]; rfl) rfl ?_
  refine to_gt rfl rfl ?_
  first | refine to_lds rfl rfl rfl ?_ | refine to_ldes rfl (by assumption) rfl rfl ?_
  refine to_gt rfl rfl ?_
  refine to_lenS rfl rfl ?_
  refine to_gt rfl rfl ?_
  refine to_gtr rfl rfl rfl ?_
  refine to_fix (s := 65) (b' := false) rfl (decide_eq_false (by have h9 := sureK_len sh e sh.rows.length; simp only [sureL]; omega)) ?_
  refine to_pkF rfl rfl rfl ?_
  refine to_mv rfl rfl ?_
  refine to_gt rfl rfl ?_
  refine to_mv rfl rfl ?_
  refine to_gt rfl rfl ?_
  refine to_eql rfl rfl rfl ?_
  refine to_fix (s := 69) (b' := false) rfl (rfl) ?_
  refine to_gt rfl rfl ?_
  refine to_mv rfl rfl ?_
  refine to_gf rfl rfl rfl rfl ?_
  refine to_gf rfl rfl rfl rfl ?_
  refine to_gf rfl rfl rfl rfl ?_
  refine to_gf rfl rfl rfl rfl ?_
  refine to_gf rfl rfl rfl rfl ?_
  refine to_gf rfl rfl rfl rfl ?_
  refine to_gf rfl rfl rfl rfl ?_
  refine to_gt rfl rfl ?_
  refine to_pkF rfl rfl rfl ?_
  refine to_pkF rfl rfl rfl ?_
  refine to_nil ?_
  refine tn_code ?_
  refine t_ifF rfl ?_
  refine t_skip ?_
  refine tn_code ?_
  refine t_seq ?_
  refine t_reg ?_
  refine to_mv rfl rfl ?_
  refine to_mv rfl rfl ?_
  refine to_call0 rfl rfl (fun w s => ref_Listed (sureL sh e) _ _ _ w (rdw s) (by have h9 := sureK_len sh e sh.rows.length; simp only [sureL]; omega)) rfl ?_
  refine to_mv rfl rfl ?_
  refine to_eql rfl rfl rfl ?_
  refine to_fix (s := 84) (b' := false) rfl (rfl) ?_
  refine to_mv rfl rfl ?_
  refine to_gf rfl rfl rfl rfl ?_
  refine to_gf rfl rfl rfl rfl ?_
  refine to_gf rfl rfl rfl rfl ?_
  refine to_pkF rfl rfl rfl ?_
  refine to_beq rfl rfl (by kernel_rfl) rfl ?_
  refine to_fix (s := 90) (b' := true) rfl (by rw [hL]; rfl) ?_
  refine to_mv rfl rfl ?_
  refine to_gt rfl rfl ?_
  refine to_mv rfl rfl ?_
  refine to_gt rfl rfl ?_
  refine to_lenS rfl rfl ?_
  refine to_gt rfl rfl ?_
  first | refine to_fa rfl rfl rfl (by simp only [Nat.reduceAdd]; rfl) rfl ?_ | refine to_fae rfl rfl rfl (by simp only [Nat.reduceAdd]; rfl) rfl ?_
  refine to_gt rfl rfl ?_
  first | refine to_lds rfl rfl rfl ?_ | refine to_ldes rfl (by assumption) rfl rfl ?_
  refine to_gt rfl rfl ?_
  refine to_lenS rfl rfl ?_
  refine to_gt rfl rfl ?_
  refine to_eql rfl rfl rfl ?_
  refine to_gt rfl rfl ?_
  refine to_mv rfl rfl ?_
  refine to_gt rfl rfl ?_
  refine to_eql rfl rfl rfl ?_
  refine to_fix (s := 99) (b' := false) rfl (rfl) ?_
  refine to_gt rfl rfl ?_
  refine to_mv rfl rfl ?_
  refine to_gf rfl rfl rfl rfl ?_
  refine to_gf rfl rfl rfl rfl ?_
  refine to_gf rfl rfl rfl rfl ?_
  refine to_gt rfl rfl ?_
  refine to_pkF rfl rfl rfl ?_
  refine to_gt rfl rfl ?_
  refine to_beq rfl rfl (by kernel_rfl) rfl ?_
  refine to_fix (s := 105) (b' := true) rfl (by have h9 : decide (((sureL sh e).length : Int) = (sh.rows.length : Int)) = false := decide_eq_false (by omega); rw [h9]; rfl) ?_
  refine to_pkT rfl rfl rfl ?_
  refine to_mv rfl rfl ?_
  refine to_gt rfl rfl ?_
  refine to_call0 rfl rfl (fun w s => law_known w (gl_up hg (belowH_of s))) rfl ?_
  refine to_pkT rfl rfl rfl ?_
  refine to_as rfl rfl ?_
  refine to_nil ?_
  refine tn_code ?_
  refine t_ret1 rfl rfl (res_tmp rfl) (fun w' s => ?_)
  rfl

theorem w_RoundEnough (sh : Sh) (pt : Pt) (gd row : Int) (w : World) (hre : Ro w 0 w.heap.size pt.ea sh.errs.length pt.ec 1 (ints sh.errs)) (hrr : Ro w 0 w.heap.size pt.ra sh.rows.length pt.rc 1 (ints sh.rows)) (hg : Gl w) : Calls Tryz.prog 8 #[shV sh pt, .int .i64 gd, .int .i64 row] w (RetV w (.bool true)) := by
  rcases bool_tf (okG sh gd) with ho | ho
  · obtain ⟨hs, k, e, hk, he⟩ := okG_b ho
    rcases bool_tf (inB row 0 (sh.rows.length - 1)) with hrn | hrn
    · obtain ⟨i, r, hi, hr⟩ := row_ex hrn
      rcases enough_cases hs he hr with ⟨m, n, h1, h2, h3, h4, h5⟩ | ⟨n, h1, h2, h4, h5⟩ | ⟨h1, h2, h4, h5⟩
      · exact w_RoundEnough_tt sh pt gd row w hre hrr hs k e hk he i r hi hr m n h1 h2 h3 h4 h5 hg
      · exact w_RoundEnough_ft sh pt gd row w hre hrr hs k e hk he i r hi hr n h1 h2 h4 h5 hg
      · exact w_RoundEnough_ff sh pt gd row w hre hrr hs k e hk he i r hi hr h1 h2 h4 h5 hg
    · exact w_RoundEnough_rN sh pt gd row w hre hrr hs k e hk he hrn hg
  · exact w_RoundEnough_no sh pt gd row w hre hrr ho hg

end Go.Proofs


namespace Go.Proofs.YtebellbkmioadaaGreatDoor
open Go Go.Sx Go.RowKit Go.WideShapes Go.ChangeShapes

section
variable {H : Type} {enc : TypeId × Value → H}
set_option maxRecDepth 100000 in
theorem roundEnough_law (W : World) (base : Nat) (args : Array Value) (ds : List (DataW H)) (p : List MemPlace) (hval : ∀ (j : Nat) t v, Tryz.f8.params[j]? = some t → args[j]? = some v → Value.okWide Tryz.prog W .any base t v)
    (hA : DataW.TrodAll enc Tryz.prog W 0 (fun _ => true) true Tryz.f8.params.toList args.toList ds p) (hg : Gl W) : Calls Tryz.prog 8 args W (RetV W (.bool true)) := by
  obtain ⟨l⟩ := args
  rw [Tryz.params8] at hA hval
  obtain ⟨v0, l0, d0, e0, p0, q0, hl0, rfl, h0, hA0⟩ := trodAll_cons hA
  have hl0' : l = v0 :: l0 := hl0
  subst hl0'
  obtain ⟨v1, l1, d1, e1, p1, q1, hl1, rfl, h1, hA1⟩ := trodAll_cons hA0
  subst hl1
  obtain ⟨v2, l2, d2, e2, p2, q2, hl2, rfl, h2, hA2⟩ := trodAll_cons hA1
  subst hl2
  obtain rfl := trodAll_nil hA2
  obtain ⟨sh0, pt0, rfl, hre0, hrr0⟩ := open_sh (hval 0 33 v0 rfl rfl) h0
  obtain ⟨n1, rfl, _⟩ := open_i u3 (hval 1 3 v1 rfl rfl) h1
  obtain ⟨n2, rfl, _⟩ := open_i u3 (hval 2 3 v2 rfl rfl) h2
  exact w_RoundEnough sh0 pt0 n1 n2 W hre0 hrr0 hg
end

set_option maxRecDepth 100000 in
theorem roundEnough_lifted (os : Os) (started : os.Started) (H : Type) (enc : TypeId × Value → H) :
    ReturnsInHanded {} Tryz.checked os 8 .any (fun w args => (Rows.roundEnoughSpec.pre enc Tryz.prog Tryz.f8 [] false w args ∧ laidMetH Tryz.prog laidL w) ∧ sizedMet enc Tryz.prog Tryz.f8 (OpenSpec.ofChange Rows.roundEnoughSpec) false w args)
      (Rows.roundEnoughSpec.post enc Tryz.prog Tryz.f8 false true false false) :=
  law_lifted started (by kernel_rfl) Tryz.func8 rfl rfl (by kernel_rfl) (fun ds h => by
      match ds, h with
      | [_, _, _], _ => rfl)
    (ChangeSpec.witness_shaped (enc := enc) (C := Tryz.checked) (os := os) (X := fun w _ => laidMetH Tryz.prog laidL w) false (World.laidAll Tryz.prog os laidL) #[.agg #[.int .i64 0, .int .i64 0, .slice none 0 0, .slice none 0 0], .int .i64 0, .int .i64 0] 8 (World.laidAll_os _ _ _)
      (World.shaped_of_ZipB (by kernel_rfl) (by kernel_rfl)) (by kernel_rfl) (by kernel_rfl) (by kernel_rfl)
      (by rw [MakeChecks.laidMetH_plain _ _ _ (by kernel_rfl)]; exact laidMet_laidAll _ (by kernel_rfl) (by kernel_rfl)))
    (fun W base args ds p hval hA hg => roundEnough_law W base args ds p hval hA hg)

theorem roundEnough_holds : Rows.RoundEnoughSaid :=
  OpenClaim.holds_of_wide 8 Tryz.f8 rfl rfl rfl rfl rfl rfl rfl ⟨rfl, rfl, rfl, rfl, rfl⟩ rfl rfl rfl rfl rfl (by kernel_rfl) Tryz.func8 (by kernel_rfl)
    (of_decide_eq_true (by kernel_rfl)) (by unfold Func.isWrapper; first | (rw [if_pos (by decide +kernel)]; kernel_rfl) | (rw [if_neg (by decide +kernel)]; exact ⟨rfl, rfl⟩))
    (fun os started H enc _ => roundEnough_lifted os started H enc)

theorem roundEnough_card : Rows.RoundEnoughCardSaid :=
  Claim7.holds_tied_plain_at .later [] [.data, .data, .data, .data, .pinned] true (true, "96da020e9171284ac76ac3c82595ce7ceccbab9aed8a1f73712d8b3a4229c7e5") true
    roundEnough_holds (fun _ h => by cases h) (by kernel_rfl) (fun _ h => by cases h) roundEnough_row_tie rfl ⟨rfl, rfl⟩ (by kernel_rfl) rfl
    (fun f fn hf hfn => by
      obtain rfl : f = 8 := Option.some.inj ((show Tryz.prog.funcNamed "ephemerist/ephemeristlaw04.RoundEnough" = some 8 by kernel_rfl).symm.trans hf) |>.symm
      obtain rfl : fn = Tryz.f8 := (Option.some.inj (Tryz.func8.symm.trans hfn)).symm
      exact ⟨by kernel_rfl, fun j t ht => by
        rw [Tryz.params8] at ht
        have hm : t ∈ [33, 3, 3] := by simpa using Array.mem_of_getElem? ht
        have hall : ([33, 3, 3].all fun u => !Tryz.prog.wantsStandIn u) = true := by kernel_rfl
        exact (show Tryz.prog.wantsStandIn t = false by simpa using List.all_eq_true.1 hall t hm)⟩)
    (by kernel_rfl)
end Go.Proofs.YtebellbkmioadaaGreatDoor

