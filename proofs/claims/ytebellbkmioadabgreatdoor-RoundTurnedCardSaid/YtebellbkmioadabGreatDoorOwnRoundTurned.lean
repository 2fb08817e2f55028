/- RoundTurned: for every input the law returns true, and each argument reads behind the call as it read before. Conditions: the package-level variables that the row lists hold what the program's text lays (tied by the card). -/
import Derived.Test.YtebellbkmioadabGreatDoorOwnC
import Derived.Test.YtebellbkmioadabGreatDoorOwnE
import Derived.Test.YtebellbkmioadabGreatDoorOwnF
import Derived.LaidOnce
import Derived.SevenTiedAt
import Derived.Test.YtebellbkmioadabGreatDoorTie
import Derived.Test.YtebellbkmioadabGreatDoorCards
set_option linter.unusedVariables false
set_option linter.unusedSimpArgs false
namespace Go.Proofs
open Go Go.Sx

/-! # Plain laws of round: rounding -/

/-! ## Numbers behind a figure -/

/-! ## Lists that lie on a map from one place on -/

end Go.Proofs


namespace Go.Proofs
open Go Go.Sx

/-! # Plain laws of round: what is sure -/

theorem sureK_mem {sh : Sh} {e : Int} {i : Int} : ∀ k, i ∈ sureK sh e k ↔ ∃ (j : Nat) (r : Int), j < k ∧ i = j ∧ sh.rows[j]? = some r ∧ fig sh (r - e) = fig sh (r + e)
  | 0 => by simp [sureK]
  | k + 1 => by
    have ih := sureK_mem (sh := sh) (e := e) (i := i) k
    have key : (∃ (j : Nat) (r : Int), j < k + 1 ∧ i = j ∧ sh.rows[j]? = some r ∧ fig sh (r - e) = fig sh (r + e)) ↔ i ∈ sureK sh e k ∨ (i = k ∧ ∃ r, sh.rows[k]? = some r ∧ fig sh (r - e) = fig sh (r + e)) := by
      rw [ih]
      constructor
      · rintro ⟨j, r, h1, h2, h3, h4⟩
        by_cases hj : j = k
        · subst hj; exact .inr ⟨h2, r, h3, h4⟩
        · exact .inl ⟨j, r, by omega, h2, h3, h4⟩
      · rintro (⟨j, r, h1, h2, h3, h4⟩ | ⟨h1, r, h2, h3⟩)
        · exact ⟨j, r, by omega, h2, h3, h4⟩
        · exact ⟨k, r, by omega, h1, h2, h3⟩
    rw [key]
    simp only [sureK]
    cases hr : sh.rows[k]? with
    | none => simp
    | some r =>
      simp only
      by_cases h : fig sh (r - e) = fig sh (r + e)
      · rw [if_pos h]; simp [h]
      · rw [if_neg h]; simp [h]
theorem sure_has {sh : Sh} {e r : Int} {k : Nat} (hr : sh.rows[k]? = some r) : (sureL sh e).contains (k : Int) = decide (fig sh (r - e) = fig sh (r + e)) := by
  have hk := (List.getElem?_eq_some_iff.1 hr).1
  have h1 : ((k : Int) ∈ sureL sh e) ↔ fig sh (r - e) = fig sh (r + e) := by
    rw [sureL, sureK_mem]
    constructor
    · rintro ⟨j, r', _, h2, h3, h4⟩
      have : j = k := by omega
      subst this; rw [hr] at h3; cases h3; exact h4
    · exact fun h => ⟨k, r, hk, rfl, hr, h⟩
  rw [List.contains_eq_mem]
  exact decide_eq_decide.2 h1
def pNeed (sh : Sh) (row : Int) : Int → Bool := fun e => (sureL sh e).contains row
/-! ## More guard figures -/

theorem endT_E {F : Int → Int} {e : Int} (he : 0 ≤ e) (rows : List Int) (of : Int → Int → Int) : IsE (fun x => ∃ t, truK e rows t = true ∧ of (sumI t) (figO F t) = x) (some ((endT F e rows of).getD (0, 0))) := by
  have := endT_isE (F := F) he rows of
  rwa [endT_some he] at this
/-! ## Totals of truths -/

theorem figO_map (F G : Int → Int) (rs : List Int) : figO F (rs.map G) = figO (fun r => F (G r)) rs := by simp [figO, Function.comp_def]
/-! ## The other sign -/

theorem toF_neg {u v : Int} (hu : 1 ≤ u) : toF u 2 (-v) = -toF u 1 v ∧ toF u 1 (-v) = -toF u 2 v ∧ toF u 4 (-v) = -toF u 4 v := by
  refine ⟨by simp [toF], by simp [toF], ?_⟩
  have h1 := ediv_bd (2 * v + u) (u := 2 * u) (by omega)
  have h2 := ediv_bd (2 * -v + u) (u := 2 * u) (by omega)
  have e1 : (2 * v + u) / (2 * u) * (2 * u) = 2 * u * ((2 * v + u) / (2 * u)) := Int.mul_comm _ _
  simp only [toF, show ¬ ((4 : Int) = 1) from by decide, show ¬ ((4 : Int) = 2) from by decide, show ¬ ((4 : Int) = 3) from by decide, if_false]
  by_cases ht : 2 * v + u = 2 * u * ((2 * v + u) / (2 * u))
  · have e2 : (2 * -v + u) / (2 * u) = 1 - (2 * v + u) / (2 * u) := by
      refine ediv_uniq (by omega) ?_ ?_
      · rw [Int.sub_mul, Int.one_mul]; omega
      · rw [Int.sub_mul, Int.one_mul]; omega
    rw [e2]
    have e3 : 2 * u * (1 - (2 * v + u) / (2 * u)) = 2 * u - 2 * u * ((2 * v + u) / (2 * u)) := by rw [Int.mul_sub, Int.mul_one]
    rw [e3]
    generalize (2 * v + u) / (2 * u) = p at *
    generalize 2 * u * p = q at *
    split <;> split <;> omega
  · have e2 : (2 * -v + u) / (2 * u) = -((2 * v + u) / (2 * u)) := by
      refine ediv_uniq (by omega) ?_ ?_
      · rw [Int.neg_mul]; omega
      · rw [Int.neg_mul]; omega
    rw [e2]
    have e3 : 2 * u * (-((2 * v + u) / (2 * u))) = -(2 * u * ((2 * v + u) / (2 * u))) := by rw [Int.mul_neg]
    rw [e3]
    generalize (2 * v + u) / (2 * u) = p at *
    generalize 2 * u * p = q at *
    rw [if_neg (by omega), if_neg (by omega)]
def turnR (r : Int) : Int := if r = 1 then 2 else if r = 2 then 1 else r
def turnS (s : Sh) : Sh := ⟨s.unit, turnR s.rule, s.errs, s.rows.map fun n => -n⟩
theorem turn_fig {s : Sh} (hs : isSh s = true) (h3 : s.rule ≠ 3) (v : Int) : fig (turnS s) (-v) = -fig s v := by
  have hb := isSh_b hs
  have h := toF_neg (v := v) hb.1.1
  obtain ⟨u, r, es, rs⟩ := s
  simp only at hb h h3
  simp only [fig, turnS]
  obtain rfl | rfl | rfl : r = 1 ∨ r = 2 ∨ r = 4 := by omega
  · exact h.1
  · exact h.2.1
  · exact h.2.2
theorem turn_ok {s : Sh} (hs : isSh s = true) : isSh (turnS s) = true := by
  have hb := isSh_b hs
  have h2 := hs
  simp only [isSh, Bool.and_eq_true] at h2 ⊢
  refine ⟨⟨⟨⟨⟨h2.1.1.1.1.1, ?_⟩, h2.1.1.1.2⟩, ?_⟩, h2.1.2⟩, ?_⟩
  · refine inB_iff.2 ?_
    simp only [turnS, turnR]
    split
    · omega
    · split <;> omega
  · simpa [turnS] using h2.1.1.2
  · rw [List.all_eq_true]
    intro x hx
    simp only [turnS, List.mem_map] at hx
    obtain ⟨n, hn, rfl⟩ := hx
    have := isSh_r hs hn
    exact inB_iff.2 (by omega)
theorem sumI_neg : ∀ l : List Int, sumI (l.map fun n => -n) = -sumI l
  | [] => rfl
  | x :: l => by rw [List.map_cons, sumI_cons, sumI_cons, sumI_neg l]; omega
theorem truK_neg {e : Int} : ∀ {rs t : List Int}, truK e (rs.map fun n => -n) (t.map fun n => -n) = truK e rs t
  | [], [] => rfl
  | [], n :: t => rfl
  | r :: rs, [] => rfl
  | r :: rs, n :: t => by
    simp only [List.map_cons, truK, truK_neg (rs := rs) (t := t)]
    congr 1
    rw [Bool.eq_iff_iff, inB_iff, inB_iff]; omega
theorem neg_neg_map (t : List Int) : (t.map fun n => -n).map (fun n => -n) = t := by simp [Function.comp_def]
theorem endT_turn {F G : Int → Int} {e : Int} (he : 0 ≤ e) (rows : List Int) (of of' : Int → Int → Int) (hFG : ∀ v, G (-v) = -F v) (ho : ∀ k a, of' (-k) (-a) = -of k a) :
    (endT G e (rows.map fun n => -n) of').getD (0, 0) = (-((endT F e rows of).getD (0, 0)).2, -((endT F e rows of).getD (0, 0)).1) := by
  have h1 := endT_E (F := G) he (rows.map fun n => -n) of'
  have h2 := endT_E (F := F) he rows of
  have key : ∀ t, of' (sumI (t.map fun n => -n)) (figO G (t.map fun n => -n)) = -of (sumI t) (figO F t) := fun t => by
    have e1 : figO G (t.map fun n => -n) = -figO F t := by
      rw [figO_map]
      have : (fun r => G (-r)) = fun r => -F r := funext hFG
      rw [this]
      have h5 := sumI_neg (t.map F)
      rw [List.map_map] at h5
      exact h5
    rw [sumI_neg, e1, ho]
  refine Option.some.inj (isE_uniq h1 ⟨?_, ?_, ?_⟩)
  · obtain ⟨t, a1, a2⟩ := h2.2.1
    exact ⟨t.map fun n => -n, by rw [truK_neg]; exact a1, by rw [key, a2]⟩
  · obtain ⟨t, a1, a2⟩ := h2.1
    exact ⟨t.map fun n => -n, by rw [truK_neg]; exact a1, by rw [key, a2]⟩
  · rintro x ⟨t, ht, rfl⟩
    have e := neg_neg_map t
    rw [← e, truK_neg] at ht
    have h3 := h2.2.2 _ ⟨_, ht, rfl⟩
    have h4 := key (t.map fun n => -n)
    rw [e] at h4
    rw [h4]
    simp only
    omega
end Go.Proofs


namespace Go.Proofs
open Go Go.Sx

/-! # Plain laws of round: totals that fail -/

theorem rFst_cases (sh : Sh) (e : Int) : (∃ k : Nat, k < sh.rows.length ∧ rFst sh e = ((k : Int), 0) ∧ rDif (untS sh k) e ≠ (0, 0) ∧ ∀ j, j < k → rDif (untS sh j) e = (0, 0)) ∨ (rFst sh e = (0, 5) ∧ ∀ k, k < sh.rows.length → rDif (untS sh k) e = (0, 0)) := by
  by_cases hn : ∃ j : Nat, j < sh.rows.length ∧ rDif (untS sh j) e ≠ (0, 0)
  · have hex : ∃ j : Nat, (j < sh.rows.length ∧ rDif (untS sh j) e ≠ (0, 0)) ∧ ∀ i, i < j → rDif (untS sh i) e = (0, 0) := by
      obtain ⟨j, hj⟩ := hn
      induction j using Nat.strongRecOn with
      | _ j ih =>
        by_cases hc : ∃ i, i < j ∧ rDif (untS sh i) e ≠ (0, 0)
        · obtain ⟨i, h1, h2⟩ := hc
          exact ih i h1 ⟨by omega, h2⟩
        · refine ⟨j, hj, fun i hi => ?_⟩
          by_cases hq : rDif (untS sh i) e = (0, 0)
          · exact hq
          · exact absurd ⟨i, hi, hq⟩ hc
    obtain ⟨j, ⟨h1, h2⟩, h3⟩ := hex
    exact .inl ⟨j, h1, rFst_some h1 h3 h2, h2, h3⟩
  · have hall : ∀ k, k < sh.rows.length → rDif (untS sh k) e = (0, 0) := fun k hk => by
      by_cases hq : rDif (untS sh k) e = (0, 0)
      · exact hq
      · exact absurd ⟨k, hk, hq⟩ hn
    exact .inr ⟨rFst_none hall, hall⟩
/-! ## What is behind figures -/

end Go.Proofs


namespace Go.Proofs
open Go Go.Sx

/-! # The sheet with the other sign -/

theorem turn_figL {sh : Sh} (hs : isSh sh = true) (h3 : sh.rule ≠ 3) (e : Int) {i : Nat} {r : Int} (hr : sh.rows[i]? = some r) : (spans (figL (turnS sh) e))[i]? = some (spanC (-(fig sh (r + e)), -(fig sh (r - e)))) := by
  have h1 : (turnS sh).rows[i]? = some (-r) := by simp [turnS, hr]
  have h2 : (figL (turnS sh) e)[i]? = some (fig (turnS sh) (-r - e), fig (turnS sh) (-r + e)) := by simp [figL, h1]
  have e1 : -r - e = -(r + e) := by omega
  have e2 : -r + e = -(r - e) := by omega
  rw [e1, e2, turn_fig hs h3, turn_fig hs h3] at h2
  exact map_get (f := spanC) h2
theorem turn_len (sh : Sh) (e : Int) : (figL (turnS sh) e).length = sh.rows.length := by simp [figL, turnS]
theorem turn_tot {sh : Sh} (hs : isSh sh = true) (h3 : sh.rule ≠ 3) {e : Int} (he : 0 ≤ e) : rTot (turnS sh) e = (-(rTot sh e).2, -(rTot sh e).1) :=
  endT_turn (F := fig sh) (G := fig (turnS sh)) he sh.rows (fun k _ => fig sh k) (fun k _ => fig (turnS sh) k) (turn_fig hs h3) (fun k _ => turn_fig hs h3 k)
theorem turn_dif {sh : Sh} (hs : isSh sh = true) (h3 : sh.rule ≠ 3) {e : Int} (he : 0 ≤ e) : rDif (turnS sh) e = (-(rDif sh e).2, -(rDif sh e).1) :=
  endT_turn (F := fig sh) (G := fig (turnS sh)) he sh.rows (fun k a => a - fig sh k) (fun k a => a - fig (turnS sh) k) (turn_fig hs h3) (fun k a => by rw [turn_fig hs h3 k]; omega)
theorem turn_need {sh : Sh} (hs : isSh sh = true) (h3 : sh.rule ≠ 3) {i : Nat} {r : Int} (hr : sh.rows[i]? = some r) : rNeed (turnS sh) (i : Int) = rNeed sh (i : Int) := by
  have h1 : (turnS sh).rows[i]? = some (-r) := by simp [turnS, hr]
  have hi := (List.getElem?_eq_some_iff.1 hr).1
  have hp : pNeed (turnS sh) (i : Int) = pNeed sh (i : Int) := by
    funext e
    simp only [pNeed]
    rw [sure_has h1, sure_has hr]
    have e1 : -r - e = -(r + e) := by omega
    have e2 : -r + e = -(r - e) := by omega
    rw [e1, e2, turn_fig hs h3, turn_fig hs h3]
    exact decide_eq_decide.2 (by omega)
  have hl : (turnS sh).rows.length = sh.rows.length := by simp [turnS]
  have he : (turnS sh).errs = sh.errs := rfl
  have h4 : ∀ s : Sh, rNeed s (i : Int) = if isSh s && inB (i : Int) 0 (s.rows.length - 1) then leastP (pNeed s i) s.errs else (0, 2) := fun s => rfl
  rw [h4, h4, turn_ok hs, hs, hl, hp, he]
theorem turn_unt (sh : Sh) (k : Nat) : untS (turnS sh) k = turnS (untS sh k) := by simp [untS, turnS, List.map_take]
theorem turn_first {sh : Sh} (hs : isSh sh = true) (h3 : sh.rule ≠ 3) {e : Int} (he : 0 ≤ e) : rFst (turnS sh) e = rFst sh e := by
  have hl : (turnS sh).rows.length = sh.rows.length := by simp [turnS]
  have hD : ∀ k, k < sh.rows.length → (rDif (untS (turnS sh) k) e = (0, 0) ↔ rDif (untS sh k) e = (0, 0)) := by
    intro k hk
    rw [turn_unt, turn_dif (untS_ok hs hk) h3 he]
    constructor
    · intro h
      have h1 := congrArg Prod.fst h
      have h2 := congrArg Prod.snd h
      simp only at h1 h2
      exact Prod.ext (by simp only; omega) (by simp only; omega)
    · intro h; rw [h]; rfl
  rcases rFst_cases sh e with ⟨k, hk, hF, h0, hmin⟩ | ⟨hF, hall⟩
  · rw [hF]
    exact rFst_some (by omega) (fun j hj => (hD j (by omega)).2 (hmin j hj)) (fun h => h0 ((hD k hk).1 h))
  · rw [hF]
    exact rFst_none (fun j hj => (hD j (by omega)).2 (hall j (by omega)))
def negK (xs : List Int) (k : Nat) : List Int := ((xs.take k).map fun n => -n) ++ xs.drop k
theorem negK_0 (xs : List Int) : negK xs 0 = xs := by simp [negK]
theorem negK_all (xs : List Int) : negK xs xs.length = xs.map fun n => -n := by simp [negK]
theorem negK_at {xs : List Int} {k : Nat} {r : Int} (h : xs[k]? = some r) : (ints (negK xs k))[k]? = some (intC r) := by
  have hk := (List.getElem?_eq_some_iff.1 h).1
  have : (negK xs k)[k]? = some r := by
    rw [negK, List.getElem?_append_right (by simp; exact Nat.min_le_left _ _), List.length_map, List.length_take, Nat.min_eq_left (by omega), Nat.sub_self, List.getElem?_drop]; simpa using h
  exact map_get (f := intC) this
theorem negK_set {xs : List Int} {k : Nat} {r : Int} (h : xs[k]? = some r) : (ints (negK xs k)).set k [.int .i64 (-r)] = ints (negK xs (k + 1)) := by
  have hk := (List.getElem?_eq_some_iff.1 h).1
  have e : negK xs (k + 1) = (negK xs k).set k (-r) := by
    have hd : xs.drop k = r :: xs.drop (k + 1) := by
      rw [List.drop_eq_getElem_cons hk]
      congr 1
      rw [List.getElem?_eq_getElem hk] at h
      exact Option.some.inj h
    simp only [negK, take_snoc h, hd]
    rw [List.set_append_right _ _ (by simp; exact Nat.min_le_left _ _)]
    simp [Nat.min_eq_left (Nat.le_of_lt hk)]
  rw [e, ← List.map_set]
end Go.Proofs


namespace Go.Proofs
open Go Go.Sx Go.RowKit

end Go.Proofs


namespace Go.Proofs
open Go Go.Sx Go.RowKit

end Go.Proofs


namespace Go.Proofs
open Go Go.Sx Go.RowKit

theorem fig_len (sh : Sh) (e : Int) : (figL sh e).length = sh.rows.length := by simp [figL]
theorem figL_get {sh : Sh} {e r : Int} {i : Nat} (hr : sh.rows[i]? = some r) : (spans (figL sh e))[i]? = some (spanC (fig sh (r - e), fig sh (r + e))) := by
  have : (figL sh e)[i]? = some (fig sh (r - e), fig sh (r + e)) := by simp [figL, hr]
  exact map_get (f := spanC) this
end Go.Proofs


namespace Go.Proofs
open Go Go.Sx Go.RowKit

set_option maxRecDepth 20000 in
theorem law_right (sh : Sh) (pt : Pt) (gd : Int) (w : World) (hre : Ro w 0 w.heap.size pt.ea sh.errs.length pt.ec 1 (ints sh.errs)) (hrr : Ro w 0 w.heap.size pt.ra sh.rows.length pt.rc 1 (ints sh.rows)) : Calls Tryz.prog 9 #[shV sh pt, (.int .i64 gd)] w (RetV w (.bool (okG sh gd))) := by
  have hok : okG sh gd = (isSh sh && inB gd 0 (sh.errs.length - 1)) := rfl
  refine calls_T0 (av := [_, _]) Tryz.func9 rfl rfl rfl ?_
  refine t_seq ?_
  refine t_reg ?_
  refine to_box rfl rfl (fun b2 => ?_)
  refine to_as rfl rfl ?_
  refine to_nil ?_
  refine tn_code ?_
  refine t_seq ?_
  refine t_reg ?_
  first | refine to_lda rfl rfl rfl ?_ | refine to_ldea rfl (by assumption) rfl rfl ?_
  refine to_call0 rfl rfl (fun w s => law_short _ _ w) rfl ?_
  refine to_mv rfl rfl ?_
  refine to_gs rfl rfl rfl (fun h1 => ?_) (fun h1 => ?_)
  · try simp only [decide_eq_true_eq, decide_eq_false_iff_not, Bool.not_eq_true', Bool.not_eq_false', Int.not_lt, Int.not_le, ne_eq, Decidable.not_not] at h1
    try have h1b := inB_iff.1 h1
    refine to_gt rfl rfl ?_
    first | refine to_lda rfl rfl rfl ?_ | refine to_ldea rfl (by assumption) rfl rfl ?_
    refine to_gt rfl rfl ?_
    refine to_call0 rfl rfl (fun w s => ref_Sheet sh pt w (rdw s) (rdw s)) rfl ?_
    refine to_pkT rfl rfl rfl ?_
    refine to_mv rfl rfl ?_
    refine to_gs rfl rfl rfl (fun h2 => ?_) (fun h2 => ?_)
    · try simp only [decide_eq_true_eq, decide_eq_false_iff_not, Bool.not_eq_true', Bool.not_eq_false', Int.not_lt, Int.not_le, ne_eq, Decidable.not_not] at h2
      try have h2b := inB_iff.1 h2
      have hsh : isSh sh = true := h2
      refine to_gt rfl rfl ?_
      first | refine to_lda rfl rfl rfl ?_ | refine to_ldea rfl (by assumption) rfl rfl ?_
      refine to_gt rfl rfl ?_
      refine to_mv rfl rfl ?_
      refine to_gt rfl rfl ?_
      refine to_call0 rfl rfl (fun w s => ref_Guard sh pt _ w (by have h9 := isSh_b hsh; omega)) rfl ?_
      refine to_pkT rfl rfl rfl ?_
      refine to_as rfl rfl ?_
      refine to_nil ?_
      refine tn_code ?_
      refine t_ret1 rfl rfl (res_tmp rfl) (fun w' s => ?_)
      first | (rw [hok]; simp_all; done) | (rw [hok]; simp [*]; done)
    · try simp only [decide_eq_true_eq, decide_eq_false_iff_not, Bool.not_eq_true', Bool.not_eq_false', Int.not_lt, Int.not_le, ne_eq, Decidable.not_not] at h2
      try have h2b := inB_iff.1 h2
      refine to_gf rfl rfl rfl rfl ?_
      refine to_gf rfl rfl rfl rfl ?_
      refine to_gf rfl rfl rfl rfl ?_
      refine to_pkF rfl rfl rfl ?_
      refine to_as rfl rfl ?_
      refine to_nil ?_
      refine tn_code ?_
      refine t_ret1 rfl rfl (res_tmp rfl) (fun w' s => ?_)
      first | (rw [hok]; simp_all; done) | (rw [hok]; simp [*]; done)
  · try simp only [decide_eq_true_eq, decide_eq_false_iff_not, Bool.not_eq_true', Bool.not_eq_false', Int.not_lt, Int.not_le, ne_eq, Decidable.not_not] at h1
    try have h1b := inB_iff.1 h1
    have hnot : isSh sh = false := (by rw [Bool.eq_false_iff]; intro hh; have h9 := isSh_b hh; simp at h1; omega)
    refine to_gf rfl rfl rfl rfl ?_
    refine to_gf rfl rfl rfl rfl ?_
    refine to_pkF rfl rfl rfl ?_
    refine to_mv rfl rfl ?_
    refine to_gf rfl rfl rfl rfl ?_
    refine to_gf rfl rfl rfl rfl ?_
    refine to_gf rfl rfl rfl rfl ?_
    refine to_pkF rfl rfl rfl ?_
    refine to_as rfl rfl ?_
    refine to_nil ?_
    refine tn_code ?_
    refine t_ret1 rfl rfl (res_tmp rfl) (fun w' s => ?_)
    first | (rw [hok]; simp_all; done) | (rw [hok]; simp [*]; done)

end Go.Proofs


namespace Go.Proofs
open Go Go.Sx Go.RowKit

theorem row_ok {sh : Sh} {k : Nat} {r : Int} (h : sh.rows[k]? = some r) : inB (k : Int) 0 (sh.rows.length - 1) = true := by
  have := (List.getElem?_eq_some_iff.1 h).1
  exact inB_iff.2 (by omega)
theorem row_ex {sh : Sh} {row : Int} (h : inB row 0 (sh.rows.length - 1) = true) : ∃ (k : Nat) (r : Int), row = (k : Int) ∧ sh.rows[k]? = some r := by
  have hb := inB_iff.1 h
  obtain ⟨k, rfl⟩ := Int.eq_ofNat_of_zero_le hb.1
  obtain ⟨e, he⟩ := some_get (xs := sh.rows) (k := k) (by omega)
  exact ⟨k, e, rfl, he⟩
theorem ieq_refl' : ∀ {vs : List Value}, isI vs → ieq vs vs = true
  | [], _ => rfl
  | v :: vs, h => by
    obtain ⟨i, rfl⟩ := h v (List.mem_cons_self ..)
    have ih := ieq_refl' (vs := vs) (fun u hu => h u (List.mem_cons_of_mem _ hu))
    simp only [ieq, ih, Bool.and_true]; simp
theorem isI_span' (s : Sp) : isI (spanC s) := allI_isI rfl
theorem scal_ints (xs : List Int) : ∀ y ∈ ints xs, scals y = true := by
  intro y hy
  obtain ⟨l, _, rfl⟩ := List.mem_map.1 hy
  simp [scals, scal, intC]

end Go.Proofs


namespace Go.Proofs
open Go Go.Sx Go.RowKit

end Go.Proofs


namespace Go.Proofs
open Go Go.Sx Go.RowKit

theorem c_FigG {sh : Sh} {pt : Pt} {k : Nat} {e gd : Int} {w : World} (hre : Ro w 0 w.heap.size pt.ea sh.errs.length pt.ec 1 (ints sh.errs)) (hrr : Ro w 0 w.heap.size pt.ra sh.rows.length pt.rc 1 (ints sh.rows)) (hs : isSh sh = true) (he : sh.errs[k]? = some e) (hgk : gd = (k : Int)) : Calls Tryz.prog 13 #[shV sh pt, .int .i64 gd] w (Ret w (RSpE (figL sh e) 0)) := by
  subst hgk; exact r_Figures_t sh pt k e w hre hrr hs he
theorem c_TotG {sh : Sh} {pt : Pt} {k : Nat} {e gd : Int} {w : World} (hre : Ro w 0 w.heap.size pt.ea sh.errs.length pt.ec 1 (ints sh.errs)) (hrr : Ro w 0 w.heap.size pt.ra sh.rows.length pt.rc 1 (ints sh.rows)) (hs : isSh sh = true) (he : sh.errs[k]? = some e) (hgk : gd = (k : Int)) : Calls Tryz.prog 14 #[shV sh pt, .int .i64 gd] w (RetV w (.tuple #[spanV (rTot sh e), .int .i64 0])) := by
  subst hgk; exact r_Total_t sh pt k e w hre hrr hs he
theorem c_DifG {sh : Sh} {pt : Pt} {k : Nat} {e gd : Int} {w : World} (hre : Ro w 0 w.heap.size pt.ea sh.errs.length pt.ec 1 (ints sh.errs)) (hrr : Ro w 0 w.heap.size pt.ra sh.rows.length pt.rc 1 (ints sh.rows)) (hs : isSh sh = true) (he : sh.errs[k]? = some e) (hgk : gd = (k : Int)) : Calls Tryz.prog 16 #[shV sh pt, .int .i64 gd] w (RetV w (.tuple #[spanV (rDif sh e), .int .i64 0])) := by
  subst hgk; exact r_Differs_t sh pt k e w hre hrr hs he
end Go.Proofs


namespace Go.Proofs
open Go Go.Sx Go.RowKit

def RTu (sh : Sh) (pt : Pt) : Nat → World → Value → Prop := fun lo w1 v => ∃ ra rc, v = .agg [.int .i64 sh.unit, .int .i64 (turnR sh.rule), .slice pt.ea sh.errs.length pt.ec, .slice ra sh.rows.length rc].toArray ∧ Ro w1 lo w1.heap.size ra sh.rows.length rc 1 (ints (sh.rows.map fun n => -n))

set_option maxRecDepth 20000 in
theorem law_turned (sh : Sh) (pt : Pt) (w : World) (hre : Ro w 0 w.heap.size pt.ea sh.errs.length pt.ec 1 (ints sh.errs)) (hrr : Ro w 0 w.heap.size pt.ra sh.rows.length pt.rc 1 (ints sh.rows)) (hs : isSh sh = true) : Calls Tryz.prog 20 #[shV sh pt] w (Ret w (RTu sh pt)) := by
  have hbb := isSh_b hs
  have hz0 : 0 + sh.rows.length = sh.rows.length := Nat.zero_add _
  refine calls_T (av := [_]) Tryz.func20 rfl rfl rfl ?_
  refine t_seq ?_
  refine t_reg ?_
  refine to_box rfl rfl (fun b1 => ?_)
  refine to_alloc rfl (fun b2 => ?_)
  refine to_nil ?_
  refine tn_code ?_
  refine t_seq ?_
  refine t_nilrow 3 1 ?_
  refine t_reg ?_
  first | refine to_fa rfl rfl rfl (by simp only [Nat.reduceAdd]; rfl) rfl ?_ | refine to_fae rfl rfl rfl (by simp only [Nat.reduceAdd]; rfl) rfl ?_
  first | refine to_lds rfl rfl rfl ?_ | refine to_ldes rfl (by assumption) rfl rfl ?_
  refine to_app rfl rfl rfl (scal_ints _) (by decide) (show (0 + sh.rows.length) * 8 ≤ 1099511627776 from by omega) (by decide) rfl (fun a7 c7 => ?_)
  rw [hz0]
  first | refine to_fa rfl rfl rfl (by simp only [Nat.reduceAdd]; rfl) rfl ?_ | refine to_fae rfl rfl rfl (by simp only [Nat.reduceAdd]; rfl) rfl ?_
  first | refine to_st rfl rfl rfl rfl ?_ | refine to_ste rfl rfl (by assumption) rfl rfl ?_
  refine to_nil ?_
  refine tn_code ?_
  refine t_seq ?_
  refine t_seq ?_
  refine t_reg ?_
  refine to_as rfl rfl ?_
  refine to_nil ?_
  refine tn_code ?_
  refine t_blk ?_
  refine t_loop2 (ι := Nat) (fun k => k ≤ sh.rows.length) (fun k => [(1, (.pointer (some ⟨b1, 0, none⟩))), (2, (.pointer (some ⟨b2, 0, none⟩))), (3, (.int .i64 (k : Int)))]) (fun k => [.row a7 sh.rows.length c7 3 1 (ints (negK sh.rows k)), .own b1 (isC [.int .i64 sh.unit, .int .i64 sh.rule, .slice pt.ea sh.errs.length pt.ec, .slice a7 sh.rows.length c7] 25), .own b2 (isC [.int .i64 0, .int .i64 0, .slice none 0 0, .slice none 0 0] 25), .snap 0 w.heap.size w]) (fun k => sh.rows.length - k) (0) [.row a7 sh.rows.length c7 3 1 ([] ++ ints sh.rows), .own b1 (isC [.int .i64 sh.unit, .int .i64 sh.rule, .slice pt.ea sh.errs.length pt.ec, .slice a7 sh.rows.length c7] 25), .own b2 (isC [.int .i64 0, .int .i64 0, .slice none 0 0, .slice none 0 0] 25), .snap 0 w.heap.size w] (by rw [negK_0]; rfl) (Nat.zero_le _) (⟨rfl, rfl, rfl, trivial⟩) ?_
  rintro k hk
  show T _ _ _ ⟨_, [(1, (.pointer (some ⟨b1, 0, none⟩))), (2, (.pointer (some ⟨b2, 0, none⟩))), (3, (.int .i64 (k : Int)))], _⟩ [.row a7 sh.rows.length c7 3 1 (ints (negK sh.rows k)), .own b1 (isC [.int .i64 sh.unit, .int .i64 sh.rule, .slice pt.ea sh.errs.length pt.ec, .slice a7 sh.rows.length c7] 25), .own b2 (isC [.int .i64 0, .int .i64 0, .slice none 0 0, .slice none 0 0] 25), .snap 0 w.heap.size w]
  refine t_seq ?_
  refine t_seq ?_
  refine t_reg ?_
  refine to_mv rfl rfl ?_
  first | refine to_fa rfl rfl rfl (by simp only [Nat.reduceAdd]; rfl) rfl ?_ | refine to_fae rfl rfl rfl (by simp only [Nat.reduceAdd]; rfl) rfl ?_
  first | refine to_lds rfl rfl rfl ?_ | refine to_ldes rfl (by assumption) rfl rfl ?_
  refine to_lenS rfl rfl ?_
  refine to_lss rfl rfl rfl ?_
  refine to_nil ?_
  refine tn_code ?_
  refine t_if rfl (fun h1 => ?_) (fun h1 => ?_)
  · try simp only [decide_eq_true_eq, decide_eq_false_iff_not, Bool.not_eq_true', Bool.not_eq_false', Int.not_lt, Int.not_le, ne_eq, Decidable.not_not] at h1
    try have h1b := inB_iff.1 h1
    obtain ⟨r, hr⟩ := some_get (xs := sh.rows) (k := k) (by omega)
    have hrb := isSh_r hs (List.mem_of_getElem? hr)
    have hxn := negK_at hr
    refine t_skip ?_
    refine tn_code ?_
    refine t_seq ?_
    refine t_blk ?_
    refine t_seq ?_
    refine t_reg ?_
    first | refine to_fa rfl rfl rfl (by simp only [Nat.reduceAdd]; rfl) rfl ?_ | refine to_fae rfl rfl rfl (by simp only [Nat.reduceAdd]; rfl) rfl ?_
    first | refine to_lds rfl rfl rfl ?_ | refine to_ldes rfl (by assumption) rfl rfl ?_
    refine to_mv rfl rfl ?_
    first | refine to_ix rfl rfl rfl (by first | omega | decide) (by first | omega | decide) rfl ?_ | refine to_ixi rfl rfl rfl (by omega) (by omega) (by omega) rfl ?_
    first | refine to_lds rfl rfl rfl ?_ | refine to_ldes rfl (by assumption) rfl rfl ?_
    refine to_neg rfl (by omega) rfl ?_
    refine to_as rfl rfl ?_
    refine to_nil ?_
    refine tn_code ?_
    refine t_reg ?_
    first | refine to_fa rfl rfl rfl (by simp only [Nat.reduceAdd]; rfl) rfl ?_ | refine to_fae rfl rfl rfl (by simp only [Nat.reduceAdd]; rfl) rfl ?_
    first | refine to_lds rfl rfl rfl ?_ | refine to_ldes rfl (by assumption) rfl rfl ?_
    refine to_mv rfl rfl ?_
    refine to_mv rfl rfl ?_
    first | refine to_ix rfl rfl rfl (by first | omega | decide) (by first | omega | decide) rfl ?_ | refine to_ixi rfl rfl rfl (by omega) (by omega) (by omega) rfl ?_
    first | refine to_st rfl rfl rfl rfl ?_ | refine to_ste rfl rfl (by assumption) rfl rfl ?_
    refine to_nil ?_
    refine tn_blk ?_
    refine tn_code ?_
    refine t_reg ?_
    refine to_mv rfl rfl ?_
    refine to_add rfl rfl (by omega) rfl ?_
    refine to_as rfl rfl ?_
    refine to_nil ?_
    exact tn_loop2 (k + 1) [.row a7 sh.rows.length c7 3 1 ((ints (negK sh.rows k)).set k [.int .i64 (-r)]), .own b1 (isC [.int .i64 sh.unit, .int .i64 sh.rule, .slice pt.ea sh.errs.length pt.ec, .slice a7 sh.rows.length c7] 25), .own b2 (isC [.int .i64 0, .int .i64 0, .slice none 0 0, .slice none 0 0] 25), .snap 0 w.heap.size w] (by rw [negK_set hr]) (by omega) (by omega) (⟨rfl, rfl, rfl, trivial⟩)
  · try simp only [decide_eq_true_eq, decide_eq_false_iff_not, Bool.not_eq_true', Bool.not_eq_false', Int.not_lt, Int.not_le, ne_eq, Decidable.not_not] at h1
    try have h1b := inB_iff.1 h1
    have hk2 : k = sh.rows.length := by omega
    subst hk2
    rw [negK_all]
    refine t_exit ?_
    refine tx_code ?_
    refine tx_inv ?_
    refine tx_blk ?_
    refine tn_code ?_
    refine t_seq ?_
    refine t_seq ?_
    refine t_reg ?_
    first | refine to_fa rfl rfl rfl (by simp only [Nat.reduceAdd]; rfl) rfl ?_ | refine to_fae rfl rfl rfl (by simp only [Nat.reduceAdd]; rfl) rfl ?_
    first | refine to_lds rfl rfl rfl ?_ | refine to_ldes rfl (by assumption) rfl rfl ?_
    refine to_eql rfl rfl rfl ?_
    refine to_nil ?_
    refine tn_code ?_
    refine t_if rfl (fun h2 => ?_) (fun h2 => ?_)
    · try simp only [decide_eq_true_eq, decide_eq_false_iff_not, Bool.not_eq_true', Bool.not_eq_false', Int.not_lt, Int.not_le, ne_eq, Decidable.not_not] at h2
      try have h2b := inB_iff.1 h2
      have hru : turnR sh.rule = 2 := by simp only [turnR, if_pos h2]
      refine t_reg ?_
      first | refine to_fa rfl rfl rfl (by simp only [Nat.reduceAdd]; rfl) rfl ?_ | refine to_fae rfl rfl rfl (by simp only [Nat.reduceAdd]; rfl) rfl ?_
      first | refine to_st rfl rfl rfl rfl ?_ | refine to_ste rfl rfl (by assumption) rfl rfl ?_
      refine to_nil ?_
      refine tn_code ?_
      refine t_seq ?_
      refine t_reg ?_
      first | refine to_lda rfl rfl rfl ?_ | refine to_ldea rfl (by assumption) rfl rfl ?_
      first | refine to_st rfl rfl rfl rfl ?_ | refine to_ste rfl rfl (by assumption) rfl rfl ?_
      refine to_nil ?_
      refine tn_code ?_
      refine t_ret1 rfl rfl (res_cellA rfl rfl) (fun w' s => ?_)
      first | exact ⟨a7, c7, by rw [hru], ro_row s⟩ | exact ⟨a7, c7, by rw [hru], by have h9 := ro_row s (a := a7); simpa using h9⟩
    · try simp only [decide_eq_true_eq, decide_eq_false_iff_not, Bool.not_eq_true', Bool.not_eq_false', Int.not_lt, Int.not_le, ne_eq, Decidable.not_not] at h2
      try have h2b := inB_iff.1 h2
      have hr1 := h2
      refine t_seq ?_
      refine t_reg ?_
      first | refine to_fa rfl rfl rfl (by simp only [Nat.reduceAdd]; rfl) rfl ?_ | refine to_fae rfl rfl rfl (by simp only [Nat.reduceAdd]; rfl) rfl ?_
      first | refine to_lds rfl rfl rfl ?_ | refine to_ldes rfl (by assumption) rfl rfl ?_
      refine to_eql rfl rfl rfl ?_
      refine to_nil ?_
      refine tn_code ?_
      refine t_if rfl (fun h3 => ?_) (fun h3 => ?_)
      · try simp only [decide_eq_true_eq, decide_eq_false_iff_not, Bool.not_eq_true', Bool.not_eq_false', Int.not_lt, Int.not_le, ne_eq, Decidable.not_not] at h3
        try have h3b := inB_iff.1 h3
        have hru : turnR sh.rule = 1 := by simp only [turnR, if_neg hr1, if_pos h3]
        refine t_reg ?_
        first | refine to_fa rfl rfl rfl (by simp only [Nat.reduceAdd]; rfl) rfl ?_ | refine to_fae rfl rfl rfl (by simp only [Nat.reduceAdd]; rfl) rfl ?_
        first | refine to_st rfl rfl rfl rfl ?_ | refine to_ste rfl rfl (by assumption) rfl rfl ?_
        refine to_nil ?_
        refine tn_code ?_
        refine t_seq ?_
        refine t_reg ?_
        first | refine to_lda rfl rfl rfl ?_ | refine to_ldea rfl (by assumption) rfl rfl ?_
        first | refine to_st rfl rfl rfl rfl ?_ | refine to_ste rfl rfl (by assumption) rfl rfl ?_
        refine to_nil ?_
        refine tn_code ?_
        refine t_ret1 rfl rfl (res_cellA rfl rfl) (fun w' s => ?_)
        first | exact ⟨a7, c7, by rw [hru], ro_row s⟩ | exact ⟨a7, c7, by rw [hru], by have h9 := ro_row s (a := a7); simpa using h9⟩
      · try simp only [decide_eq_true_eq, decide_eq_false_iff_not, Bool.not_eq_true', Bool.not_eq_false', Int.not_lt, Int.not_le, ne_eq, Decidable.not_not] at h3
        try have h3b := inB_iff.1 h3
        have hru : turnR sh.rule = sh.rule := by simp only [turnR, if_neg hr1, if_neg h3]
        refine t_skip ?_
        refine tn_code ?_
        refine t_seq ?_
        refine t_reg ?_
        first | refine to_lda rfl rfl rfl ?_ | refine to_ldea rfl (by assumption) rfl rfl ?_
        first | refine to_st rfl rfl rfl rfl ?_ | refine to_ste rfl rfl (by assumption) rfl rfl ?_
        refine to_nil ?_
        refine tn_code ?_
        refine t_ret1 rfl rfl (res_cellA rfl rfl) (fun w' s => ?_)
        first | exact ⟨a7, c7, by rw [hru], ro_row s⟩ | exact ⟨a7, c7, by rw [hru], by have h9 := ro_row s (a := a7); simpa using h9⟩

set_option maxRecDepth 20000 in
theorem law_opp (a : Sp) (w : World) (h : (-2000000 ≤ a.1 ∧ a.1 ≤ 2000000) ∧ (-2000000 ≤ a.2 ∧ a.2 ≤ 2000000)) : Calls Tryz.prog 23 #[spanV a] w (RetV w (spanV (-a.2, -a.1))) := by
  refine calls_T0 (av := [_]) Tryz.func23 rfl rfl rfl ?_
  refine t_seq ?_
  refine t_reg ?_
  refine to_box rfl rfl (fun b1 => ?_)
  refine to_alloc rfl (fun b2 => ?_)
  refine to_nil ?_
  refine tn_code ?_
  refine t_seq ?_
  refine t_reg ?_
  first | refine to_fa rfl rfl rfl (by simp only [Nat.reduceAdd]; rfl) rfl ?_ | refine to_fae rfl rfl rfl (by simp only [Nat.reduceAdd]; rfl) rfl ?_
  first | refine to_lds rfl rfl rfl ?_ | refine to_ldes rfl (by assumption) rfl rfl ?_
  refine to_neg rfl (by omega) rfl ?_
  first | refine to_fa rfl rfl rfl (by simp only [Nat.reduceAdd]; rfl) rfl ?_ | refine to_fae rfl rfl rfl (by simp only [Nat.reduceAdd]; rfl) rfl ?_
  first | refine to_lds rfl rfl rfl ?_ | refine to_ldes rfl (by assumption) rfl rfl ?_
  refine to_neg rfl (by omega) rfl ?_
  refine to_call0 rfl rfl (fun w s => law_span _ _ w) rfl ?_
  first | refine to_st rfl rfl rfl rfl ?_ | refine to_ste rfl rfl (by assumption) rfl rfl ?_
  refine to_nil ?_
  refine tn_code ?_
  refine t_ret1 rfl rfl (res_cellA rfl rfl) (fun w' s => ?_)
  rfl

theorem t_Fig {sh : Sh} {pt : Pt} {k : Nat} {e : Int} {ra : Option Addr} {rc : Nat} {w : World} (hre : Ro w 0 w.heap.size pt.ea sh.errs.length pt.ec 1 (ints sh.errs)) (hr2 : Ro w 0 w.heap.size ra sh.rows.length rc 1 (ints (sh.rows.map fun n => -n))) (hs : isSh sh = true) (he : sh.errs[k]? = some e) : Calls Tryz.prog 13 #[.agg [.int .i64 sh.unit, .int .i64 (turnR sh.rule), .slice pt.ea sh.errs.length pt.ec, .slice ra sh.rows.length rc].toArray, .int .i64 (k : Int)] w (Ret w (RSpE (figL (turnS sh) e) 0)) := by
  have hl : (turnS sh).rows.length = sh.rows.length := by simp [turnS]
  have hr3 : Ro w 0 w.heap.size ra (turnS sh).rows.length rc 1 (ints (turnS sh).rows) := by rw [hl]; exact hr2
  have h3 : shV (turnS sh) ⟨pt.ea, pt.ec, ra, rc⟩ = .agg [.int .i64 sh.unit, .int .i64 (turnR sh.rule), .slice pt.ea sh.errs.length pt.ec, .slice ra sh.rows.length rc].toArray := by simp only [shV, shC, hl]; rfl
  have h := r_Figures_t (turnS sh) ⟨pt.ea, pt.ec, ra, rc⟩ k e w hre hr3 (turn_ok hs) he
  rw [h3] at h
  exact h

theorem t_Tot {sh : Sh} {pt : Pt} {k : Nat} {e : Int} {ra : Option Addr} {rc : Nat} {w : World} (hre : Ro w 0 w.heap.size pt.ea sh.errs.length pt.ec 1 (ints sh.errs)) (hr2 : Ro w 0 w.heap.size ra sh.rows.length rc 1 (ints (sh.rows.map fun n => -n))) (hs : isSh sh = true) (he : sh.errs[k]? = some e) (h9 : sh.rule ≠ 3) : Calls Tryz.prog 14 #[.agg [.int .i64 sh.unit, .int .i64 (turnR sh.rule), .slice pt.ea sh.errs.length pt.ec, .slice ra sh.rows.length rc].toArray, .int .i64 (k : Int)] w (RetV w (.tuple #[spanV (-(rTot sh e).2, -(rTot sh e).1), .int .i64 0])) := by
  have hl : (turnS sh).rows.length = sh.rows.length := by simp [turnS]
  have hr3 : Ro w 0 w.heap.size ra (turnS sh).rows.length rc 1 (ints (turnS sh).rows) := by rw [hl]; exact hr2
  have h3 : shV (turnS sh) ⟨pt.ea, pt.ec, ra, rc⟩ = .agg [.int .i64 sh.unit, .int .i64 (turnR sh.rule), .slice pt.ea sh.errs.length pt.ec, .slice ra sh.rows.length rc].toArray := by simp only [shV, shC, hl]; rfl
  have h := r_Total_t (turnS sh) ⟨pt.ea, pt.ec, ra, rc⟩ k e w hre hr3 (turn_ok hs) he
  rw [h3] at h
  rw [turn_tot hs h9 (errs_b (isSh_e hs) e (List.mem_of_getElem? he)).1] at h
  exact h

theorem t_Dif {sh : Sh} {pt : Pt} {k : Nat} {e : Int} {ra : Option Addr} {rc : Nat} {w : World} (hre : Ro w 0 w.heap.size pt.ea sh.errs.length pt.ec 1 (ints sh.errs)) (hr2 : Ro w 0 w.heap.size ra sh.rows.length rc 1 (ints (sh.rows.map fun n => -n))) (hs : isSh sh = true) (he : sh.errs[k]? = some e) (h9 : sh.rule ≠ 3) : Calls Tryz.prog 16 #[.agg [.int .i64 sh.unit, .int .i64 (turnR sh.rule), .slice pt.ea sh.errs.length pt.ec, .slice ra sh.rows.length rc].toArray, .int .i64 (k : Int)] w (RetV w (.tuple #[spanV (-(rDif sh e).2, -(rDif sh e).1), .int .i64 0])) := by
  have hl : (turnS sh).rows.length = sh.rows.length := by simp [turnS]
  have hr3 : Ro w 0 w.heap.size ra (turnS sh).rows.length rc 1 (ints (turnS sh).rows) := by rw [hl]; exact hr2
  have h3 : shV (turnS sh) ⟨pt.ea, pt.ec, ra, rc⟩ = .agg [.int .i64 sh.unit, .int .i64 (turnR sh.rule), .slice pt.ea sh.errs.length pt.ec, .slice ra sh.rows.length rc].toArray := by simp only [shV, shC, hl]; rfl
  have h := r_Differs_t (turnS sh) ⟨pt.ea, pt.ec, ra, rc⟩ k e w hre hr3 (turn_ok hs) he
  rw [h3] at h
  rw [turn_dif hs h9 (errs_b (isSh_e hs) e (List.mem_of_getElem? he)).1] at h
  exact h

theorem t_Fst {sh : Sh} {pt : Pt} {k : Nat} {e : Int} {ra : Option Addr} {rc : Nat} {w : World} (hre : Ro w 0 w.heap.size pt.ea sh.errs.length pt.ec 1 (ints sh.errs)) (hr2 : Ro w 0 w.heap.size ra sh.rows.length rc 1 (ints (sh.rows.map fun n => -n))) (hs : isSh sh = true) (he : sh.errs[k]? = some e) (h9 : sh.rule ≠ 3) : Calls Tryz.prog 22 #[.agg [.int .i64 sh.unit, .int .i64 (turnR sh.rule), .slice pt.ea sh.errs.length pt.ec, .slice ra sh.rows.length rc].toArray, .int .i64 (k : Int)] w (RetV w (.tuple #[.int .i64 (rFst sh e).1, .int .i64 (rFst sh e).2])) := by
  have hl : (turnS sh).rows.length = sh.rows.length := by simp [turnS]
  have hr3 : Ro w 0 w.heap.size ra (turnS sh).rows.length rc 1 (ints (turnS sh).rows) := by rw [hl]; exact hr2
  have h3 : shV (turnS sh) ⟨pt.ea, pt.ec, ra, rc⟩ = .agg [.int .i64 sh.unit, .int .i64 (turnR sh.rule), .slice pt.ea sh.errs.length pt.ec, .slice ra sh.rows.length rc].toArray := by simp only [shV, shC, hl]; rfl
  have h := r_First_t (turnS sh) ⟨pt.ea, pt.ec, ra, rc⟩ k e w hre hr3 (turn_ok hs) he
  rw [h3] at h
  rw [turn_first hs h9 (errs_b (isSh_e hs) e (List.mem_of_getElem? he)).1] at h
  exact h

theorem t_Need {sh : Sh} {pt : Pt} {k : Nat} {e : Int} {ra : Option Addr} {rc : Nat} {w : World} (hre : Ro w 0 w.heap.size pt.ea sh.errs.length pt.ec 1 (ints sh.errs)) (hr2 : Ro w 0 w.heap.size ra sh.rows.length rc 1 (ints (sh.rows.map fun n => -n))) (hs : isSh sh = true) {i : Nat} {r : Int} (hr : sh.rows[i]? = some r) (h9 : sh.rule ≠ 3) : Calls Tryz.prog 21 #[.agg [.int .i64 sh.unit, .int .i64 (turnR sh.rule), .slice pt.ea sh.errs.length pt.ec, .slice ra sh.rows.length rc].toArray, .int .i64 (i : Int)] w (RetV w (.tuple #[.int .i64 (rNeed sh (i : Int)).1, .int .i64 (rNeed sh (i : Int)).2])) := by
  have hl : (turnS sh).rows.length = sh.rows.length := by simp [turnS]
  have hr3 : Ro w 0 w.heap.size ra (turnS sh).rows.length rc 1 (ints (turnS sh).rows) := by rw [hl]; exact hr2
  have h3 : shV (turnS sh) ⟨pt.ea, pt.ec, ra, rc⟩ = .agg [.int .i64 sh.unit, .int .i64 (turnR sh.rule), .slice pt.ea sh.errs.length pt.ec, .slice ra sh.rows.length rc].toArray := by simp only [shV, shC, hl]; rfl
  have h := r_Need (turnS sh) ⟨pt.ea, pt.ec, ra, rc⟩ (i : Int) w hre hr3 (by rw [hl]; have := isSh_b hs; omega)
  rw [h3] at h
  rw [turn_need hs h9 hr] at h
  exact h

theorem fig_small {sh : Sh} (hs : isSh sh = true) {v : Int} (hv : -100008 ≤ v ∧ v ≤ 100008) : -100009 ≤ fig sh v ∧ fig sh v ≤ 100009 := fig_b (B := 100008) hs hv
theorem tru_smallB {sh : Sh} {e : Int} {t : List Int} (hs : isSh sh = true) (he : 0 ≤ e ∧ e ≤ 8) (h : truK e sh.rows t = true) : (-500045 ≤ sumI t ∧ sumI t ≤ 500045) ∧ (-500045 ≤ figO (fig sh) t ∧ figO (fig sh) t ≤ 500045) := by
  have hb := isSh_b hs
  have hl := truK_len h
  have hn := tru_bd (B := 100000) h (fun r hr => isSh_r hs hr)
  have h1 := sum_bd (B := 100009) (by decide) (xs := t) (fun x hx => by have := hn x hx; omega)
  have h2 := sum_bd (B := 100009) (by decide) (xs := t.map (fig sh)) (fun x hx => by
    obtain ⟨y, hy, rfl⟩ := List.mem_map.1 hx
    have := hn y hy
    exact fig_small hs (by omega))
  rw [List.length_map] at h2
  simp only [figO]
  omega
theorem tot_bdB {sh : Sh} {e : Int} (hs : isSh sh = true) (he : 0 ≤ e ∧ e ≤ 8) : (-1000000 ≤ (rTot sh e).1 ∧ (rTot sh e).1 ≤ 1000000) ∧ (-1000000 ≤ (rTot sh e).2 ∧ (rTot sh e).2 ≤ 1000000) := by
  have key : ∀ x, (∃ t, truK e sh.rows t = true ∧ fig sh (sumI t) = x) → -1000000 ≤ x ∧ x ≤ 1000000 := by
    rintro x ⟨t, ht, rfl⟩
    have h1 := tru_smallB hs he ht
    have := fig_b (sh := sh) (v := sumI t) (B := 500045) hs h1.1
    omega
  have h := endT_E (F := fig sh) he.1 sh.rows (fun k _ => fig sh k)
  exact ⟨key _ h.1, key _ h.2.1⟩
theorem dif_bdB {sh : Sh} {e : Int} (hs : isSh sh = true) (he : 0 ≤ e ∧ e ≤ 8) : (-2000000 ≤ (rDif sh e).1 ∧ (rDif sh e).1 ≤ 2000000) ∧ (-2000000 ≤ (rDif sh e).2 ∧ (rDif sh e).2 ≤ 2000000) := by
  have key : ∀ x, (∃ t, truK e sh.rows t = true ∧ figO (fig sh) t - fig sh (sumI t) = x) → -2000000 ≤ x ∧ x ≤ 2000000 := by
    rintro x ⟨t, ht, rfl⟩
    have h1 := tru_smallB hs he ht
    have := fig_b (sh := sh) (v := sumI t) (B := 500045) hs h1.1
    omega
  have h := endT_E (F := fig sh) he.1 sh.rows (fun k a => a - fig sh k)
  exact ⟨key _ h.1, key _ h.2.1⟩

set_option maxRecDepth 20000 in
theorem w_RoundTurned_no (sh : Sh) (pt : Pt) (gd : Int) (row : Int) (w : World) (hre : Ro w 0 w.heap.size pt.ea sh.errs.length pt.ec 1 (ints sh.errs)) (hrr : Ro w 0 w.heap.size pt.ra sh.rows.length pt.rc 1 (ints sh.rows)) (ho : okG sh gd = false) (hg : Gl w) : Calls Tryz.prog 4 #[shV sh pt, (.int .i64 gd), (.int .i64 row)] w (RetV w (.bool true)) := by
  refine calls_T0 (av := [_, _, _]) Tryz.func4 rfl rfl rfl ?_
  refine t_seq ?_
  refine t_reg ?_
  refine to_box rfl rfl (fun b3 => ?_)
  refine to_as rfl rfl ?_
  refine to_nil ?_
  refine tn_code ?_
  refine t_seq ?_
  refine t_seq ?_
  refine t_reg ?_
  first | refine to_lda rfl rfl rfl ?_ | refine to_ldea rfl (by assumption) rfl rfl ?_
  refine to_mv rfl rfl ?_
  refine to_call0 rfl rfl (fun w s => law_right sh pt _ w (rdw s) (rdw s)) rfl ?_
  refine to_fix (s := 30) (b' := false) rfl (ho) ?_
  refine to_not rfl rfl ?_
  refine to_mv rfl rfl ?_
  refine to_gf rfl rfl rfl rfl ?_
  refine to_gf rfl rfl rfl rfl ?_
  refine to_gf rfl rfl rfl rfl ?_
  refine to_pkT rfl rfl rfl ?_
  refine to_mv rfl rfl ?_
  refine to_gf rfl rfl rfl rfl ?_
  refine to_gf rfl rfl rfl rfl ?_
  refine to_gf rfl rfl rfl rfl ?_
  refine to_gf rfl rfl rfl rfl ?_
  refine to_pkT rfl rfl rfl ?_
  refine to_nil ?_
  refine tn_code ?_
  refine t_ifT rfl ?_
  refine t_seq ?_
  refine t_reg ?_
  refine to_call0 rfl rfl (fun w s => law_known w (gl_up hg (belowH_of s))) rfl ?_
  refine to_as rfl rfl ?_
  refine to_nil ?_
  refine tn_code ?_
  refine t_ret1 rfl rfl (res_tmp rfl) (fun w' s => ?_)
  rfl

set_option maxRecDepth 20000 in
theorem w_RoundTurned_r3 (sh : Sh) (pt : Pt) (gd : Int) (row : Int) (w : World) (hre : Ro w 0 w.heap.size pt.ea sh.errs.length pt.ec 1 (ints sh.errs)) (hrr : Ro w 0 w.heap.size pt.ra sh.rows.length pt.rc 1 (ints sh.rows)) (hs : isSh sh = true) (k : Nat) (e : Int) (hgk : gd = (k : Int)) (he : sh.errs[k]? = some e) (hru : sh.rule = 3) (hg : Gl w) : Calls Tryz.prog 4 #[shV sh pt, (.int .i64 gd), (.int .i64 row)] w (RetV w (.bool true)) := by
  subst hgk
  have heb := errs_b (isSh_e hs) e (List.mem_of_getElem? he)
  have hbb := isSh_b hs
  have hxe := map_get (f := intC) he
  have hke := (List.getElem?_eq_some_iff.1 he).1
  have hok := okG_t hs he
  refine calls_T0 (av := [_, _, _]) Tryz.func4 rfl rfl rfl ?_
  refine t_seq ?_
  refine t_reg ?_
  refine to_box rfl rfl (fun b3 => ?_)
  refine to_as rfl rfl ?_
  refine to_nil ?_
  refine tn_code ?_
  refine t_seq ?_
  refine t_seq ?_
  refine t_reg ?_
  first | refine to_lda rfl rfl rfl ?_ | refine to_ldea rfl (by assumption) rfl rfl ?_
  refine to_mv rfl rfl ?_
  refine to_call0 rfl rfl (fun w s => law_right sh pt _ w (rdw s) (rdw s)) rfl ?_
  refine to_fix (s := 30) (b' := true) rfl (hok) ?_
  refine to_not rfl rfl ?_
  refine to_mv rfl rfl ?_
  refine to_gt rfl rfl ?_
  first | refine to_fa rfl rfl rfl (by simp only [Nat.reduceAdd]; rfl) rfl ?_ | refine to_fae rfl rfl rfl (by simp only [Nat.reduceAdd]; rfl) rfl ?_
  refine to_gt rfl rfl ?_
  first | refine to_lds rfl rfl rfl ?_ | refine to_ldes rfl (by assumption) rfl rfl ?_
  refine to_gt rfl rfl ?_
  refine to_eql rfl rfl rfl ?_
  refine to_fix (s := 35) (b' := true) rfl (decide_eq_true hru) ?_
  refine to_pkF rfl rfl rfl ?_
  refine to_mv rfl rfl ?_
  refine to_gf rfl rfl rfl rfl ?_
  refine to_gf rfl rfl rfl rfl ?_
  refine to_gf rfl rfl rfl rfl ?_
  refine to_gf rfl rfl rfl rfl ?_
  refine to_pkT rfl rfl rfl ?_
  refine to_nil ?_
  refine tn_code ?_
  refine t_ifT rfl ?_
  refine t_seq ?_
  refine t_reg ?_
  refine to_call0 rfl rfl (fun w s => law_known w (gl_up hg (belowH_of s))) rfl ?_
  refine to_as rfl rfl ?_
  refine to_nil ?_
  refine tn_code ?_
  refine t_ret1 rfl rfl (res_tmp rfl) (fun w' s => ?_)
  rfl

set_option maxRecDepth 20000 in
theorem w_RoundTurned_rN (sh : Sh) (pt : Pt) (gd : Int) (row : Int) (w : World) (hre : Ro w 0 w.heap.size pt.ea sh.errs.length pt.ec 1 (ints sh.errs)) (hrr : Ro w 0 w.heap.size pt.ra sh.rows.length pt.rc 1 (ints sh.rows)) (hs : isSh sh = true) (k : Nat) (e : Int) (hgk : gd = (k : Int)) (he : sh.errs[k]? = some e) (hru : ¬ sh.rule = 3) (hrn : inB row 0 (sh.rows.length - 1) = false) (hg : Gl w) : Calls Tryz.prog 4 #[shV sh pt, (.int .i64 gd), (.int .i64 row)] w (RetV w (.bool true)) := by
  subst hgk
  have heb := errs_b (isSh_e hs) e (List.mem_of_getElem? he)
  have hbb := isSh_b hs
  have hxe := map_get (f := intC) he
  have hke := (List.getElem?_eq_some_iff.1 he).1
  have hok := okG_t hs he
  refine calls_T0 (av := [_, _, _]) Tryz.func4 rfl rfl rfl ?_
  refine t_seq ?_
  refine t_reg ?_
  refine to_box rfl rfl (fun b3 => ?_)
  refine to_as rfl rfl ?_
  refine to_nil ?_
  refine tn_code ?_
  refine t_seq ?_
  refine t_seq ?_
  refine t_reg ?_
  first | refine to_lda rfl rfl rfl ?_ | refine to_ldea rfl (by assumption) rfl rfl ?_
  refine to_mv rfl rfl ?_
  refine to_call0 rfl rfl (fun w s => law_right sh pt _ w (rdw s) (rdw s)) rfl ?_
  refine to_fix (s := 30) (b' := true) rfl (hok) ?_
  refine to_not rfl rfl ?_
  refine to_mv rfl rfl ?_
  refine to_gt rfl rfl ?_
  first | refine to_fa rfl rfl rfl (by simp only [Nat.reduceAdd]; rfl) rfl ?_ | refine to_fae rfl rfl rfl (by simp only [Nat.reduceAdd]; rfl) rfl ?_
  refine to_gt rfl rfl ?_
  first | refine to_lds rfl rfl rfl ?_ | refine to_ldes rfl (by assumption) rfl rfl ?_
  refine to_gt rfl rfl ?_
  refine to_eql rfl rfl rfl ?_
  refine to_fix (s := 35) (b' := false) rfl (decide_eq_false hru) ?_
  refine to_pkF rfl rfl rfl ?_
  refine to_mv rfl rfl ?_
  refine to_gt rfl rfl ?_
  first | refine to_lda rfl rfl rfl ?_ | refine to_ldea rfl (by assumption) rfl rfl ?_
  refine to_gt rfl rfl ?_
  refine to_mv rfl rfl ?_
  refine to_gt rfl rfl ?_
  refine to_call0 rfl rfl (fun w s => ref_Row sh pt _ w (by omega)) rfl ?_
  refine to_fix (s := 40) (b' := false) rfl (hrn) ?_
  refine to_gt rfl rfl ?_
  refine to_not rfl rfl ?_
  refine to_pkF rfl rfl rfl ?_
  refine to_nil ?_
  refine tn_code ?_
  refine t_ifT rfl ?_
  refine t_seq ?_
  refine t_reg ?_
  refine to_call0 rfl rfl (fun w s => law_known w (gl_up hg (belowH_of s))) rfl ?_
  refine to_as rfl rfl ?_
  refine to_nil ?_
  refine tn_code ?_
  refine t_ret1 rfl rfl (res_tmp rfl) (fun w' s => ?_)
  rfl

set_option maxRecDepth 20000 in
theorem w_RoundTurned_ok (sh : Sh) (pt : Pt) (gd : Int) (row : Int) (w : World) (hre : Ro w 0 w.heap.size pt.ea sh.errs.length pt.ec 1 (ints sh.errs)) (hrr : Ro w 0 w.heap.size pt.ra sh.rows.length pt.rc 1 (ints sh.rows)) (hs : isSh sh = true) (k : Nat) (e : Int) (hgk : gd = (k : Int)) (he : sh.errs[k]? = some e) (hru : ¬ sh.rule = 3) (i : Nat) (r : Int) (hri : row = (i : Int)) (hr : sh.rows[i]? = some r) (hg : Gl w) : Calls Tryz.prog 4 #[shV sh pt, (.int .i64 gd), (.int .i64 row)] w (RetV w (.bool true)) := by
  subst hgk
  have heb := errs_b (isSh_e hs) e (List.mem_of_getElem? he)
  have hbb := isSh_b hs
  have hxe := map_get (f := intC) he
  have hke := (List.getElem?_eq_some_iff.1 he).1
  have hok := okG_t hs he
  have h9 : sh.rule ≠ 3 := hru
  subst hri
  have hrt := row_ok hr
  have hrb := isSh_r hs (List.mem_of_getElem? hr)
  have hxr := map_get (f := intC) hr
  have hir := (List.getElem?_eq_some_iff.1 hr).1
  have hfl := fig_len sh e
  have htl2 := turn_len sh e
  have hxf := figL_get (e := e) hr
  have hxt := turn_figL hs h9 e hr
  have hf1 := fig_small hs (v := r - e) (by omega)
  have hf2 := fig_small hs (v := r + e) (by omega)
  have htb := tot_bdB hs heb
  have hdb := dif_bdB hs heb
  refine calls_T0 (av := [_, _, _]) Tryz.func4 rfl rfl rfl ?_
  refine t_seq ?_
  refine t_reg ?_
  refine to_box rfl rfl (fun b3 => ?_)
  refine to_as rfl rfl ?_
  refine to_nil ?_
  refine tn_code ?_
  refine t_seq ?_
  refine t_seq ?_
  refine t_reg ?_
  first | refine to_lda rfl rfl rfl ?_ | refine to_ldea rfl (by assumption) rfl rfl ?_
  refine to_mv rfl rfl ?_
  refine to_call0 rfl rfl (fun w s => law_right sh pt _ w (rdw s) (rdw s)) rfl ?_
  refine to_fix (s := 30) (b' := true) rfl (hok) ?_
  refine to_not rfl rfl ?_
  refine to_mv rfl rfl ?_
  refine to_gt rfl rfl ?_
  first | refine to_fa rfl rfl rfl (by simp only [Nat.reduceAdd]; rfl) rfl ?_ | refine to_fae rfl rfl rfl (by simp only [Nat.reduceAdd]; rfl) rfl ?_
  refine to_gt rfl rfl ?_
  first | refine to_lds rfl rfl rfl ?_ | refine to_ldes rfl (by assumption) rfl rfl ?_
  refine to_gt rfl rfl ?_
  refine to_eql rfl rfl rfl ?_
  refine to_fix (s := 35) (b' := false) rfl (decide_eq_false hru) ?_
  refine to_pkF rfl rfl rfl ?_
  refine to_mv rfl rfl ?_
  refine to_gt rfl rfl ?_
  first | refine to_lda rfl rfl rfl ?_ | refine to_ldea rfl (by assumption) rfl rfl ?_
  refine to_gt rfl rfl ?_
  refine to_mv rfl rfl ?_
  refine to_gt rfl rfl ?_
  refine to_call0 rfl rfl (fun w s => ref_Row sh pt _ w (by omega)) rfl ?_
  refine to_fix (s := 40) (b' := true) rfl (hrt) ?_
  refine to_gt rfl rfl ?_
  refine to_not rfl rfl ?_
  refine to_pkF rfl rfl rfl ?_
  refine to_nil ?_
  refine tn_code ?_
  refine t_ifF rfl ?_
  refine t_skip ?_
  refine tn_code ?_
  refine t_seq ?_
  refine t_reg ?_
  first | refine to_lda rfl rfl rfl ?_ | refine to_ldea rfl (by assumption) rfl rfl ?_
  refine to_callR rfl rfl (fun w s => law_turned sh pt w (rdw s) (rdw s) hs) rfl (fun v45 lo45 w45 hlo45 hR45 => ?_)
  obtain ⟨ra, rc, rfl, hro45⟩ := hR45
  refine to_alloc rfl (fun b7 => ?_)
  first | refine to_st rfl rfl rfl rfl ?_ | refine to_ste rfl rfl (by assumption) rfl rfl ?_
  refine to_nil ?_
  refine tn_code ?_
  refine t_seq ?_
  refine t_reg ?_
  first | refine to_lda rfl rfl rfl ?_ | refine to_ldea rfl (by assumption) rfl rfl ?_
  refine to_mv rfl rfl ?_
  refine to_callR rfl rfl (fun w s => c_FigG (rdw s) (rdw s) hs he rfl) rfl (fun v49 lo49 w49 hlo49 hR49 => ?_)
  obtain ⟨pa49, pc49, rfl, hro49⟩ := hR49
  rw [hfl] at *
  refine to_mv rfl rfl ?_
  refine to_ex rfl rfl rfl ?_
  refine to_ex rfl rfl rfl ?_
  refine to_as rfl rfl ?_
  refine to_as rfl rfl ?_
  refine to_nil ?_
  refine tn_code ?_
  refine t_seq ?_
  refine t_reg ?_
  first | refine to_lda rfl rfl rfl ?_ | refine to_ldea rfl (by assumption) rfl rfl ?_
  refine to_mv rfl rfl ?_
  refine to_callR rfl rfl (fun w s => t_Fig (rdw s) (rdw s) hs he) rfl (fun v55 lo55 w55 hlo55 hR55 => ?_)
  obtain ⟨pa55, pc55, rfl, hro55⟩ := hR55
  rw [htl2] at *
  refine to_mv rfl rfl ?_
  refine to_ex rfl rfl rfl ?_
  refine to_ex rfl rfl rfl ?_
  refine to_as rfl rfl ?_
  refine to_as rfl rfl ?_
  refine to_nil ?_
  refine tn_code ?_
  refine t_seq ?_
  refine t_reg ?_
  first | refine to_lda rfl rfl rfl ?_ | refine to_ldea rfl (by assumption) rfl rfl ?_
  refine to_mv rfl rfl ?_
  refine to_call0 rfl rfl (fun w s => c_TotG (rdw s) (rdw s) hs he rfl) rfl ?_
  refine to_mv rfl rfl ?_
  refine to_ex rfl rfl rfl ?_
  refine to_ex rfl rfl rfl ?_
  refine to_alloc rfl (fun b12 => ?_)
  first | refine to_st rfl rfl rfl rfl ?_ | refine to_ste rfl rfl (by assumption) rfl rfl ?_
  refine to_as rfl rfl ?_
  refine to_nil ?_
  refine tn_code ?_
  refine t_seq ?_
  refine t_reg ?_
  first | refine to_lda rfl rfl rfl ?_ | refine to_ldea rfl (by assumption) rfl rfl ?_
  refine to_mv rfl rfl ?_
  refine to_call0 rfl rfl (fun w s => t_Tot (rdw s) (rdw s) hs he h9) rfl ?_
  refine to_mv rfl rfl ?_
  refine to_ex rfl rfl rfl ?_
  refine to_ex rfl rfl rfl ?_
  refine to_alloc rfl (fun b14 => ?_)
  first | refine to_st rfl rfl rfl rfl ?_ | refine to_ste rfl rfl (by assumption) rfl rfl ?_
  refine to_as rfl rfl ?_
  refine to_nil ?_
  refine tn_code ?_
  refine t_seq ?_
  refine t_reg ?_
  first | refine to_lda rfl rfl rfl ?_ | refine to_ldea rfl (by assumption) rfl rfl ?_
  refine to_mv rfl rfl ?_
  refine to_call0 rfl rfl (fun w s => c_DifG (rdw s) (rdw s) hs he rfl) rfl ?_
  refine to_mv rfl rfl ?_
  refine to_ex rfl rfl rfl ?_
  refine to_ex rfl rfl rfl ?_
  refine to_alloc rfl (fun b16 => ?_)
  first | refine to_st rfl rfl rfl rfl ?_ | refine to_ste rfl rfl (by assumption) rfl rfl ?_
  refine to_as rfl rfl ?_
  refine to_nil ?_
  refine tn_code ?_
  refine t_seq ?_
  refine t_reg ?_
  first | refine to_lda rfl rfl rfl ?_ | refine to_ldea rfl (by assumption) rfl rfl ?_
  refine to_mv rfl rfl ?_
  refine to_call0 rfl rfl (fun w s => t_Dif (rdw s) (rdw s) hs he h9) rfl ?_
  refine to_mv rfl rfl ?_
  refine to_ex rfl rfl rfl ?_
  refine to_ex rfl rfl rfl ?_
  refine to_alloc rfl (fun b18 => ?_)
  first | refine to_st rfl rfl rfl rfl ?_ | refine to_ste rfl rfl (by assumption) rfl rfl ?_
  refine to_as rfl rfl ?_
  refine to_nil ?_
  refine tn_code ?_
  refine t_seq ?_
  refine t_reg ?_
  first | refine to_lda rfl rfl rfl ?_ | refine to_ldea rfl (by assumption) rfl rfl ?_
  refine to_mv rfl rfl ?_
  refine to_call0 rfl rfl (fun w s => r_Need sh pt (i : Int) w (rdw s) (rdw s) (by omega)) rfl ?_
  refine to_mv rfl rfl ?_
  refine to_ex rfl rfl rfl ?_
  refine to_ex rfl rfl rfl ?_
  refine to_as rfl rfl ?_
  refine to_as rfl rfl ?_
  refine to_nil ?_
  refine tn_code ?_
  refine t_seq ?_
  refine t_reg ?_
  first | refine to_lda rfl rfl rfl ?_ | refine to_ldea rfl (by assumption) rfl rfl ?_
  refine to_mv rfl rfl ?_
  refine to_call0 rfl rfl (fun w s => t_Need (k := k) (e := e) (rdw s) (rdw s) hs hr h9) rfl ?_
  refine to_mv rfl rfl ?_
  refine to_ex rfl rfl rfl ?_
  refine to_ex rfl rfl rfl ?_
  refine to_as rfl rfl ?_
  refine to_as rfl rfl ?_
  refine to_nil ?_
  refine tn_code ?_
  refine t_seq ?_
  refine t_reg ?_
  first | refine to_lda rfl rfl rfl ?_ | refine to_ldea rfl (by assumption) rfl rfl ?_
  refine to_mv rfl rfl ?_
  refine to_call0 rfl rfl (fun w s => r_First_t sh pt k e w (rdw s) (rdw s) hs he) rfl ?_
  refine to_mv rfl rfl ?_
  refine to_ex rfl rfl rfl ?_
  refine to_ex rfl rfl rfl ?_
  refine to_as rfl rfl ?_
  refine to_as rfl rfl ?_
  refine to_nil ?_
  refine tn_code ?_
  refine t_seq ?_
  refine t_reg ?_
  first | refine to_lda rfl rfl rfl ?_ | refine to_ldea rfl (by assumption) rfl rfl ?_
  refine to_mv rfl rfl ?_
  refine to_call0 rfl rfl (fun w s => t_Fst (rdw s) (rdw s) hs he h9) rfl ?_
  refine to_mv rfl rfl ?_
  refine to_ex rfl rfl rfl ?_
  refine to_ex rfl rfl rfl ?_
  refine to_as rfl rfl ?_
  refine to_as rfl rfl ?_
  refine to_nil ?_
  refine tn_code ?_
  refine t_seq ?_
  refine t_seq ?_
  refine t_reg ?_
  refine to_mv rfl rfl ?_
  refine to_neq rfl rfl rfl ?_
  refine to_fix (s := 107) (b' := false) rfl (rfl) ?_
  refine to_mv rfl rfl ?_
  refine to_gt rfl rfl ?_
  refine to_mv rfl rfl ?_
  refine to_gt rfl rfl ?_
  refine to_neq rfl rfl rfl ?_
  refine to_fix (s := 110) (b' := false) rfl (rfl) ?_
  refine to_pkF rfl rfl rfl ?_
  refine to_mv rfl rfl ?_
  refine to_gt rfl rfl ?_
  refine to_mv rfl rfl ?_
  refine to_gt rfl rfl ?_
  refine to_neq rfl rfl rfl ?_
  refine to_fix (s := 114) (b' := false) rfl (rfl) ?_
  refine to_pkF rfl rfl rfl ?_
  refine to_mv rfl rfl ?_
  refine to_gt rfl rfl ?_
  refine to_mv rfl rfl ?_
  refine to_gt rfl rfl ?_
  refine to_neq rfl rfl rfl ?_
  refine to_fix (s := 118) (b' := false) rfl (rfl) ?_
  refine to_pkF rfl rfl rfl ?_
  refine to_mv rfl rfl ?_
  refine to_gt rfl rfl ?_
  refine to_mv rfl rfl ?_
  refine to_gt rfl rfl ?_
  refine to_neq rfl rfl rfl ?_
  refine to_fix (s := 122) (b' := false) rfl (rfl) ?_
  refine to_pkF rfl rfl rfl ?_
  refine to_mv rfl rfl ?_
  refine to_gt rfl rfl ?_
  refine to_mv rfl rfl ?_
  refine to_gt rfl rfl ?_
  refine to_neq rfl rfl rfl ?_
  refine to_fix (s := 126) (b' := false) rfl (rfl) ?_
  refine to_pkF rfl rfl rfl ?_
  refine to_mv rfl rfl ?_
  refine to_gt rfl rfl ?_
  refine to_mv rfl rfl ?_
  refine to_gt rfl rfl ?_
  refine to_mv rfl rfl ?_
  refine to_gt rfl rfl ?_
  refine to_neq rfl rfl rfl ?_
  refine to_fix (s := 131) (b' := false) rfl (by simp) ?_
  refine to_pkF rfl rfl rfl ?_
  refine to_mv rfl rfl ?_
  refine to_gt rfl rfl ?_
  refine to_mv rfl rfl ?_
  refine to_gt rfl rfl ?_
  refine to_mv rfl rfl ?_
  refine to_gt rfl rfl ?_
  refine to_neq rfl rfl rfl ?_
  refine to_fix (s := 136) (b' := false) rfl (by simp) ?_
  refine to_pkF rfl rfl rfl ?_
  refine to_mv rfl rfl ?_
  refine to_gt rfl rfl ?_
  refine to_mv rfl rfl ?_
  refine to_gt rfl rfl ?_
  refine to_mv rfl rfl ?_
  refine to_gt rfl rfl ?_
  refine to_neq rfl rfl rfl ?_
  refine to_fix (s := 141) (b' := false) rfl (by simp) ?_
  refine to_pkF rfl rfl rfl ?_
  refine to_mv rfl rfl ?_
  refine to_gt rfl rfl ?_
  refine to_mv rfl rfl ?_
  refine to_gt rfl rfl ?_
  refine to_mv rfl rfl ?_
  refine to_gt rfl rfl ?_
  refine to_neq rfl rfl rfl ?_
  refine to_fix (s := 146) (b' := false) rfl (by simp) ?_
  refine to_pkF rfl rfl rfl ?_
  refine to_mv rfl rfl ?_
  refine to_gt rfl rfl ?_
  refine to_mv rfl rfl ?_
  refine to_gt rfl rfl ?_
  refine to_lenS rfl rfl ?_
  refine to_gt rfl rfl ?_
  first | refine to_fa rfl rfl rfl (by simp only [Nat.reduceAdd]; rfl) rfl ?_ | refine to_fae rfl rfl rfl (by simp only [Nat.reduceAdd]; rfl) rfl ?_
  refine to_gt rfl rfl ?_
  first | refine to_lds rfl rfl rfl ?_ | refine to_ldes rfl (by assumption) rfl rfl ?_
  refine to_gt rfl rfl ?_
  refine to_lenS rfl rfl ?_
  refine to_gt rfl rfl ?_
  refine to_neq rfl rfl rfl ?_
  refine to_fix (s := 154) (b' := false) rfl (by simp) ?_
  refine to_pkF rfl rfl rfl ?_
  refine to_mv rfl rfl ?_
  refine to_gt rfl rfl ?_
  refine to_mv rfl rfl ?_
  refine to_gt rfl rfl ?_
  refine to_lenS rfl rfl ?_
  refine to_gt rfl rfl ?_
  refine to_mv rfl rfl ?_
  refine to_gt rfl rfl ?_
  refine to_lenS rfl rfl ?_
  refine to_gt rfl rfl ?_
  refine to_neq rfl rfl rfl ?_
  refine to_fix (s := 161) (b' := false) rfl (by simp) ?_
  refine to_pkF rfl rfl rfl ?_
  refine to_nil ?_
  refine tn_code ?_
  refine t_ifF rfl ?_
  refine t_skip ?_
  refine tn_code ?_
  refine t_seq ?_
  refine t_regD rfl (by kernel_rfl) (by kernel_rfl) ?_
  refine to_mv rfl rfl ?_
  refine to_mv rfl rfl ?_
  first | refine to_ix rfl rfl rfl (by first | omega | decide) (by first | omega | decide) rfl ?_ | refine to_ixi rfl rfl rfl (by omega) (by omega) (by omega) rfl ?_
  first | refine to_lda rfl rfl rfl ?_ | refine to_ldea rfl (by assumption) rfl rfl ?_
  refine to_mv rfl rfl ?_
  refine to_mv rfl rfl ?_
  first | refine to_ix rfl rfl rfl (by first | omega | decide) (by first | omega | decide) rfl ?_ | refine to_ixi rfl rfl rfl (by omega) (by omega) (by omega) rfl ?_
  first | refine to_lda rfl rfl rfl ?_ | refine to_ldea rfl (by assumption) rfl rfl ?_
  refine to_call0 rfl rfl (fun w s => law_opp (fig sh (r - e), fig sh (r + e)) w ⟨by dsimp only; omega, by dsimp only; omega⟩) rfl ?_
  refine to_eqs rfl rfl rfl rfl rfl rfl rfl ?_
  refine to_fix (s := 172) (b' := true) rfl (ieq_refl' (isI_span' _)) ?_
  refine to_mv rfl rfl ?_
  refine to_gt rfl rfl ?_
  first | refine to_lda rfl rfl rfl ?_ | refine to_ldea rfl (by assumption) rfl rfl ?_
  refine to_gt rfl rfl ?_
  first | refine to_lda rfl rfl rfl ?_ | refine to_ldea rfl (by assumption) rfl rfl ?_
  refine to_gt rfl rfl ?_
  refine to_call0 rfl rfl (fun w s => law_opp (rTot sh e) w ⟨by omega, by omega⟩) rfl ?_
  refine to_gt rfl rfl ?_
  refine to_eqs rfl rfl rfl rfl rfl rfl rfl ?_
  refine to_fix (s := 177) (b' := true) rfl (ieq_refl' (isI_span' _)) ?_
  refine to_pkT rfl rfl rfl ?_
  refine to_mv rfl rfl ?_
  refine to_gt rfl rfl ?_
  first | refine to_lda rfl rfl rfl ?_ | refine to_ldea rfl (by assumption) rfl rfl ?_
  refine to_gt rfl rfl ?_
  first | refine to_lda rfl rfl rfl ?_ | refine to_ldea rfl (by assumption) rfl rfl ?_
  refine to_gt rfl rfl ?_
  refine to_call0 rfl rfl (fun w s => law_opp (rDif sh e) w hdb) rfl ?_
  refine to_gt rfl rfl ?_
  refine to_eqs rfl rfl rfl rfl rfl rfl rfl ?_
  refine to_fix (s := 183) (b' := true) rfl (ieq_refl' (isI_span' _)) ?_
  refine to_pkT rfl rfl rfl ?_
  refine to_mv rfl rfl ?_
  refine to_gt rfl rfl ?_
  refine to_call0 rfl rfl (fun w s => law_known w (gl_up hg (belowH_of s))) rfl ?_
  refine to_pkT rfl rfl rfl ?_
  refine to_as rfl rfl ?_
  refine to_nil ?_
  refine tn_code ?_
  refine t_ret1 rfl rfl (res_tmp rfl) (fun w' s => ?_)
  rfl

theorem w_RoundTurned (sh : Sh) (pt : Pt) (gd row : Int) (w : World) (hre : Ro w 0 w.heap.size pt.ea sh.errs.length pt.ec 1 (ints sh.errs)) (hrr : Ro w 0 w.heap.size pt.ra sh.rows.length pt.rc 1 (ints sh.rows)) (hg : Gl w) : Calls Tryz.prog 4 #[shV sh pt, .int .i64 gd, .int .i64 row] w (RetV w (.bool true)) := by
  rcases bool_tf (okG sh gd) with ho | ho
  · obtain ⟨hs, k, e, hk, he⟩ := okG_b ho
    by_cases hru : sh.rule = 3
    · exact w_RoundTurned_r3 sh pt gd row w hre hrr hs k e hk he hru hg
    · rcases bool_tf (inB row 0 (sh.rows.length - 1)) with hrn | hrn
      · obtain ⟨i, r, hi, hr⟩ := row_ex hrn
        exact w_RoundTurned_ok sh pt gd row w hre hrr hs k e hk he hru i r hi hr hg
      · exact w_RoundTurned_rN sh pt gd row w hre hrr hs k e hk he hru hrn hg
  · exact w_RoundTurned_no sh pt gd row w hre hrr ho hg

end Go.Proofs


namespace Go.Proofs.YtebellbkmioadabGreatDoor
open Go Go.Sx Go.RowKit Go.WideShapes Go.ChangeShapes

section
variable {H : Type} {enc : TypeId × Value → H}
set_option maxRecDepth 100000 in
theorem roundTurned_law (W : World) (base : Nat) (args : Array Value) (ds : List (DataW H)) (p : List MemPlace) (hval : ∀ (j : Nat) t v, Tryz.f4.params[j]? = some t → args[j]? = some v → Value.okWide Tryz.prog W .any base t v)
    (hA : DataW.TrodAll enc Tryz.prog W 0 (fun _ => true) true Tryz.f4.params.toList args.toList ds p) (hg : Gl W) : Calls Tryz.prog 4 args W (RetV W (.bool true)) := by
  obtain ⟨l⟩ := args
  rw [Tryz.params4] at hA hval
  obtain ⟨v0, l0, d0, e0, p0, q0, hl0, rfl, h0, hA0⟩ := trodAll_cons hA
  have hl0' : l = v0 :: l0 := hl0
  subst hl0'
  obtain ⟨v1, l1, d1, e1, p1, q1, hl1, rfl, h1, hA1⟩ := trodAll_cons hA0
  subst hl1
  obtain ⟨v2, l2, d2, e2, p2, q2, hl2, rfl, h2, hA2⟩ := trodAll_cons hA1
  subst hl2
  obtain rfl := trodAll_nil hA2
  obtain ⟨sh0, pt0, rfl, hre0, hrr0⟩ := open_sh (hval 0 25 v0 rfl rfl) h0
  obtain ⟨n1, rfl, _⟩ := open_i u3 (hval 1 3 v1 rfl rfl) h1
  obtain ⟨n2, rfl, _⟩ := open_i u3 (hval 2 3 v2 rfl rfl) h2
  exact w_RoundTurned sh0 pt0 n1 n2 W hre0 hrr0 hg
end

set_option maxRecDepth 100000 in
theorem roundTurned_lifted (os : Os) (started : os.Started) (H : Type) (enc : TypeId × Value → H) :
    ReturnsInHanded {} Tryz.checked os 4 .any (fun w args => (Rows.roundTurnedSpec.pre enc Tryz.prog Tryz.f4 [] false w args ∧ laidMetH Tryz.prog laidL w) ∧ sizedMet enc Tryz.prog Tryz.f4 (OpenSpec.ofChange Rows.roundTurnedSpec) false w args)
      (Rows.roundTurnedSpec.post enc Tryz.prog Tryz.f4 false true false false) :=
  law_lifted started (by kernel_rfl) Tryz.func4 rfl rfl (by kernel_rfl) (fun ds h => by
      match ds, h with
      | [_, _, _], _ => rfl)
    (ChangeSpec.witness_shaped (enc := enc) (C := Tryz.checked) (os := os) (X := fun w _ => laidMetH Tryz.prog laidL w) false (World.laidAll Tryz.prog os laidL) #[.agg #[.int .i64 0, .int .i64 0, .slice none 0 0, .slice none 0 0], .int .i64 0, .int .i64 0] 8 (World.laidAll_os _ _ _)
      (World.shaped_of_ZipB (by kernel_rfl) (by kernel_rfl)) (by kernel_rfl) (by kernel_rfl) (by kernel_rfl)
      (by rw [MakeChecks.laidMetH_plain _ _ _ (by kernel_rfl)]; exact laidMet_laidAll _ (by kernel_rfl) (by kernel_rfl)))
    (fun W base args ds p hval hA hg => roundTurned_law W base args ds p hval hA hg)

theorem roundTurned_holds : Rows.RoundTurnedSaid :=
  OpenClaim.holds_of_wide 4 Tryz.f4 rfl rfl rfl rfl rfl rfl rfl ⟨rfl, rfl, rfl, rfl, rfl⟩ rfl rfl rfl rfl rfl (by kernel_rfl) Tryz.func4 (by kernel_rfl)
    (of_decide_eq_true (by kernel_rfl)) (by unfold Func.isWrapper; first | (rw [if_pos (by decide +kernel)]; kernel_rfl) | (rw [if_neg (by decide +kernel)]; exact ⟨rfl, rfl⟩))
    (fun os started H enc _ => roundTurned_lifted os started H enc)

theorem roundTurned_card : Rows.RoundTurnedCardSaid :=
  Claim7.holds_tied_plain_at .later [] [.data, .data, .data, .data, .pinned] true (true, "54bc54d732b00ab41745012f143d3a299984cc0782d0007b60a3d798b30a7197") true
    roundTurned_holds (fun _ h => by cases h) (by kernel_rfl) (fun _ h => by cases h) roundTurned_row_tie rfl ⟨rfl, rfl⟩ (by kernel_rfl) rfl
    (fun f fn hf hfn => by
      obtain rfl : f = 4 := Option.some.inj ((show Tryz.prog.funcNamed "ephemerist/ephemeristlaw04.RoundTurned" = some 4 by kernel_rfl).symm.trans hf) |>.symm
      obtain rfl : fn = Tryz.f4 := (Option.some.inj (Tryz.func4.symm.trans hfn)).symm
      exact ⟨by kernel_rfl, fun j t ht => by
        rw [Tryz.params4] at ht
        have hm : t ∈ [25, 3, 3] := by simpa using Array.mem_of_getElem? ht
        have hall : ([25, 3, 3].all fun u => !Tryz.prog.wantsStandIn u) = true := by kernel_rfl
        exact (show Tryz.prog.wantsStandIn t = false by simpa using List.all_eq_true.1 hall t hm)⟩)
    (by kernel_rfl)
end Go.Proofs.YtebellbkmioadabGreatDoor

