/- RoundProved: for every input the law returns true, and each argument reads behind the call as it read before. Conditions: the package-level variables that the row lists hold what the program's text lays (tied by the card). -/
import Derived.Test.YtebellbkmioadaaGreatDoorOwnC
import Derived.Test.YtebellbkmioadaaGreatDoorOwnE
import Derived.Test.YtebellbkmioadaaGreatDoorOwnF
import Derived.LaidOnce
import Derived.SevenTiedAt
import Derived.Test.YtebellbkmioadaaGreatDoorTie
import Derived.Test.YtebellbkmioadaaGreatDoorCards
set_option linter.unusedVariables false
set_option linter.unusedSimpArgs false
namespace Go.Proofs
open Go Go.Sx

/-! # Plain laws of round: rounding -/

/-! ## Numbers behind a figure -/

/-! ## Lists that lie on a map from one place on -/

end Go.Proofs


namespace Go.Proofs
open Go Go.Sx

/-! # Plain laws of round: what is sure -/

/-! ## More guard figures -/

theorem endT_E {F : Int → Int} {e : Int} (he : 0 ≤ e) (rows : List Int) (of : Int → Int → Int) : IsE (fun x => ∃ t, truK e rows t = true ∧ of (sumI t) (figO F t) = x) (some ((endT F e rows of).getD (0, 0))) := by
  have := endT_isE (F := F) he rows of
  rwa [endT_some he] at this
/-! ## Totals of truths -/

/-! ## The other sign -/

end Go.Proofs


namespace Go.Proofs
open Go Go.Sx

/-! # Plain laws of round: totals that fail -/

theorem failT_iff {sh : Sh} {t : List Int} : failT sh t = true ↔ figO (fig sh) t - fig sh (sumI t) ≠ 0 := by
  simp only [failT, decide_eq_true_eq]; omega
/-- No difference: nothing fails. -/
theorem fir_none {sh : Sh} {e : Int} {now : List Int} {z : Sp} (he : 0 ≤ e) (hz : IsE (fun x => ∃ t, truK e (sh.rows.drop now.length) t = true ∧ figO (fig sh) (now ++ t) - fig sh (sumI (now ++ t)) = x) (some z)) : firF sh e now = none ↔ z = (0, 0) := by
  rw [firF, List.find?_eq_none]
  constructor
  · intro h
    have key : ∀ x, (∃ t, truK e (sh.rows.drop now.length) t = true ∧ figO (fig sh) (now ++ t) - fig sh (sumI (now ++ t)) = x) → x = 0 := by
      rintro x ⟨t, ht, rfl⟩
      have h1 := h (now ++ t) (List.mem_map.2 ⟨t, (mem_truR he).2 ht, rfl⟩)
      have h2 : ¬ (figO (fig sh) (now ++ t) - fig sh (sumI (now ++ t)) ≠ 0) := fun hh => h1 (failT_iff.2 hh)
      omega
    exact Prod.ext (key _ hz.1) (key _ hz.2.1)
  · rintro rfl t ht hf
    obtain ⟨u, hu, rfl⟩ := List.mem_map.1 ht
    have h1 := hz.2.2 _ ⟨u, (mem_truR he).1 hu, rfl⟩
    have h2 := failT_iff.1 hf
    simp only at h1; omega
theorem dif_E {sh : Sh} {e : Int} (he : 0 ≤ e) : IsE (fun x => ∃ t, truK e sh.rows t = true ∧ figO (fig sh) t - fig sh (sumI t) = x) (some (rDif sh e)) := endT_E he sh.rows (fun k a => a - fig sh k)
theorem fir_dif {sh : Sh} {e : Int} (he : 0 ≤ e) : firF sh e [] = none ↔ rDif sh e = (0, 0) := fir_none he (by simpa using dif_E (sh := sh) he)
theorem befI_irr : ∀ a : List Int, befI a a = false
  | [] => rfl
  | x :: a => by simp [befI, befI_irr a]
theorem befI_asy : ∀ {a b : List Int}, befI a b = true → befI b a = false
  | [], _ :: _, _ => rfl
  | x :: a, [], h => by simp [befI] at h
  | [], [], h => by simp [befI] at h
  | x :: a, y :: b, h => by
    simp only [befI] at h ⊢
    by_cases hxy : x = y
    · subst hxy
      simp only [if_true] at h ⊢
      exact befI_asy h
    · rw [if_neg hxy] at h
      rw [if_neg (fun hh => hxy hh.symm)]
      have := of_decide_eq_true h
      exact decide_eq_false (by omega)
theorem rng_pair : ∀ (n : Nat) (lo : Int), (rngN lo n).Pairwise (· < ·)
  | 0, _ => List.Pairwise.nil
  | n + 1, lo => List.Pairwise.cons (fun x hx => by have := mem_rngN.1 hx; omega) (rng_pair n (lo + 1))
theorem truR_pair (e : Int) : ∀ rs : List Int, (truR e rs).Pairwise (fun a b => befI a b = true)
  | [] => by simp [truR]
  | r :: rs => by
    rw [truR, List.pairwise_flatMap]
    refine ⟨fun n _ => ?_, ?_⟩
    · rw [List.pairwise_map]
      exact (truR_pair e rs).imp (fun h => by simpa [befI] using h)
    · refine (rng_pair _ _).imp ?_
      intro n m hnm x hx y hy
      obtain ⟨x', _, rfl⟩ := List.mem_map.1 hx
      obtain ⟨y', _, rfl⟩ := List.mem_map.1 hy
      simp only [befI]
      rw [if_neg (by omega)]
      exact decide_eq_true hnm
theorem fir_def {sh : Sh} {e : Int} : firF sh e [] = (truR e sh.rows).find? (failT sh) := by simp [firF]
/-- The first truth that fails. -/
theorem fir_some {sh : Sh} {e : Int} (he : 0 ≤ e) {x : List Int} (h : firF sh e [] = some x) : truK e sh.rows x = true ∧ failT sh x = true ∧ ∀ t, truK e sh.rows t = true → failT sh t = true → befI t x = false := by
  rw [fir_def] at h
  refine ⟨(mem_truR he).1 (List.mem_of_find?_eq_some h), List.find?_some h, fun t ht hf => ?_⟩
  obtain ⟨hp, pre, suf, hl, ha⟩ := List.find?_eq_some_iff_append.1 h
  have hm := (mem_truR he).2 ht
  have hpw := truR_pair e sh.rows
  rw [hl] at hm hpw
  rcases List.mem_append.1 hm with hm | hm
  · have := ha t hm
    rw [hf] at this; cases this
  · rcases List.mem_cons.1 hm with rfl | hm
    · exact befI_irr _
    · exact befI_asy ((List.pairwise_cons.1 (List.pairwise_append.1 hpw).2.1).1 t hm)
theorem fir_fails {sh : Sh} {e : Int} (he : 0 ≤ e) (h : firF sh e [] = none) {t : List Int} (ht : truK e sh.rows t = true) : failT sh t = false := by
  rw [fir_def, List.find?_eq_none] at h
  have := h t ((mem_truR he).2 ht)
  simpa using this
theorem unt_last {sh : Sh} (h : 1 ≤ sh.rows.length) : untS sh (sh.rows.length - 1) = sh := by
  obtain ⟨u, r, es, rs⟩ := sh
  simp only at h
  simp only [untS]
  rw [show rs.length - 1 + 1 = rs.length by omega, List.take_length]
theorem rFst_cases (sh : Sh) (e : Int) : (∃ k : Nat, k < sh.rows.length ∧ rFst sh e = ((k : Int), 0) ∧ rDif (untS sh k) e ≠ (0, 0) ∧ ∀ j, j < k → rDif (untS sh j) e = (0, 0)) ∨ (rFst sh e = (0, 5) ∧ ∀ k, k < sh.rows.length → rDif (untS sh k) e = (0, 0)) := by
  by_cases hn : ∃ j : Nat, j < sh.rows.length ∧ rDif (untS sh j) e ≠ (0, 0)
  · have hex : ∃ j : Nat, (j < sh.rows.length ∧ rDif (untS sh j) e ≠ (0, 0)) ∧ ∀ i, i < j → rDif (untS sh i) e = (0, 0) := by
      obtain ⟨j, hj⟩ := hn
      induction j using Nat.strongRecOn with
      | _ j ih =>
        by_cases hc : ∃ i, i < j ∧ rDif (untS sh i) e ≠ (0, 0)
        · obtain ⟨i, h1, h2⟩ := hc
          exact ih i h1 ⟨by omega, h2⟩
        · refine ⟨j, hj, fun i hi => ?_⟩
          by_cases hq : rDif (untS sh i) e = (0, 0)
          · exact hq
          · exact absurd ⟨i, hi, hq⟩ hc
    obtain ⟨j, ⟨h1, h2⟩, h3⟩ := hex
    exact .inl ⟨j, h1, rFst_some h1 h3 h2, h2, h3⟩
  · have hall : ∀ k, k < sh.rows.length → rDif (untS sh k) e = (0, 0) := fun k hk => by
      by_cases hq : rDif (untS sh k) e = (0, 0)
      · exact hq
      · exact absurd ⟨k, hk, hq⟩ hn
    exact .inr ⟨rFst_none hall, hall⟩
/-! ## What is behind figures -/

end Go.Proofs


namespace Go.Proofs
open Go Go.Sx Go.RowKit

end Go.Proofs


namespace Go.Proofs
open Go Go.Sx Go.RowKit

theorem c_To_t {v u r : Int} (h : fineV v u r = true) (w : World) : Calls Tryz.prog 15 #[.int .i64 v, .int .i64 u, .int .i64 r] w (RetV w (.tuple #[.int .i64 (toF u r v), .int .i64 0])) := by
  have := r_To v u r w
  rw [show rTo v u r = (toF u r v, 0) by simp [rTo, h]] at this
  exact this
end Go.Proofs


namespace Go.Proofs
open Go Go.Sx Go.RowKit

theorem ref_arg {sh : Sh} (hs : isSh sh = true) : (1 ≤ sh.unit ∧ sh.unit ≤ 1048576) ∧ (1 ≤ sh.rule ∧ sh.rule ≤ 4) := by
  have := isSh_b hs
  omega
end Go.Proofs


namespace Go.Proofs
open Go Go.Sx Go.RowKit

set_option maxRecDepth 20000 in
theorem law_right (sh : Sh) (pt : Pt) (gd : Int) (w : World) (hre : Ro w 0 w.heap.size pt.ea sh.errs.length pt.ec 1 (ints sh.errs)) (hrr : Ro w 0 w.heap.size pt.ra sh.rows.length pt.rc 1 (ints sh.rows)) : Calls Tryz.prog 29 #[shV sh pt, (.int .i64 gd)] w (RetV w (.bool (okG sh gd))) := by
  have hok : okG sh gd = (isSh sh && inB gd 0 (sh.errs.length - 1)) := rfl
  refine calls_T0 (av := [_, _]) Tryz.func29 rfl rfl rfl ?_
  refine t_seq ?_
  refine t_reg ?_
  refine to_box rfl rfl (fun b2 => ?_)
  refine to_as rfl rfl ?_
  refine to_nil ?_
  refine tn_code ?_
  refine t_seq ?_
  refine t_reg ?_
  first | refine to_lda rfl rfl rfl ?_ | refine to_ldea rfl (by assumption) rfl rfl ?_
  refine to_call0 rfl rfl (fun w s => law_short _ _ w) rfl ?_
  refine to_mv rfl rfl ?_
  refine to_gs rfl rfl rfl (fun h1 => ?_) (fun h1 => ?_)
  · try simp only [decide_eq_true_eq, decide_eq_false_iff_not, Bool.not_eq_true', Bool.not_eq_false', Int.not_lt, Int.not_le, ne_eq, Decidable.not_not] at h1
    try have h1b := inB_iff.1 h1
    refine to_gt rfl rfl ?_
    first | refine to_lda rfl rfl rfl ?_ | refine to_ldea rfl (by assumption) rfl rfl ?_
    refine to_gt rfl rfl ?_
    refine to_call0 rfl rfl (fun w s => ref_Sheet sh pt w (rdw s) (rdw s)) rfl ?_
    refine to_pkT rfl rfl rfl ?_
    refine to_mv rfl rfl ?_
    refine to_gs rfl rfl rfl (fun h2 => ?_) (fun h2 => ?_)
    · try simp only [decide_eq_true_eq, decide_eq_false_iff_not, Bool.not_eq_true', Bool.not_eq_false', Int.not_lt, Int.not_le, ne_eq, Decidable.not_not] at h2
      try have h2b := inB_iff.1 h2
      have hsh : isSh sh = true := h2
      refine to_gt rfl rfl ?_
      first | refine to_lda rfl rfl rfl ?_ | refine to_ldea rfl (by assumption) rfl rfl ?_
      refine to_gt rfl rfl ?_
      refine to_mv rfl rfl ?_
      refine to_gt rfl rfl ?_
      refine to_call0 rfl rfl (fun w s => ref_Guard sh pt _ w (by have h9 := isSh_b hsh; omega)) rfl ?_
      refine to_pkT rfl rfl rfl ?_
      refine to_as rfl rfl ?_
      refine to_nil ?_
      refine tn_code ?_
      refine t_ret1 rfl rfl (res_tmp rfl) (fun w' s => ?_)
      first | (rw [hok]; simp_all; done) | (rw [hok]; simp [*]; done)
    · try simp only [decide_eq_true_eq, decide_eq_false_iff_not, Bool.not_eq_true', Bool.not_eq_false', Int.not_lt, Int.not_le, ne_eq, Decidable.not_not] at h2
      try have h2b := inB_iff.1 h2
      refine to_gf rfl rfl rfl rfl ?_
      refine to_gf rfl rfl rfl rfl ?_
      refine to_gf rfl rfl rfl rfl ?_
      refine to_pkF rfl rfl rfl ?_
      refine to_as rfl rfl ?_
      refine to_nil ?_
      refine tn_code ?_
      refine t_ret1 rfl rfl (res_tmp rfl) (fun w' s => ?_)
      first | (rw [hok]; simp_all; done) | (rw [hok]; simp [*]; done)
  · try simp only [decide_eq_true_eq, decide_eq_false_iff_not, Bool.not_eq_true', Bool.not_eq_false', Int.not_lt, Int.not_le, ne_eq, Decidable.not_not] at h1
    try have h1b := inB_iff.1 h1
    have hnot : isSh sh = false := (by rw [Bool.eq_false_iff]; intro hh; have h9 := isSh_b hh; simp at h1; omega)
    refine to_gf rfl rfl rfl rfl ?_
    refine to_gf rfl rfl rfl rfl ?_
    refine to_pkF rfl rfl rfl ?_
    refine to_mv rfl rfl ?_
    refine to_gf rfl rfl rfl rfl ?_
    refine to_gf rfl rfl rfl rfl ?_
    refine to_gf rfl rfl rfl rfl ?_
    refine to_pkF rfl rfl rfl ?_
    refine to_as rfl rfl ?_
    refine to_nil ?_
    refine tn_code ?_
    refine t_ret1 rfl rfl (res_tmp rfl) (fun w' s => ?_)
    first | (rw [hok]; simp_all; done) | (rw [hok]; simp [*]; done)

set_option maxRecDepth 20000 in
theorem law_to (sh : Sh) (pt : Pt) (v : Int) (w : World) (hs : isSh sh = true) (hv : -1099511627776 ≤ v ∧ v ≤ 1099511627776) : Calls Tryz.prog 34 #[shV sh pt, (.int .i64 v)] w (RetV w (.tuple #[.int .i64 (fig sh v), .bool true])) := by
  refine calls_T0 (av := [_, _]) Tryz.func34 rfl rfl rfl ?_
  refine t_seq ?_
  refine t_reg ?_
  refine to_box rfl rfl (fun b2 => ?_)
  refine to_as rfl rfl ?_
  refine to_as rfl rfl ?_
  refine to_nil ?_
  refine tn_code ?_
  refine t_seq ?_
  refine t_reg ?_
  refine to_mv rfl rfl ?_
  first | refine to_fa rfl rfl rfl (by simp only [Nat.reduceAdd]; rfl) rfl ?_ | refine to_fae rfl rfl rfl (by simp only [Nat.reduceAdd]; rfl) rfl ?_
  first | refine to_lds rfl rfl rfl ?_ | refine to_ldes rfl (by assumption) rfl rfl ?_
  first | refine to_fa rfl rfl rfl (by simp only [Nat.reduceAdd]; rfl) rfl ?_ | refine to_fae rfl rfl rfl (by simp only [Nat.reduceAdd]; rfl) rfl ?_
  first | refine to_lds rfl rfl rfl ?_ | refine to_ldes rfl (by assumption) rfl rfl ?_
  refine to_call0 rfl rfl (fun w s => c_To_t (by simp only [fineV, Bool.and_eq_true]; exact ⟨⟨inB_iff.2 hv, inB_iff.2 (ref_arg hs).1⟩, inB_iff.2 (ref_arg hs).2⟩) w) rfl ?_
  refine to_mv rfl rfl ?_
  refine to_ex rfl rfl rfl ?_
  refine to_ex rfl rfl rfl ?_
  refine to_as rfl rfl ?_
  refine to_as rfl rfl ?_
  refine to_nil ?_
  refine tn_code ?_
  refine t_seq ?_
  refine t_reg ?_
  refine to_mv rfl rfl ?_
  refine to_mv rfl rfl ?_
  refine to_eql rfl rfl rfl ?_
  refine to_as rfl rfl ?_
  refine to_as rfl rfl ?_
  refine to_nil ?_
  refine tn_code ?_
  refine t_ret2 rfl rfl (res_tmp rfl) (res_tmp rfl) (fun w' s => ?_)
  rfl

end Go.Proofs


namespace Go.Proofs
open Go Go.Sx Go.RowKit

theorem row_ok {sh : Sh} {k : Nat} {r : Int} (h : sh.rows[k]? = some r) : inB (k : Int) 0 (sh.rows.length - 1) = true := by
  have := (List.getElem?_eq_some_iff.1 h).1
  exact inB_iff.2 (by omega)
theorem row_ex {sh : Sh} {row : Int} (h : inB row 0 (sh.rows.length - 1) = true) : ∃ (k : Nat) (r : Int), row = (k : Int) ∧ sh.rows[k]? = some r := by
  have hb := inB_iff.1 h
  obtain ⟨k, rfl⟩ := Int.eq_ofNat_of_zero_le hb.1
  obtain ⟨e, he⟩ := some_get (xs := sh.rows) (k := k) (by omega)
  exact ⟨k, e, rfl, he⟩

end Go.Proofs


namespace Go.Proofs
open Go Go.Sx Go.RowKit

theorem tru_all {e : Int} {rs t : List Int} (hl : t.length = rs.length) (h : ∀ j, j < t.length → ∀ n r, t[j]? = some n → rs[j]? = some r → inB n (r - e) (r + e) = true) : truK e rs t = true :=
  truK_iff.2 ⟨hl, fun j r n hr hn => h j (List.getElem?_eq_some_iff.1 hn).1 n r hn hr⟩
theorem tru_len {e : Int} {rs t : List Int} (hl : ¬ t.length = rs.length) : truK e rs t = false := by
  rw [Bool.eq_false_iff]; exact fun h => hl (truK_len h)
theorem tru_at {e n r : Int} {rs t : List Int} {j : Nat} (hn : t[j]? = some n) (hr : rs[j]? = some r) (h : inB n (r - e) (r + e) = false) : truK e rs t = false := by
  rw [Bool.eq_false_iff]; intro hh
  have := (truK_iff.1 hh).2 j r n hr hn
  rw [h] at this; cases this
set_option maxRecDepth 20000 in
theorem ref_Truth (sh : Sh) (pt : Pt) (k : Nat) (e : Int) (t : List Int) (ta : Option Addr) (tc : Nat) (w : World) (hre : Ro w 0 w.heap.size pt.ea sh.errs.length pt.ec 1 (ints sh.errs)) (hrr : Ro w 0 w.heap.size pt.ra sh.rows.length pt.rc 1 (ints sh.rows)) (hs : isSh sh = true) (he : sh.errs[k]? = some e) (hrl : Ro w 0 w.heap.size ta t.length tc 1 (ints t)) : Calls Tryz.prog 31 #[shV sh pt, (.int .i64 (k : Int)), .slice ta t.length tc] w (RetV w (.bool (truK e sh.rows t))) := by
  have heb := errs_b (isSh_e hs) e (List.mem_of_getElem? he)
  have hbb := isSh_b hs
  have hxe := map_get (f := intC) he
  have hke := (List.getElem?_eq_some_iff.1 he).1
  refine calls_T0 (av := [_, _, _]) Tryz.func31 rfl rfl rfl ?_
  refine t_seq ?_
  refine t_reg ?_
  refine to_box rfl rfl (fun b3 => ?_)
  refine to_as rfl rfl ?_
  refine to_nil ?_
  refine tn_code ?_
  refine t_seq ?_
  refine t_seq ?_
  refine t_reg ?_
  refine to_mv rfl rfl ?_
  refine to_lenS rfl rfl ?_
  first | refine to_fa rfl rfl rfl (by simp only [Nat.reduceAdd]; rfl) rfl ?_ | refine to_fae rfl rfl rfl (by simp only [Nat.reduceAdd]; rfl) rfl ?_
  first | refine to_lds rfl rfl rfl ?_ | refine to_ldes rfl (by assumption) rfl rfl ?_
  refine to_lenS rfl rfl ?_
  refine to_neq rfl rfl rfl ?_
  refine to_nil ?_
  refine tn_code ?_
  refine t_if rfl (fun h1 => ?_) (fun h1 => ?_)
  · try simp only [decide_eq_true_eq, decide_eq_false_iff_not, Bool.not_eq_true', Bool.not_eq_false', Int.not_lt, Int.not_le, ne_eq, Decidable.not_not] at h1
    try have h1b := inB_iff.1 h1
    have hfin := tru_len (e := e) (rs := sh.rows) (t := t) (by omega)
    refine t_seq ?_
    refine t_reg ?_
    refine to_as rfl rfl ?_
    refine to_nil ?_
    refine tn_code ?_
    refine t_ret1 rfl rfl (res_tmp rfl) (fun w' s => ?_)
    rw [hfin]
  · try simp only [decide_eq_true_eq, decide_eq_false_iff_not, Bool.not_eq_true', Bool.not_eq_false', Int.not_lt, Int.not_le, ne_eq, Decidable.not_not] at h1
    try have h1b := inB_iff.1 h1
    refine t_skip ?_
    refine tn_code ?_
    refine t_seq ?_
    refine t_seq ?_
    refine t_reg ?_
    refine to_as rfl rfl ?_
    refine to_nil ?_
    refine tn_code ?_
    refine t_blk ?_
    refine t_loop2 (ι := Nat) (fun j => j ≤ t.length ∧ ∀ i, i < j → ∀ n r, t[i]? = some n → sh.rows[i]? = some r → inB n (r - e) (r + e) = true) (fun j => [(1, (.int .i64 (k : Int))), (2, .slice ta t.length tc), (3, (.pointer (some ⟨b3, 0, none⟩))), (7, (.int .i64 (j : Int)))]) (fun j => [.own b3 (isC (shC sh pt) 33), .snap 0 w.heap.size w]) (fun j => t.length - j) (0) [.own b3 (isC (shC sh pt) 33), .snap 0 w.heap.size w] (rfl) (⟨Nat.zero_le _, fun j hj => absurd hj (Nat.not_lt_zero _)⟩) (⟨rfl, rfl, rfl, rfl, trivial⟩) ?_
    rintro j ⟨hk, hall⟩
    show T _ _ _ ⟨_, [(1, (.int .i64 (k : Int))), (2, .slice ta t.length tc), (3, (.pointer (some ⟨b3, 0, none⟩))), (7, (.int .i64 (j : Int)))], _⟩ [.own b3 (isC (shC sh pt) 33), .snap 0 w.heap.size w]
    refine t_seq ?_
    refine t_seq ?_
    refine t_reg ?_
    refine to_mv rfl rfl ?_
    refine to_mv rfl rfl ?_
    refine to_lenS rfl rfl ?_
    refine to_lss rfl rfl rfl ?_
    refine to_nil ?_
    refine tn_code ?_
    refine t_if rfl (fun h2 => ?_) (fun h2 => ?_)
    · try simp only [decide_eq_true_eq, decide_eq_false_iff_not, Bool.not_eq_true', Bool.not_eq_false', Int.not_lt, Int.not_le, ne_eq, Decidable.not_not] at h2
      try have h2b := inB_iff.1 h2
      obtain ⟨n, hn⟩ := some_get (xs := t) (k := j) (by omega)
      obtain ⟨r, hr⟩ := some_get (xs := sh.rows) (k := j) (by omega)
      have hrb := isSh_r hs (List.mem_of_getElem? hr)
      have hxn := map_get (f := intC) hn
      have hxr := map_get (f := intC) hr
      refine t_skip ?_
      refine tn_code ?_
      refine t_seq ?_
      refine t_blk ?_
      refine t_seq ?_
      refine t_regD rfl (by kernel_rfl) (by kernel_rfl) ?_
      refine to_mv rfl rfl ?_
      refine to_mv rfl rfl ?_
      first | refine to_ix rfl rfl rfl (by first | omega | decide) (by first | omega | decide) rfl ?_ | refine to_ixi rfl rfl rfl (by omega) (by omega) (by omega) rfl ?_
      first | refine to_lds rfl rfl rfl ?_ | refine to_ldes rfl (by assumption) rfl rfl ?_
      first | refine to_fa rfl rfl rfl (by simp only [Nat.reduceAdd]; rfl) rfl ?_ | refine to_fae rfl rfl rfl (by simp only [Nat.reduceAdd]; rfl) rfl ?_
      first | refine to_lds rfl rfl rfl ?_ | refine to_ldes rfl (by assumption) rfl rfl ?_
      refine to_mv rfl rfl ?_
      first | refine to_ix rfl rfl rfl (by first | omega | decide) (by first | omega | decide) rfl ?_ | refine to_ixi rfl rfl rfl (by omega) (by omega) (by omega) rfl ?_
      first | refine to_lds rfl rfl rfl ?_ | refine to_ldes rfl (by assumption) rfl rfl ?_
      first | refine to_fa rfl rfl rfl (by simp only [Nat.reduceAdd]; rfl) rfl ?_ | refine to_fae rfl rfl rfl (by simp only [Nat.reduceAdd]; rfl) rfl ?_
      first | refine to_lds rfl rfl rfl ?_ | refine to_ldes rfl (by assumption) rfl rfl ?_
      refine to_mv rfl rfl ?_
      first | refine to_ix rfl rfl rfl (by first | omega | decide) (by first | omega | decide) rfl ?_ | refine to_ixi rfl rfl rfl (by omega) (by omega) (by omega) rfl ?_
      first | refine to_lds rfl rfl rfl ?_ | refine to_ldes rfl (by assumption) rfl rfl ?_
      refine to_sub rfl rfl (by omega) rfl ?_
      first | refine to_fa rfl rfl rfl (by simp only [Nat.reduceAdd]; rfl) rfl ?_ | refine to_fae rfl rfl rfl (by simp only [Nat.reduceAdd]; rfl) rfl ?_
      first | refine to_lds rfl rfl rfl ?_ | refine to_ldes rfl (by assumption) rfl rfl ?_
      refine to_mv rfl rfl ?_
      first | refine to_ix rfl rfl rfl (by first | omega | decide) (by first | omega | decide) rfl ?_ | refine to_ixi rfl rfl rfl (by omega) (by omega) (by omega) rfl ?_
      first | refine to_lds rfl rfl rfl ?_ | refine to_ldes rfl (by assumption) rfl rfl ?_
      first | refine to_fa rfl rfl rfl (by simp only [Nat.reduceAdd]; rfl) rfl ?_ | refine to_fae rfl rfl rfl (by simp only [Nat.reduceAdd]; rfl) rfl ?_
      first | refine to_lds rfl rfl rfl ?_ | refine to_ldes rfl (by assumption) rfl rfl ?_
      refine to_mv rfl rfl ?_
      first | refine to_ix rfl rfl rfl (by first | omega | decide) (by first | omega | decide) rfl ?_ | refine to_ixi rfl rfl rfl (by omega) (by omega) (by omega) rfl ?_
      first | refine to_lds rfl rfl rfl ?_ | refine to_ldes rfl (by assumption) rfl rfl ?_
      refine to_add rfl rfl (by omega) rfl ?_
      refine to_call0 rfl rfl (fun w s => ref_in _ _ _ w) rfl ?_
      refine to_not rfl rfl ?_
      refine to_nil ?_
      refine tn_code ?_
      refine t_if rfl (fun h3 => ?_) (fun h3 => ?_)
      · try simp only [decide_eq_true_eq, decide_eq_false_iff_not, Bool.not_eq_true', Bool.not_eq_false', Int.not_lt, Int.not_le, ne_eq, Decidable.not_not] at h3
        try have h3b := inB_iff.1 h3
        have hfin := tru_at (e := e) hn hr h3
        refine t_seq ?_
        refine t_reg ?_
        refine to_as rfl rfl ?_
        refine to_nil ?_
        refine tn_code ?_
        refine t_ret1 rfl rfl (res_tmp rfl) (fun w' s => ?_)
        rw [hfin]
      · try simp only [decide_eq_true_eq, decide_eq_false_iff_not, Bool.not_eq_true', Bool.not_eq_false', Int.not_lt, Int.not_le, ne_eq, Decidable.not_not] at h3
        try have h3b := inB_iff.1 h3
        refine t_skip ?_
        refine tn_blk ?_
        refine tn_code ?_
        refine t_reg ?_
        refine to_mv rfl rfl ?_
        refine to_add rfl rfl (by omega) rfl ?_
        refine to_as rfl rfl ?_
        refine to_nil ?_
        exact tn_loop2 (j + 1) [.own b3 (isC (shC sh pt) 33), .snap 0 w.heap.size w] (rfl) (⟨by omega, all_succ hall (fun a b h1 h2 => by rw [hn] at h1; rw [hr] at h2; cases h1; cases h2; assumption)⟩) (by omega) (⟨rfl, rfl, rfl, rfl, trivial⟩)
    · try simp only [decide_eq_true_eq, decide_eq_false_iff_not, Bool.not_eq_true', Bool.not_eq_false', Int.not_lt, Int.not_le, ne_eq, Decidable.not_not] at h2
      try have h2b := inB_iff.1 h2
      have hk2 : j = t.length := by omega
      subst hk2
      have hfin := tru_all (e := e) (rs := sh.rows) (by omega) hall
      refine t_exit ?_
      refine tx_code ?_
      refine tx_inv ?_
      refine tx_blk ?_
      refine tn_code ?_
      refine t_seq ?_
      refine t_reg ?_
      refine to_as rfl rfl ?_
      refine to_nil ?_
      refine tn_code ?_
      refine t_ret1 rfl rfl (res_tmp rfl) (fun w' s => ?_)
      rw [hfin]

theorem fig_smallS {sh : Sh} (hs : isSh sh = true) {v : Int} (hv : -100008 ≤ v ∧ v ≤ 100008) : -100009 ≤ fig sh v ∧ fig sh v ≤ 100009 := fig_b (B := 100008) hs hv
theorem tru_small {sh : Sh} {e : Int} {t : List Int} (hs : isSh sh = true) (he : 0 ≤ e ∧ e ≤ 8) (h : truK e sh.rows t = true) : ∀ n ∈ t, -100008 ≤ n ∧ n ≤ 100008 := by
  intro n hn
  have := tru_bd (B := 100000) h (fun r hr => isSh_r hs hr) n hn
  omega
theorem figk_succ' {F : Int → Int} {xs : List Int} {k : Nat} {y : Int} (h : xs[k]? = some y) : figO F (xs.take (k + 1)) = figO F (xs.take k) + F y := by rw [take_snoc h, figO_app]; simp [figO, sumI_cons, sumI_nil]
theorem sums_small {sh : Sh} {t : List Int} (hs : isSh sh = true) (hl : t.length ≤ 7) (hb : ∀ n ∈ t, -100008 ≤ n ∧ n ≤ 100008) (k : Nat) : (-700063 ≤ sumI (t.take k) ∧ sumI (t.take k) ≤ 700063) ∧ (-700063 ≤ figO (fig sh) (t.take k) ∧ figO (fig sh) (t.take k) ≤ 700063) := by
  have h1 := sum_bd (B := 100008) (by decide) (xs := t.take k) (fun x hx => hb x (List.mem_of_mem_take hx))
  have h2 := sum_bd (B := 100009) (by decide) (xs := (t.take k).map (fig sh)) (fun x hx => by
    obtain ⟨y, hy, rfl⟩ := List.mem_map.1 hx
    exact fig_smallS hs (hb y (List.mem_of_mem_take hy)))
  rw [List.length_map] at h2
  have h3 : (t.take k).length ≤ 7 := by simp; omega
  simp only [figO]
  omega

set_option maxRecDepth 20000 in
theorem law_added (sh : Sh) (pt : Pt) (t : List Int) (ta : Option Addr) (tc : Nat) (w : World) (hrl : Ro w 0 w.heap.size ta t.length tc 1 (ints t)) (hs : isSh sh = true) (hl7 : t.length ≤ 7) (hb : ∀ n ∈ t, -100008 ≤ n ∧ n ≤ 100008) : Calls Tryz.prog 47 #[shV sh pt, .slice ta t.length tc] w (RetV w (.tuple #[.int .i64 (sumI t), .int .i64 (figO (fig sh) t), .bool true])) := by
  have hsm := sums_small hs hl7 hb
  refine calls_T0 (av := [_, _]) Tryz.func47 rfl rfl rfl ?_
  refine t_seq ?_
  refine t_reg ?_
  refine to_box rfl rfl (fun b2 => ?_)
  refine to_as rfl rfl ?_
  refine to_as rfl rfl ?_
  refine to_as rfl rfl ?_
  refine to_nil ?_
  refine tn_code ?_
  refine t_seq ?_
  refine t_reg ?_
  refine to_as rfl rfl ?_
  refine to_as rfl rfl ?_
  refine to_nil ?_
  refine tn_code ?_
  refine t_seq ?_
  refine t_seq ?_
  refine t_reg ?_
  refine to_as rfl rfl ?_
  refine to_nil ?_
  refine tn_code ?_
  refine t_blk ?_
  refine t_loop2 (ι := Nat) (fun j => j ≤ t.length) (fun j => [(1, .slice ta t.length tc), (2, (.pointer (some ⟨b2, 0, none⟩))), (7, (.int .i64 (sumI (t.take j)))), (8, (.int .i64 (figO (fig sh) (t.take j)))), (9, (.int .i64 (j : Int)))]) (fun j => [.own b2 (isC (shC sh pt) 33), .snap 0 w.heap.size w]) (fun j => t.length - j) (0) [.own b2 (isC (shC sh pt) 33), .snap 0 w.heap.size w] (rfl) (Nat.zero_le _) (⟨rfl, rfl, rfl, rfl, rfl, trivial⟩) ?_
  rintro j hk
  show T _ _ _ ⟨_, [(1, .slice ta t.length tc), (2, (.pointer (some ⟨b2, 0, none⟩))), (7, (.int .i64 (sumI (t.take j)))), (8, (.int .i64 (figO (fig sh) (t.take j)))), (9, (.int .i64 (j : Int)))], _⟩ [.own b2 (isC (shC sh pt) 33), .snap 0 w.heap.size w]
  refine t_seq ?_
  refine t_seq ?_
  refine t_reg ?_
  refine to_mv rfl rfl ?_
  refine to_mv rfl rfl ?_
  refine to_lenS rfl rfl ?_
  refine to_lss rfl rfl rfl ?_
  refine to_nil ?_
  refine tn_code ?_
  refine t_if rfl (fun h1 => ?_) (fun h1 => ?_)
  · try simp only [decide_eq_true_eq, decide_eq_false_iff_not, Bool.not_eq_true', Bool.not_eq_false', Int.not_lt, Int.not_le, ne_eq, Decidable.not_not] at h1
    try have h1b := inB_iff.1 h1
    obtain ⟨n, hn⟩ := some_get (xs := t) (k := j) (by omega)
    have hxn := map_get (f := intC) hn
    have hnb := hb n (List.mem_of_getElem? hn)
    have hfn := fig_smallS hs hnb
    have hsj := hsm j
    refine t_skip ?_
    refine tn_code ?_
    refine t_seq ?_
    refine t_blk ?_
    refine t_seq ?_
    refine t_regD rfl (by kernel_rfl) (by kernel_rfl) ?_
    first | refine to_lda rfl rfl rfl ?_ | refine to_ldea rfl (by assumption) rfl rfl ?_
    refine to_mv rfl rfl ?_
    refine to_mv rfl rfl ?_
    first | refine to_ix rfl rfl rfl (by first | omega | decide) (by first | omega | decide) rfl ?_ | refine to_ixi rfl rfl rfl (by omega) (by omega) (by omega) rfl ?_
    first | refine to_lds rfl rfl rfl ?_ | refine to_ldes rfl (by assumption) rfl rfl ?_
    refine to_call0 rfl rfl (fun w s => law_to sh pt _ w hs (by omega)) rfl ?_
    refine to_mv rfl rfl ?_
    refine to_ex rfl rfl rfl ?_
    refine to_ex rfl rfl rfl ?_
    refine to_fix (s := 26) (b' := true) rfl (rfl) ?_
    refine to_as rfl rfl ?_
    refine to_as rfl rfl ?_
    refine to_nil ?_
    refine tn_code ?_
    refine t_seq ?_
    refine t_seq ?_
    refine t_reg ?_
    refine to_mv rfl rfl ?_
    refine to_not rfl rfl ?_
    refine to_mv rfl rfl ?_
    refine to_gt rfl rfl ?_
    refine to_mv rfl rfl ?_
    refine to_gt rfl rfl ?_
    refine to_lss rfl rfl rfl ?_
    refine to_fix (s := 31) (b' := false) rfl (decide_eq_false (by omega)) ?_
    refine to_pkF rfl rfl rfl ?_
    refine to_mv rfl rfl ?_
    refine to_gt rfl rfl ?_
    refine to_mv rfl rfl ?_
    refine to_gt rfl rfl ?_
    refine to_gtr rfl rfl rfl ?_
    refine to_fix (s := 35) (b' := false) rfl (decide_eq_false (by omega)) ?_
    refine to_pkF rfl rfl rfl ?_
    refine to_nil ?_
    refine tn_code ?_
    refine t_ifF rfl ?_
    refine t_skip ?_
    refine tn_code ?_
    refine t_reg ?_
    refine to_mv rfl rfl ?_
    refine to_mv rfl rfl ?_
    refine to_mv rfl rfl ?_
    first | refine to_ix rfl rfl rfl (by first | omega | decide) (by first | omega | decide) rfl ?_ | refine to_ixi rfl rfl rfl (by omega) (by omega) (by omega) rfl ?_
    first | refine to_lds rfl rfl rfl ?_ | refine to_ldes rfl (by assumption) rfl rfl ?_
    refine to_add rfl rfl (by omega) rfl ?_
    refine to_mv rfl rfl ?_
    refine to_mv rfl rfl ?_
    refine to_add rfl rfl (by omega) rfl ?_
    refine to_as rfl rfl ?_
    refine to_as rfl rfl ?_
    refine to_nil ?_
    refine tn_blk ?_
    refine tn_code ?_
    refine t_reg ?_
    refine to_mv rfl rfl ?_
    refine to_add rfl rfl (by omega) rfl ?_
    refine to_as rfl rfl ?_
    refine to_nil ?_
    exact tn_loop2 (j + 1) [.own b2 (isC (shC sh pt) 33), .snap 0 w.heap.size w] (rfl) (by omega) (by omega) (⟨rfl, rfl, congrArg (fun z => some (Value.int .i64 z)) (sumI_take hn).symm, congrArg (fun z => some (Value.int .i64 z)) (figk_succ' hn).symm, rfl, trivial⟩)
  · try simp only [decide_eq_true_eq, decide_eq_false_iff_not, Bool.not_eq_true', Bool.not_eq_false', Int.not_lt, Int.not_le, ne_eq, Decidable.not_not] at h1
    try have h1b := inB_iff.1 h1
    have hk2 : j = t.length := by omega
    subst hk2
    rw [List.take_length]
    refine t_exit ?_
    refine tx_code ?_
    refine tx_inv ?_
    refine tx_blk ?_
    refine tn_code ?_
    refine t_seq ?_
    refine t_reg ?_
    refine to_mv rfl rfl ?_
    refine to_mv rfl rfl ?_
    refine to_as rfl rfl ?_
    refine to_as rfl rfl ?_
    refine to_as rfl rfl ?_
    refine to_nil ?_
    refine tn_code ?_
    refine t_ret3 rfl rfl (res_tmp rfl) (res_tmp rfl) (res_tmp rfl) (fun w' s => ?_)
    rfl

end Go.Proofs


namespace Go.Proofs
open Go Go.Sx Go.RowKit

theorem ieq_span (a b : Sp) : ieq (spanC a) (spanC b) = decide (a = b) := by
  obtain ⟨a1, a2⟩ := a
  obtain ⟨b1, b2⟩ := b
  rw [Bool.eq_iff_iff]
  simp [ieq]
theorem c_Differs {sh : Sh} {pt : Pt} {k : Nat} {e : Int} {z : Sp} {w : World} (hre : Ro w 0 w.heap.size pt.ea sh.errs.length pt.ec 1 (ints sh.errs)) (hrr : Ro w 0 w.heap.size pt.ra sh.rows.length pt.rc 1 (ints sh.rows)) (hs : isSh sh = true) (he : sh.errs[k]? = some e) (h : rDif sh e = z) : Calls Tryz.prog 43 #[shV sh pt, .int .i64 (k : Int)] w (RetV w (.tuple #[spanV z, .int .i64 0])) := by
  have := r_Differs_t sh pt k e w hre hrr hs he
  rw [h] at this; exact this
end Go.Proofs


namespace Go.Proofs
open Go Go.Sx Go.RowKit

def RUn (sh : Sh) (pt : Pt) (i : Nat) : Nat → World → Value → Prop := fun lo w1 v => ∃ ra rc, v = .agg [.int .i64 sh.unit, .int .i64 sh.rule, .slice pt.ea sh.errs.length pt.ec, .slice ra (i + 1) rc].toArray ∧ Ro w1 lo w1.heap.size ra (i + 1) rc 1 (ints (sh.rows.take (i + 1)))
theorem scal_ints (xs : List Int) : ∀ y ∈ ints xs, scals y = true := by
  intro y hy
  obtain ⟨l, _, rfl⟩ := List.mem_map.1 hy
  simp [scals, scal, intC]

set_option maxRecDepth 20000 in
theorem ref_Until (sh : Sh) (pt : Pt) (i : Nat) (w : World) (hre : Ro w 0 w.heap.size pt.ea sh.errs.length pt.ec 1 (ints sh.errs)) (hrr : Ro w 0 w.heap.size pt.ra sh.rows.length pt.rc 1 (ints sh.rows)) (hi : i < sh.rows.length) (hl : sh.rows.length ≤ 1000) : Calls Tryz.prog 52 #[shV sh pt, (.int .i64 (i : Int))] w (Ret w (RUn sh pt i)) := by
  have hrle := hrr.le
  refine calls_T (av := [_, _]) Tryz.func52 rfl rfl rfl ?_
  refine t_seq ?_
  refine t_reg ?_
  refine to_box rfl rfl (fun b2 => ?_)
  refine to_alloc rfl (fun b4 => ?_)
  refine to_nil ?_
  refine tn_code ?_
  refine t_seq ?_
  refine t_nilrow 3 1 ?_
  refine t_reg ?_
  first | refine to_fa rfl rfl rfl (by simp only [Nat.reduceAdd]; rfl) rfl ?_ | refine to_fae rfl rfl rfl (by simp only [Nat.reduceAdd]; rfl) rfl ?_
  first | refine to_lds rfl rfl rfl ?_ | refine to_ldes rfl (by assumption) rfl rfl ?_
  refine to_mv rfl rfl ?_
  refine to_add rfl rfl (by omega) rfl ?_
  refine to_slH (k := i + 1) rfl rfl (by omega) rfl ?_
  refine to_app (hq := ⟨fun w' s => by have h9 := ro_take (rdw s (a := pt.ra) (n := sh.rows.length) (xs := ints sh.rows)) (k := i + 1) (by omega); rw [← List.map_take] at h9; exact h9⟩) rfl rfl rfl (scal_ints _) (by decide) (show (0 + (i + 1)) * 8 ≤ 1099511627776 from by omega) (by decide) rfl (fun a10 c10 => ?_)
  first | refine to_fa rfl rfl rfl (by simp only [Nat.reduceAdd]; rfl) rfl ?_ | refine to_fae rfl rfl rfl (by simp only [Nat.reduceAdd]; rfl) rfl ?_
  first | refine to_st rfl rfl rfl rfl ?_ | refine to_ste rfl rfl (by assumption) rfl rfl ?_
  refine to_nil ?_
  refine tn_code ?_
  refine t_seq ?_
  refine t_reg ?_
  first | refine to_lda rfl rfl rfl ?_ | refine to_ldea rfl (by assumption) rfl rfl ?_
  first | refine to_st rfl rfl rfl rfl ?_ | refine to_ste rfl rfl (by assumption) rfl rfl ?_
  refine to_nil ?_
  refine tn_code ?_
  refine t_ret1 rfl rfl (res_cellA rfl rfl) (fun w' s => ?_)
  refine ⟨a10, c10, by simp, ?_⟩
  have h9 := ro_row s (a := a10)
  simpa using h9

theorem c_DifU {sh : Sh} {pt : Pt} {k i : Nat} {e : Int} {z : Sp} {ra : Option Addr} {rc : Nat} {w : World} (hre : Ro w 0 w.heap.size pt.ea sh.errs.length pt.ec 1 (ints sh.errs)) (hr2 : Ro w 0 w.heap.size ra (i + 1) rc 1 (ints (sh.rows.take (i + 1)))) (hs : isSh sh = true) (he : sh.errs[k]? = some e) (hi : i < sh.rows.length) (hz : rDif (untS sh i) e = z) :
    Calls Tryz.prog 43 #[.agg [.int .i64 sh.unit, .int .i64 sh.rule, .slice pt.ea sh.errs.length pt.ec, .slice ra (i + 1) rc].toArray, .int .i64 (k : Int)] w (RetV w (.tuple #[spanV z, .int .i64 0])) := by
  have h := c_Differs (sh := untS sh i) (pt := ⟨pt.ea, pt.ec, ra, rc⟩) (w := w) hre (by rw [untS_len hi]; exact hr2) (untS_ok hs hi) he hz
  have h3 : shV (untS sh i) ⟨pt.ea, pt.ec, ra, rc⟩ = .agg [.int .i64 sh.unit, .int .i64 sh.rule, .slice pt.ea sh.errs.length pt.ec, .slice ra (i + 1) rc].toArray := by
    simp only [shV, shC, untS_len hi]; rfl
  rw [h3] at h
  exact h
theorem c_Proof {sh : Sh} {pt : Pt} {k : Nat} {e : Int} {x : List Int} {er : Int} {w : World} (hre : Ro w 0 w.heap.size pt.ea sh.errs.length pt.ec 1 (ints sh.errs)) (hrr : Ro w 0 w.heap.size pt.ra sh.rows.length pt.rc 1 (ints sh.rows)) (hs : isSh sh = true) (he : sh.errs[k]? = some e) (h : prfR sh e = (x, er)) : Calls Tryz.prog 49 #[shV sh pt, .int .i64 (k : Int)] w (Ret w (RSlE x er)) := by
  have := r_Proof_t sh pt k e w hre hrr hs he
  rw [h] at this; exact this
theorem c_First {sh : Sh} {pt : Pt} {k : Nat} {e a b : Int} {w : World} (hre : Ro w 0 w.heap.size pt.ea sh.errs.length pt.ec 1 (ints sh.errs)) (hrr : Ro w 0 w.heap.size pt.ra sh.rows.length pt.rc 1 (ints sh.rows)) (hs : isSh sh = true) (he : sh.errs[k]? = some e) (h : rFst sh e = (a, b)) : Calls Tryz.prog 48 #[shV sh pt, .int .i64 (k : Int)] w (RetV w (.tuple #[.int .i64 a, .int .i64 b])) := by
  have := r_First_t sh pt k e w hre hrr hs he
  rw [h] at this; exact this
theorem prf_none {sh : Sh} {e : Int} (h : firF sh e [] = none) : prfR sh e = ([], 5) := by simp [prfR, h]
theorem prf_some {sh : Sh} {e : Int} {x : List Int} (h : firF sh e [] = some x) : prfR sh e = (x, 0) := by simp [prfR, h]
theorem fail_ne {sh : Sh} {t : List Int} (h : ¬ figO (fig sh) t = fig sh (sumI t)) : failT sh t = true := by simp [failT, h]
theorem fail_eq {sh : Sh} {t : List Int} (h : failT sh t = false) : figO (fig sh) t = fig sh (sumI t) := by simpa [failT] using h
theorem span_ne {z : Sp} (h : z ≠ (0, 0)) : ieq (spanC z) (spanC (0, 0)) = false := by rw [ieq_span]; simp [h]

set_option maxRecDepth 20000 in
theorem w_RoundProved_no (sh : Sh) (pt : Pt) (gd : Int) (t : List Int) (ta : Option Addr) (tc : Nat) (row : Int) (w : World) (hre : Ro w 0 w.heap.size pt.ea sh.errs.length pt.ec 1 (ints sh.errs)) (hrr : Ro w 0 w.heap.size pt.ra sh.rows.length pt.rc 1 (ints sh.rows)) (hrl : Ro w 0 w.heap.size ta t.length tc 1 (ints t)) (ho : okG sh gd = false) (hg : Gl w) : Calls Tryz.prog 12 #[shV sh pt, (.int .i64 gd), .slice ta t.length tc, (.int .i64 row)] w (RetV w (.bool true)) := by
  refine calls_T0 (av := [_, _, _, _]) Tryz.func12 rfl rfl rfl ?_
  refine t_seq ?_
  refine t_reg ?_
  refine to_box rfl rfl (fun b4 => ?_)
  refine to_as rfl rfl ?_
  refine to_nil ?_
  refine tn_code ?_
  refine t_seq ?_
  refine t_seq ?_
  refine t_reg ?_
  first | refine to_lda rfl rfl rfl ?_ | refine to_ldea rfl (by assumption) rfl rfl ?_
  refine to_mv rfl rfl ?_
  refine to_call0 rfl rfl (fun w s => law_right sh pt _ w (rdw s) (rdw s)) rfl ?_
  refine to_fix (s := 31) (b' := false) rfl (ho) ?_
  refine to_not rfl rfl ?_
  refine to_mv rfl rfl ?_
  refine to_gf rfl rfl rfl rfl ?_
  refine to_gf rfl rfl rfl rfl ?_
  refine to_gf rfl rfl rfl rfl ?_
  refine to_pkT rfl rfl rfl ?_
  refine to_mv rfl rfl ?_
  refine to_gf rfl rfl rfl rfl ?_
  refine to_gf rfl rfl rfl rfl ?_
  refine to_gf rfl rfl rfl rfl ?_
  refine to_gf rfl rfl rfl rfl ?_
  refine to_gf rfl rfl rfl rfl ?_
  refine to_pkT rfl rfl rfl ?_
  refine to_mv rfl rfl ?_
  refine to_gf rfl rfl rfl rfl ?_
  refine to_gf rfl rfl rfl rfl ?_
  refine to_gf rfl rfl rfl rfl ?_
  refine to_gf rfl rfl rfl rfl ?_
  refine to_pkT rfl rfl rfl ?_
  refine to_nil ?_
  refine tn_code ?_
  refine t_ifT rfl ?_
  refine t_seq ?_
  refine t_reg ?_
  refine to_call0 rfl rfl (fun w s => law_known w (gl_up hg (belowH_of s))) rfl ?_
  refine to_as rfl rfl ?_
  refine to_nil ?_
  refine tn_code ?_
  refine t_ret1 rfl rfl (res_tmp rfl) (fun w' s => ?_)
  rfl

set_option maxRecDepth 20000 in
theorem w_RoundProved_sl (sh : Sh) (pt : Pt) (gd : Int) (t : List Int) (ta : Option Addr) (tc : Nat) (row : Int) (w : World) (hre : Ro w 0 w.heap.size pt.ea sh.errs.length pt.ec 1 (ints sh.errs)) (hrr : Ro w 0 w.heap.size pt.ra sh.rows.length pt.rc 1 (ints sh.rows)) (hrl : Ro w 0 w.heap.size ta t.length tc 1 (ints t)) (hs : isSh sh = true) (k : Nat) (e : Int) (hgk : gd = (k : Int)) (he : sh.errs[k]? = some e) (hsl7 : decide (t.length ≤ 7) = false) (hg : Gl w) : Calls Tryz.prog 12 #[shV sh pt, (.int .i64 gd), .slice ta t.length tc, (.int .i64 row)] w (RetV w (.bool true)) := by
  subst hgk
  have heb := errs_b (isSh_e hs) e (List.mem_of_getElem? he)
  have hbb := isSh_b hs
  have hxe := map_get (f := intC) he
  have hke := (List.getElem?_eq_some_iff.1 he).1
  have hok := okG_t hs he
  refine calls_T0 (av := [_, _, _, _]) Tryz.func12 rfl rfl rfl ?_
  refine t_seq ?_
  refine t_reg ?_
  refine to_box rfl rfl (fun b4 => ?_)
  refine to_as rfl rfl ?_
  refine to_nil ?_
  refine tn_code ?_
  refine t_seq ?_
  refine t_seq ?_
  refine t_reg ?_
  first | refine to_lda rfl rfl rfl ?_ | refine to_ldea rfl (by assumption) rfl rfl ?_
  refine to_mv rfl rfl ?_
  refine to_call0 rfl rfl (fun w s => law_right sh pt _ w (rdw s) (rdw s)) rfl ?_
  refine to_fix (s := 31) (b' := true) rfl (hok) ?_
  refine to_not rfl rfl ?_
  refine to_mv rfl rfl ?_
  refine to_gt rfl rfl ?_
  refine to_mv rfl rfl ?_
  refine to_gt rfl rfl ?_
  refine to_call0 rfl rfl (fun w s => law_slim t _ _ w) rfl ?_
  refine to_fix (s := 35) (b' := false) rfl (hsl7) ?_
  refine to_gt rfl rfl ?_
  refine to_not rfl rfl ?_
  refine to_pkF rfl rfl rfl ?_
  refine to_mv rfl rfl ?_
  refine to_gf rfl rfl rfl rfl ?_
  refine to_gf rfl rfl rfl rfl ?_
  refine to_gf rfl rfl rfl rfl ?_
  refine to_gf rfl rfl rfl rfl ?_
  refine to_gf rfl rfl rfl rfl ?_
  refine to_pkT rfl rfl rfl ?_
  refine to_mv rfl rfl ?_
  refine to_gf rfl rfl rfl rfl ?_
  refine to_gf rfl rfl rfl rfl ?_
  refine to_gf rfl rfl rfl rfl ?_
  refine to_gf rfl rfl rfl rfl ?_
  refine to_pkT rfl rfl rfl ?_
  refine to_nil ?_
  refine tn_code ?_
  refine t_ifT rfl ?_
  refine t_seq ?_
  refine t_reg ?_
  refine to_call0 rfl rfl (fun w s => law_known w (gl_up hg (belowH_of s))) rfl ?_
  refine to_as rfl rfl ?_
  refine to_nil ?_
  refine tn_code ?_
  refine t_ret1 rfl rfl (res_tmp rfl) (fun w' s => ?_)
  rfl

set_option maxRecDepth 20000 in
theorem w_RoundProved_tr (sh : Sh) (pt : Pt) (gd : Int) (t : List Int) (ta : Option Addr) (tc : Nat) (row : Int) (w : World) (hre : Ro w 0 w.heap.size pt.ea sh.errs.length pt.ec 1 (ints sh.errs)) (hrr : Ro w 0 w.heap.size pt.ra sh.rows.length pt.rc 1 (ints sh.rows)) (hrl : Ro w 0 w.heap.size ta t.length tc 1 (ints t)) (hs : isSh sh = true) (k : Nat) (e : Int) (hgk : gd = (k : Int)) (he : sh.errs[k]? = some e) (hsl7 : decide (t.length ≤ 7) = true) (htr : truK e sh.rows t = false) (hg : Gl w) : Calls Tryz.prog 12 #[shV sh pt, (.int .i64 gd), .slice ta t.length tc, (.int .i64 row)] w (RetV w (.bool true)) := by
  subst hgk
  have heb := errs_b (isSh_e hs) e (List.mem_of_getElem? he)
  have hbb := isSh_b hs
  have hxe := map_get (f := intC) he
  have hke := (List.getElem?_eq_some_iff.1 he).1
  have hok := okG_t hs he
  refine calls_T0 (av := [_, _, _, _]) Tryz.func12 rfl rfl rfl ?_
  refine t_seq ?_
  refine t_reg ?_
  refine to_box rfl rfl (fun b4 => ?_)
  refine to_as rfl rfl ?_
  refine to_nil ?_
  refine tn_code ?_
  refine t_seq ?_
  refine t_seq ?_
  refine t_reg ?_
  first | refine to_lda rfl rfl rfl ?_ | refine to_ldea rfl (by assumption) rfl rfl ?_
  refine to_mv rfl rfl ?_
  refine to_call0 rfl rfl (fun w s => law_right sh pt _ w (rdw s) (rdw s)) rfl ?_
  refine to_fix (s := 31) (b' := true) rfl (hok) ?_
  refine to_not rfl rfl ?_
  refine to_mv rfl rfl ?_
  refine to_gt rfl rfl ?_
  refine to_mv rfl rfl ?_
  refine to_gt rfl rfl ?_
  refine to_call0 rfl rfl (fun w s => law_slim t _ _ w) rfl ?_
  refine to_fix (s := 35) (b' := true) rfl (hsl7) ?_
  refine to_gt rfl rfl ?_
  refine to_not rfl rfl ?_
  refine to_pkF rfl rfl rfl ?_
  refine to_mv rfl rfl ?_
  refine to_gt rfl rfl ?_
  first | refine to_lda rfl rfl rfl ?_ | refine to_ldea rfl (by assumption) rfl rfl ?_
  refine to_gt rfl rfl ?_
  refine to_mv rfl rfl ?_
  refine to_gt rfl rfl ?_
  refine to_mv rfl rfl ?_
  refine to_gt rfl rfl ?_
  refine to_call0 rfl rfl (fun w s => ref_Truth sh pt k e t _ _ w (rdw s) (rdw s) hs he (rdw s)) rfl ?_
  refine to_fix (s := 42) (b' := false) rfl (htr) ?_
  refine to_gt rfl rfl ?_
  refine to_not rfl rfl ?_
  refine to_pkF rfl rfl rfl ?_
  refine to_mv rfl rfl ?_
  refine to_gf rfl rfl rfl rfl ?_
  refine to_gf rfl rfl rfl rfl ?_
  refine to_gf rfl rfl rfl rfl ?_
  refine to_gf rfl rfl rfl rfl ?_
  refine to_pkT rfl rfl rfl ?_
  refine to_nil ?_
  refine tn_code ?_
  refine t_ifT rfl ?_
  refine t_seq ?_
  refine t_reg ?_
  refine to_call0 rfl rfl (fun w s => law_known w (gl_up hg (belowH_of s))) rfl ?_
  refine to_as rfl rfl ?_
  refine to_nil ?_
  refine tn_code ?_
  refine t_ret1 rfl rfl (res_tmp rfl) (fun w' s => ?_)
  rfl

set_option maxRecDepth 20000 in
theorem w_RoundProved_rN (sh : Sh) (pt : Pt) (gd : Int) (t : List Int) (ta : Option Addr) (tc : Nat) (row : Int) (w : World) (hre : Ro w 0 w.heap.size pt.ea sh.errs.length pt.ec 1 (ints sh.errs)) (hrr : Ro w 0 w.heap.size pt.ra sh.rows.length pt.rc 1 (ints sh.rows)) (hrl : Ro w 0 w.heap.size ta t.length tc 1 (ints t)) (hs : isSh sh = true) (k : Nat) (e : Int) (hgk : gd = (k : Int)) (he : sh.errs[k]? = some e) (hsl7 : decide (t.length ≤ 7) = true) (htr : truK e sh.rows t = true) (hrn : inB row 0 (sh.rows.length - 1) = false) (hg : Gl w) : Calls Tryz.prog 12 #[shV sh pt, (.int .i64 gd), .slice ta t.length tc, (.int .i64 row)] w (RetV w (.bool true)) := by
  subst hgk
  have heb := errs_b (isSh_e hs) e (List.mem_of_getElem? he)
  have hbb := isSh_b hs
  have hxe := map_get (f := intC) he
  have hke := (List.getElem?_eq_some_iff.1 he).1
  have hok := okG_t hs he
  refine calls_T0 (av := [_, _, _, _]) Tryz.func12 rfl rfl rfl ?_
  refine t_seq ?_
  refine t_reg ?_
  refine to_box rfl rfl (fun b4 => ?_)
  refine to_as rfl rfl ?_
  refine to_nil ?_
  refine tn_code ?_
  refine t_seq ?_
  refine t_seq ?_
  refine t_reg ?_
  first | refine to_lda rfl rfl rfl ?_ | refine to_ldea rfl (by assumption) rfl rfl ?_
  refine to_mv rfl rfl ?_
  refine to_call0 rfl rfl (fun w s => law_right sh pt _ w (rdw s) (rdw s)) rfl ?_
  refine to_fix (s := 31) (b' := true) rfl (hok) ?_
  refine to_not rfl rfl ?_
  refine to_mv rfl rfl ?_
  refine to_gt rfl rfl ?_
  refine to_mv rfl rfl ?_
  refine to_gt rfl rfl ?_
  refine to_call0 rfl rfl (fun w s => law_slim t _ _ w) rfl ?_
  refine to_fix (s := 35) (b' := true) rfl (hsl7) ?_
  refine to_gt rfl rfl ?_
  refine to_not rfl rfl ?_
  refine to_pkF rfl rfl rfl ?_
  refine to_mv rfl rfl ?_
  refine to_gt rfl rfl ?_
  first | refine to_lda rfl rfl rfl ?_ | refine to_ldea rfl (by assumption) rfl rfl ?_
  refine to_gt rfl rfl ?_
  refine to_mv rfl rfl ?_
  refine to_gt rfl rfl ?_
  refine to_mv rfl rfl ?_
  refine to_gt rfl rfl ?_
  refine to_call0 rfl rfl (fun w s => ref_Truth sh pt k e t _ _ w (rdw s) (rdw s) hs he (rdw s)) rfl ?_
  refine to_fix (s := 42) (b' := true) rfl (htr) ?_
  refine to_gt rfl rfl ?_
  refine to_not rfl rfl ?_
  refine to_pkF rfl rfl rfl ?_
  refine to_mv rfl rfl ?_
  refine to_gt rfl rfl ?_
  first | refine to_lda rfl rfl rfl ?_ | refine to_ldea rfl (by assumption) rfl rfl ?_
  refine to_gt rfl rfl ?_
  refine to_mv rfl rfl ?_
  refine to_gt rfl rfl ?_
  refine to_call0 rfl rfl (fun w s => ref_Row sh pt _ w (by omega)) rfl ?_
  refine to_fix (s := 48) (b' := false) rfl (hrn) ?_
  refine to_gt rfl rfl ?_
  refine to_not rfl rfl ?_
  refine to_pkF rfl rfl rfl ?_
  refine to_nil ?_
  refine tn_code ?_
  refine t_ifT rfl ?_
  refine t_seq ?_
  refine t_reg ?_
  refine to_call0 rfl rfl (fun w s => law_known w (gl_up hg (belowH_of s))) rfl ?_
  refine to_as rfl rfl ?_
  refine to_nil ?_
  refine tn_code ?_
  refine t_ret1 rfl rfl (res_tmp rfl) (fun w' s => ?_)
  rfl

set_option maxRecDepth 20000 in
theorem w_RoundProved_nn (sh : Sh) (pt : Pt) (gd : Int) (t : List Int) (ta : Option Addr) (tc : Nat) (row : Int) (w : World) (hre : Ro w 0 w.heap.size pt.ea sh.errs.length pt.ec 1 (ints sh.errs)) (hrr : Ro w 0 w.heap.size pt.ra sh.rows.length pt.rc 1 (ints sh.rows)) (hrl : Ro w 0 w.heap.size ta t.length tc 1 (ints t)) (hs : isSh sh = true) (k : Nat) (e : Int) (hgk : gd = (k : Int)) (he : sh.errs[k]? = some e) (hsl7 : decide (t.length ≤ 7) = true) (htr : truK e sh.rows t = true) (i : Nat) (r : Int) (hri : row = (i : Int)) (hr : sh.rows[i]? = some r) (hP : firF sh e [] = none) (hF : rFst sh e = (0, 5)) (hd : rDif (untS sh i) e = (0, 0)) (hg : Gl w) : Calls Tryz.prog 12 #[shV sh pt, (.int .i64 gd), .slice ta t.length tc, (.int .i64 row)] w (RetV w (.bool true)) := by
  subst hgk
  have heb := errs_b (isSh_e hs) e (List.mem_of_getElem? he)
  have hbb := isSh_b hs
  have hxe := map_get (f := intC) he
  have hke := (List.getElem?_eq_some_iff.1 he).1
  have hok := okG_t hs he
  subst hri
  have hrt := row_ok hr
  have hrb := isSh_r hs (List.mem_of_getElem? hr)
  have hxr := map_get (f := intC) hr
  have hir := (List.getElem?_eq_some_iff.1 hr).1
  have htl := truK_len htr
  have hts := tru_small hs heb htr
  have h7 : t.length ≤ 7 := of_decide_eq_true hsl7
  have hss := sums_small hs h7 hts t.length
  rw [List.take_length] at hss
  have hfs := fig_b (sh := sh) (v := sumI t) (B := 700063) hs (by omega)
  have hPx := prf_none hP
  have hz := (fir_dif heb.1).1 hP
  have hfe := fail_eq (fir_fails heb.1 hP htr)
  refine calls_T0 (av := [_, _, _, _]) Tryz.func12 rfl rfl rfl ?_
  refine t_seq ?_
  refine t_reg ?_
  refine to_box rfl rfl (fun b4 => ?_)
  refine to_as rfl rfl ?_
  refine to_nil ?_
  refine tn_code ?_
  refine t_seq ?_
  refine t_seq ?_
  refine t_reg ?_
  first | refine to_lda rfl rfl rfl ?_ | refine to_ldea rfl (by assumption) rfl rfl ?_
  refine to_mv rfl rfl ?_
  refine to_call0 rfl rfl (fun w s => law_right sh pt _ w (rdw s) (rdw s)) rfl ?_
  refine to_fix (s := 31) (b' := true) rfl (hok) ?_
  refine to_not rfl rfl ?_
  refine to_mv rfl rfl ?_
  refine to_gt rfl rfl ?_
  refine to_mv rfl rfl ?_
  refine to_gt rfl rfl ?_
  refine to_call0 rfl rfl (fun w s => law_slim t _ _ w) rfl ?_
  refine to_fix (s := 35) (b' := true) rfl (hsl7) ?_
  refine to_gt rfl rfl ?_
  refine to_not rfl rfl ?_
  refine to_pkF rfl rfl rfl ?_
  refine to_mv rfl rfl ?_
  refine to_gt rfl rfl ?_
  first | refine to_lda rfl rfl rfl ?_ | refine to_ldea rfl (by assumption) rfl rfl ?_
  refine to_gt rfl rfl ?_
  refine to_mv rfl rfl ?_
  refine to_gt rfl rfl ?_
  refine to_mv rfl rfl ?_
  refine to_gt rfl rfl ?_
  refine to_call0 rfl rfl (fun w s => ref_Truth sh pt k e t _ _ w (rdw s) (rdw s) hs he (rdw s)) rfl ?_
  refine to_fix (s := 42) (b' := true) rfl (htr) ?_
  refine to_gt rfl rfl ?_
  refine to_not rfl rfl ?_
  refine to_pkF rfl rfl rfl ?_
  refine to_mv rfl rfl ?_
  refine to_gt rfl rfl ?_
  first | refine to_lda rfl rfl rfl ?_ | refine to_ldea rfl (by assumption) rfl rfl ?_
  refine to_gt rfl rfl ?_
  refine to_mv rfl rfl ?_
  refine to_gt rfl rfl ?_
  refine to_call0 rfl rfl (fun w s => ref_Row sh pt _ w (by omega)) rfl ?_
  refine to_fix (s := 48) (b' := true) rfl (hrt) ?_
  refine to_gt rfl rfl ?_
  refine to_not rfl rfl ?_
  refine to_pkF rfl rfl rfl ?_
  refine to_nil ?_
  refine tn_code ?_
  refine t_ifF rfl ?_
  refine t_skip ?_
  refine tn_code ?_
  refine t_seq ?_
  refine t_reg ?_
  first | refine to_lda rfl rfl rfl ?_ | refine to_ldea rfl (by assumption) rfl rfl ?_
  refine to_mv rfl rfl ?_
  refine to_callR rfl rfl (fun w s => c_Proof (rdw s) (rdw s) hs he hPx) rfl (fun v55 lo55 w55 hlo55 hR55 => ?_)
  obtain ⟨pa55, pc55, rfl, hro55⟩ := hR55
  refine to_mv rfl rfl ?_
  refine to_ex rfl rfl rfl ?_
  refine to_ex rfl rfl rfl ?_
  refine to_as rfl rfl ?_
  refine to_as rfl rfl ?_
  refine to_nil ?_
  refine tn_code ?_
  refine t_seq ?_
  refine t_reg ?_
  first | refine to_lda rfl rfl rfl ?_ | refine to_ldea rfl (by assumption) rfl rfl ?_
  refine to_mv rfl rfl ?_
  refine to_call0 rfl rfl (fun w s => c_Differs (rdw s) (rdw s) hs he hz) rfl ?_
  refine to_mv rfl rfl ?_
  refine to_ex rfl rfl rfl ?_
  refine to_ex rfl rfl rfl ?_
  refine to_alloc rfl (fun b11 => ?_)
  first | refine to_st rfl rfl rfl rfl ?_ | refine to_ste rfl rfl (by assumption) rfl rfl ?_
  refine to_as rfl rfl ?_
  refine to_nil ?_
  refine tn_code ?_
  refine t_seq ?_
  refine t_reg ?_
  first | refine to_lda rfl rfl rfl ?_ | refine to_ldea rfl (by assumption) rfl rfl ?_
  refine to_mv rfl rfl ?_
  refine to_call0 rfl rfl (fun w s => c_First (rdw s) (rdw s) hs he hF) rfl ?_
  refine to_mv rfl rfl ?_
  refine to_ex rfl rfl rfl ?_
  refine to_ex rfl rfl rfl ?_
  refine to_as rfl rfl ?_
  refine to_as rfl rfl ?_
  refine to_nil ?_
  refine tn_code ?_
  refine t_seq ?_
  refine t_reg ?_
  first | refine to_lda rfl rfl rfl ?_ | refine to_ldea rfl (by assumption) rfl rfl ?_
  refine to_mv rfl rfl ?_
  refine to_callR rfl rfl (fun w s => ref_Until sh pt i w (rdw s) (rdw s) hir (by omega)) rfl (fun v73 lo73 w73 hlo73 hR73 => ?_)
  obtain ⟨pa73, pc73, rfl, hro73⟩ := hR73
  refine to_mv rfl rfl ?_
  refine to_call0 rfl rfl (fun w s => c_DifU (rdw s) (rdw s) hs he hir hd) rfl ?_
  refine to_mv rfl rfl ?_
  refine to_ex rfl rfl rfl ?_
  refine to_ex rfl rfl rfl ?_
  refine to_alloc rfl (fun b15 => ?_)
  first | refine to_st rfl rfl rfl rfl ?_ | refine to_ste rfl rfl (by assumption) rfl rfl ?_
  refine to_as rfl rfl ?_
  refine to_nil ?_
  refine tn_code ?_
  refine t_seq ?_
  refine t_reg ?_
  first | refine to_lda rfl rfl rfl ?_ | refine to_ldea rfl (by assumption) rfl rfl ?_
  refine to_mv rfl rfl ?_
  refine to_call0 rfl rfl (fun w s => law_added sh pt t _ _ w (rdw s) hs h7 hts) rfl ?_
  refine to_mv rfl rfl ?_
  refine to_ex rfl rfl rfl ?_
  refine to_ex rfl rfl rfl ?_
  refine to_ex rfl rfl rfl ?_
  refine to_fix (s := 84) (b' := true) rfl (rfl) ?_
  refine to_as rfl rfl ?_
  refine to_as rfl rfl ?_
  refine to_as rfl rfl ?_
  refine to_nil ?_
  refine tn_code ?_
  refine t_seq ?_
  refine t_seq ?_
  refine t_regD rfl (by kernel_rfl) (by kernel_rfl) ?_
  refine to_mv rfl rfl ?_
  refine to_neq rfl rfl rfl ?_
  refine to_fix (s := 86) (b' := true) rfl (rfl) ?_
  refine to_mv rfl rfl ?_
  refine to_gt rfl rfl ?_
  refine to_mv rfl rfl ?_
  refine to_gt rfl rfl ?_
  refine to_neq rfl rfl rfl ?_
  refine to_fix (s := 89) (b' := false) rfl (rfl) ?_
  refine to_pkT rfl rfl rfl ?_
  refine to_mv rfl rfl ?_
  refine to_gt rfl rfl ?_
  refine to_mv rfl rfl ?_
  refine to_gt rfl rfl ?_
  refine to_neq rfl rfl rfl ?_
  refine to_fix (s := 93) (b' := false) rfl (rfl) ?_
  refine to_pkF rfl rfl rfl ?_
  refine to_mv rfl rfl ?_
  refine to_gt rfl rfl ?_
  refine to_mv rfl rfl ?_
  refine to_gt rfl rfl ?_
  refine to_neq rfl rfl rfl ?_
  refine to_fix (s := 97) (b' := true) rfl (rfl) ?_
  refine to_gt rfl rfl ?_
  refine to_mv rfl rfl ?_
  refine to_gt rfl rfl ?_
  refine to_mv rfl rfl ?_
  refine to_gt rfl rfl ?_
  refine to_neq rfl rfl rfl ?_
  refine to_fix (s := 100) (b' := false) rfl (rfl) ?_
  refine to_gt rfl rfl ?_
  refine to_pkT rfl rfl rfl ?_
  refine to_pkF rfl rfl rfl ?_
  refine to_mv rfl rfl ?_
  refine to_gt rfl rfl ?_
  refine to_mv rfl rfl ?_
  refine to_gt rfl rfl ?_
  refine to_neq rfl rfl rfl ?_
  refine to_fix (s := 105) (b' := false) rfl (rfl) ?_
  refine to_pkF rfl rfl rfl ?_
  refine to_mv rfl rfl ?_
  refine to_gt rfl rfl ?_
  refine to_mv rfl rfl ?_
  refine to_gt rfl rfl ?_
  refine to_not rfl rfl ?_
  refine to_pkF rfl rfl rfl ?_
  refine to_mv rfl rfl ?_
  refine to_gt rfl rfl ?_
  refine to_mv rfl rfl ?_
  refine to_gt rfl rfl ?_
  refine to_eql rfl rfl rfl ?_
  refine to_fix (s := 113) (b' := true) rfl (rfl) ?_
  refine to_gt rfl rfl ?_
  first | refine to_lda rfl rfl rfl ?_ | refine to_ldea rfl (by assumption) rfl rfl ?_
  refine to_gt rfl rfl ?_
  refine to_call0 rfl rfl (fun w s => law_span _ _ w) rfl ?_
  refine to_gt rfl rfl ?_
  refine to_eqs rfl rfl rfl rfl rfl rfl rfl ?_
  refine to_fix (s := 116) (b' := true) rfl (rfl) ?_
  refine to_gt rfl rfl ?_
  refine to_bne rfl rfl (by kernel_rfl) rfl ?_
  refine to_fix (s := 117) (b' := false) rfl (rfl) ?_
  refine to_pkF rfl rfl rfl ?_
  refine to_mv rfl rfl ?_
  refine to_gt rfl rfl ?_
  refine to_mv rfl rfl ?_
  refine to_gt rfl rfl ?_
  refine to_eql rfl rfl rfl ?_
  refine to_fix (s := 121) (b' := false) rfl (rfl) ?_
  refine to_gt rfl rfl ?_
  refine to_mv rfl rfl ?_
  refine to_gf rfl rfl rfl rfl ?_
  refine to_gf rfl rfl rfl rfl ?_
  refine to_gt rfl rfl ?_
  refine to_pkF rfl rfl rfl ?_
  refine to_pkF rfl rfl rfl ?_
  refine to_nil ?_
  refine tn_code ?_
  refine t_ifF rfl ?_
  refine t_skip ?_
  refine tn_code ?_
  refine t_seq ?_
  refine t_seq ?_
  refine t_regD rfl (by kernel_rfl) (by kernel_rfl) ?_
  first | refine to_lda rfl rfl rfl ?_ | refine to_ldea rfl (by assumption) rfl rfl ?_
  refine to_call0 rfl rfl (fun w s => law_span _ _ w) rfl ?_
  refine to_nes rfl rfl rfl rfl rfl rfl rfl ?_
  refine to_fix (s := 129) (b' := false) rfl (rfl) ?_
  refine to_mv rfl rfl ?_
  refine to_gf rfl rfl rfl rfl ?_
  refine to_gf rfl rfl rfl rfl ?_
  refine to_gf rfl rfl rfl rfl ?_
  refine to_gf rfl rfl rfl rfl ?_
  refine to_gf rfl rfl rfl rfl ?_
  refine to_gf rfl rfl rfl rfl ?_
  refine to_gf rfl rfl rfl rfl ?_
  refine to_pkF rfl rfl rfl ?_
  refine to_nil ?_
  refine tn_code ?_
  refine t_ifF rfl ?_
  refine t_skip ?_
  refine tn_code ?_
  refine t_seq ?_
  refine t_seq ?_
  refine t_reg ?_
  refine to_mv rfl rfl ?_
  refine to_eql rfl rfl rfl ?_
  refine to_fix (s := 140) (b' := false) rfl (rfl) ?_
  refine to_nil ?_
  refine tn_code ?_
  refine t_ifF rfl ?_
  refine t_skip ?_
  refine tn_code ?_
  refine t_seq ?_
  refine t_reg ?_
  first | refine to_lda rfl rfl rfl ?_ | refine to_ldea rfl (by assumption) rfl rfl ?_
  refine to_mv rfl rfl ?_
  refine to_call0 rfl rfl (fun w s => law_to sh pt (sumI t) w hs (by omega)) rfl ?_
  refine to_mv rfl rfl ?_
  refine to_ex rfl rfl rfl ?_
  refine to_ex rfl rfl rfl ?_
  refine to_fix (s := 165) (b' := true) rfl (rfl) ?_
  refine to_as rfl rfl ?_
  refine to_as rfl rfl ?_
  refine to_nil ?_
  refine tn_code ?_
  refine t_seq ?_
  refine t_seq ?_
  refine t_reg ?_
  refine to_mv rfl rfl ?_
  refine to_not rfl rfl ?_
  refine to_mv rfl rfl ?_
  refine to_gt rfl rfl ?_
  refine to_mv rfl rfl ?_
  refine to_gt rfl rfl ?_
  refine to_mv rfl rfl ?_
  refine to_gt rfl rfl ?_
  refine to_neq rfl rfl rfl ?_
  refine to_fix (s := 171) (b' := false) rfl (by simp [hfe]) ?_
  refine to_gt rfl rfl ?_
  refine to_mv rfl rfl ?_
  refine to_gf rfl rfl rfl rfl ?_
  refine to_gf rfl rfl rfl rfl ?_
  refine to_gf rfl rfl rfl rfl ?_
  refine to_gf rfl rfl rfl rfl ?_
  refine to_gf rfl rfl rfl rfl ?_
  refine to_gf rfl rfl rfl rfl ?_
  refine to_gf rfl rfl rfl rfl ?_
  refine to_gt rfl rfl ?_
  refine to_pkF rfl rfl rfl ?_
  refine to_pkF rfl rfl rfl ?_
  refine to_nil ?_
  refine tn_code ?_
  refine t_ifF rfl ?_
  refine t_skip ?_
  refine tn_code ?_
  refine t_seq ?_
  refine t_seq ?_
  refine t_reg ?_
  refine to_mv rfl rfl ?_
  refine to_neq rfl rfl rfl ?_
  refine to_fix (s := 183) (b' := true) rfl (rfl) ?_
  refine to_nil ?_
  refine tn_code ?_
  refine t_ifT rfl ?_
  refine t_seq ?_
  refine t_reg ?_
  refine to_call0 rfl rfl (fun w s => law_known w (gl_up hg (belowH_of s))) rfl ?_
  refine to_as rfl rfl ?_
  refine to_nil ?_
  refine tn_code ?_
  refine t_ret1 rfl rfl (res_tmp rfl) (fun w' s => ?_)
  rfl

set_option maxRecDepth 20000 in
theorem w_RoundProved_nf0 (sh : Sh) (pt : Pt) (gd : Int) (t : List Int) (ta : Option Addr) (tc : Nat) (row : Int) (w : World) (hre : Ro w 0 w.heap.size pt.ea sh.errs.length pt.ec 1 (ints sh.errs)) (hrr : Ro w 0 w.heap.size pt.ra sh.rows.length pt.rc 1 (ints sh.rows)) (hrl : Ro w 0 w.heap.size ta t.length tc 1 (ints t)) (hs : isSh sh = true) (k : Nat) (e : Int) (hgk : gd = (k : Int)) (he : sh.errs[k]? = some e) (hsl7 : decide (t.length ≤ 7) = true) (htr : truK e sh.rows t = true) (i : Nat) (r : Int) (hri : row = (i : Int)) (hr : sh.rows[i]? = some r) (hP : firF sh e [] = none) (q : Nat) (hql : q < sh.rows.length) (hF : rFst sh e = ((q : Int), 0)) (hq0 : rDif (untS sh q) e ≠ (0, 0)) (hd : rDif (untS sh i) e = (0, 0)) (hg : Gl w) : Calls Tryz.prog 12 #[shV sh pt, (.int .i64 gd), .slice ta t.length tc, (.int .i64 row)] w (RetV w (.bool true)) := by
  subst hgk
  have heb := errs_b (isSh_e hs) e (List.mem_of_getElem? he)
  have hbb := isSh_b hs
  have hxe := map_get (f := intC) he
  have hke := (List.getElem?_eq_some_iff.1 he).1
  have hok := okG_t hs he
  subst hri
  have hrt := row_ok hr
  have hrb := isSh_r hs (List.mem_of_getElem? hr)
  have hxr := map_get (f := intC) hr
  have hir := (List.getElem?_eq_some_iff.1 hr).1
  have htl := truK_len htr
  have hts := tru_small hs heb htr
  have h7 : t.length ≤ 7 := of_decide_eq_true hsl7
  have hss := sums_small hs h7 hts t.length
  rw [List.take_length] at hss
  have hfs := fig_b (sh := sh) (v := sumI t) (B := 700063) hs (by omega)
  have hPx := prf_none hP
  have hz := (fir_dif heb.1).1 hP
  have hfe := fail_eq (fir_fails heb.1 hP htr)
  refine calls_T0 (av := [_, _, _, _]) Tryz.func12 rfl rfl rfl ?_
  refine t_seq ?_
  refine t_reg ?_
  refine to_box rfl rfl (fun b4 => ?_)
  refine to_as rfl rfl ?_
  refine to_nil ?_
  refine tn_code ?_
  refine t_seq ?_
  refine t_seq ?_
  refine t_reg ?_
  first | refine to_lda rfl rfl rfl ?_ | refine to_ldea rfl (by assumption) rfl rfl ?_
  refine to_mv rfl rfl ?_
  refine to_call0 rfl rfl (fun w s => law_right sh pt _ w (rdw s) (rdw s)) rfl ?_
  refine to_fix (s := 31) (b' := true) rfl (hok) ?_
  refine to_not rfl rfl ?_
  refine to_mv rfl rfl ?_
  refine to_gt rfl rfl ?_
  refine to_mv rfl rfl ?_
  refine to_gt rfl rfl ?_
  refine to_call0 rfl rfl (fun w s => law_slim t _ _ w) rfl ?_
  refine to_fix (s := 35) (b' := true) rfl (hsl7) ?_
  refine to_gt rfl rfl ?_
  refine to_not rfl rfl ?_
  refine to_pkF rfl rfl rfl ?_
  refine to_mv rfl rfl ?_
  refine to_gt rfl rfl ?_
  first | refine to_lda rfl rfl rfl ?_ | refine to_ldea rfl (by assumption) rfl rfl ?_
  refine to_gt rfl rfl ?_
  refine to_mv rfl rfl ?_
  refine to_gt rfl rfl ?_
  refine to_mv rfl rfl ?_
  refine to_gt rfl rfl ?_
  refine to_call0 rfl rfl (fun w s => ref_Truth sh pt k e t _ _ w (rdw s) (rdw s) hs he (rdw s)) rfl ?_
  refine to_fix (s := 42) (b' := true) rfl (htr) ?_
  refine to_gt rfl rfl ?_
  refine to_not rfl rfl ?_
  refine to_pkF rfl rfl rfl ?_
  refine to_mv rfl rfl ?_
  refine to_gt rfl rfl ?_
  first | refine to_lda rfl rfl rfl ?_ | refine to_ldea rfl (by assumption) rfl rfl ?_
  refine to_gt rfl rfl ?_
  refine to_mv rfl rfl ?_
  refine to_gt rfl rfl ?_
  refine to_call0 rfl rfl (fun w s => ref_Row sh pt _ w (by omega)) rfl ?_
  refine to_fix (s := 48) (b' := true) rfl (hrt) ?_
  refine to_gt rfl rfl ?_
  refine to_not rfl rfl ?_
  refine to_pkF rfl rfl rfl ?_
  refine to_nil ?_
  refine tn_code ?_
  refine t_ifF rfl ?_
  refine t_skip ?_
  refine tn_code ?_
  refine t_seq ?_
  refine t_reg ?_
  first | refine to_lda rfl rfl rfl ?_ | refine to_ldea rfl (by assumption) rfl rfl ?_
  refine to_mv rfl rfl ?_
  refine to_callR rfl rfl (fun w s => c_Proof (rdw s) (rdw s) hs he hPx) rfl (fun v55 lo55 w55 hlo55 hR55 => ?_)
  obtain ⟨pa55, pc55, rfl, hro55⟩ := hR55
  refine to_mv rfl rfl ?_
  refine to_ex rfl rfl rfl ?_
  refine to_ex rfl rfl rfl ?_
  refine to_as rfl rfl ?_
  refine to_as rfl rfl ?_
  refine to_nil ?_
  refine tn_code ?_
  refine t_seq ?_
  refine t_reg ?_
  first | refine to_lda rfl rfl rfl ?_ | refine to_ldea rfl (by assumption) rfl rfl ?_
  refine to_mv rfl rfl ?_
  refine to_call0 rfl rfl (fun w s => c_Differs (rdw s) (rdw s) hs he hz) rfl ?_
  refine to_mv rfl rfl ?_
  refine to_ex rfl rfl rfl ?_
  refine to_ex rfl rfl rfl ?_
  refine to_alloc rfl (fun b11 => ?_)
  first | refine to_st rfl rfl rfl rfl ?_ | refine to_ste rfl rfl (by assumption) rfl rfl ?_
  refine to_as rfl rfl ?_
  refine to_nil ?_
  refine tn_code ?_
  refine t_seq ?_
  refine t_reg ?_
  first | refine to_lda rfl rfl rfl ?_ | refine to_ldea rfl (by assumption) rfl rfl ?_
  refine to_mv rfl rfl ?_
  refine to_call0 rfl rfl (fun w s => c_First (rdw s) (rdw s) hs he hF) rfl ?_
  refine to_mv rfl rfl ?_
  refine to_ex rfl rfl rfl ?_
  refine to_ex rfl rfl rfl ?_
  refine to_as rfl rfl ?_
  refine to_as rfl rfl ?_
  refine to_nil ?_
  refine tn_code ?_
  refine t_seq ?_
  refine t_reg ?_
  first | refine to_lda rfl rfl rfl ?_ | refine to_ldea rfl (by assumption) rfl rfl ?_
  refine to_mv rfl rfl ?_
  refine to_callR rfl rfl (fun w s => ref_Until sh pt i w (rdw s) (rdw s) hir (by omega)) rfl (fun v73 lo73 w73 hlo73 hR73 => ?_)
  obtain ⟨pa73, pc73, rfl, hro73⟩ := hR73
  refine to_mv rfl rfl ?_
  refine to_call0 rfl rfl (fun w s => c_DifU (rdw s) (rdw s) hs he hir hd) rfl ?_
  refine to_mv rfl rfl ?_
  refine to_ex rfl rfl rfl ?_
  refine to_ex rfl rfl rfl ?_
  refine to_alloc rfl (fun b15 => ?_)
  first | refine to_st rfl rfl rfl rfl ?_ | refine to_ste rfl rfl (by assumption) rfl rfl ?_
  refine to_as rfl rfl ?_
  refine to_nil ?_
  refine tn_code ?_
  refine t_seq ?_
  refine t_reg ?_
  first | refine to_lda rfl rfl rfl ?_ | refine to_ldea rfl (by assumption) rfl rfl ?_
  refine to_mv rfl rfl ?_
  refine to_call0 rfl rfl (fun w s => law_added sh pt t _ _ w (rdw s) hs h7 hts) rfl ?_
  refine to_mv rfl rfl ?_
  refine to_ex rfl rfl rfl ?_
  refine to_ex rfl rfl rfl ?_
  refine to_ex rfl rfl rfl ?_
  refine to_fix (s := 84) (b' := true) rfl (rfl) ?_
  refine to_as rfl rfl ?_
  refine to_as rfl rfl ?_
  refine to_as rfl rfl ?_
  refine to_nil ?_
  refine tn_code ?_
  refine t_seq ?_
  refine t_seq ?_
  refine t_regD rfl (by kernel_rfl) (by kernel_rfl) ?_
  refine to_mv rfl rfl ?_
  refine to_neq rfl rfl rfl ?_
  refine to_fix (s := 86) (b' := true) rfl (rfl) ?_
  refine to_mv rfl rfl ?_
  refine to_gt rfl rfl ?_
  refine to_mv rfl rfl ?_
  refine to_gt rfl rfl ?_
  refine to_neq rfl rfl rfl ?_
  refine to_fix (s := 89) (b' := false) rfl (rfl) ?_
  refine to_pkT rfl rfl rfl ?_
  refine to_mv rfl rfl ?_
  refine to_gt rfl rfl ?_
  refine to_mv rfl rfl ?_
  refine to_gt rfl rfl ?_
  refine to_neq rfl rfl rfl ?_
  refine to_fix (s := 93) (b' := false) rfl (rfl) ?_
  refine to_pkF rfl rfl rfl ?_
  refine to_mv rfl rfl ?_
  refine to_gt rfl rfl ?_
  refine to_mv rfl rfl ?_
  refine to_gt rfl rfl ?_
  refine to_neq rfl rfl rfl ?_
  refine to_fix (s := 97) (b' := false) rfl (rfl) ?_
  refine to_gt rfl rfl ?_
  refine to_mv rfl rfl ?_
  refine to_gf rfl rfl rfl rfl ?_
  refine to_gf rfl rfl rfl rfl ?_
  refine to_gt rfl rfl ?_
  refine to_pkF rfl rfl rfl ?_
  refine to_pkF rfl rfl rfl ?_
  refine to_mv rfl rfl ?_
  refine to_gt rfl rfl ?_
  refine to_mv rfl rfl ?_
  refine to_gt rfl rfl ?_
  refine to_neq rfl rfl rfl ?_
  refine to_fix (s := 105) (b' := false) rfl (rfl) ?_
  refine to_pkF rfl rfl rfl ?_
  refine to_mv rfl rfl ?_
  refine to_gt rfl rfl ?_
  refine to_mv rfl rfl ?_
  refine to_gt rfl rfl ?_
  refine to_not rfl rfl ?_
  refine to_pkF rfl rfl rfl ?_
  refine to_mv rfl rfl ?_
  refine to_gt rfl rfl ?_
  refine to_mv rfl rfl ?_
  refine to_gt rfl rfl ?_
  refine to_eql rfl rfl rfl ?_
  refine to_fix (s := 113) (b' := true) rfl (rfl) ?_
  refine to_gt rfl rfl ?_
  first | refine to_lda rfl rfl rfl ?_ | refine to_ldea rfl (by assumption) rfl rfl ?_
  refine to_gt rfl rfl ?_
  refine to_call0 rfl rfl (fun w s => law_span _ _ w) rfl ?_
  refine to_gt rfl rfl ?_
  refine to_eqs rfl rfl rfl rfl rfl rfl rfl ?_
  refine to_fix (s := 116) (b' := true) rfl (rfl) ?_
  refine to_gt rfl rfl ?_
  refine to_bne rfl rfl (by kernel_rfl) rfl ?_
  refine to_fix (s := 117) (b' := false) rfl (rfl) ?_
  refine to_pkF rfl rfl rfl ?_
  refine to_mv rfl rfl ?_
  refine to_gt rfl rfl ?_
  refine to_mv rfl rfl ?_
  refine to_gt rfl rfl ?_
  refine to_eql rfl rfl rfl ?_
  refine to_fix (s := 121) (b' := false) rfl (rfl) ?_
  refine to_gt rfl rfl ?_
  refine to_mv rfl rfl ?_
  refine to_gf rfl rfl rfl rfl ?_
  refine to_gf rfl rfl rfl rfl ?_
  refine to_gt rfl rfl ?_
  refine to_pkF rfl rfl rfl ?_
  refine to_pkF rfl rfl rfl ?_
  refine to_nil ?_
  refine tn_code ?_
  refine t_ifF rfl ?_
  refine t_skip ?_
  refine tn_code ?_
  refine t_seq ?_
  refine t_seq ?_
  refine t_regD rfl (by kernel_rfl) (by kernel_rfl) ?_
  first | refine to_lda rfl rfl rfl ?_ | refine to_ldea rfl (by assumption) rfl rfl ?_
  refine to_call0 rfl rfl (fun w s => law_span _ _ w) rfl ?_
  refine to_nes rfl rfl rfl rfl rfl rfl rfl ?_
  refine to_fix (s := 129) (b' := false) rfl (rfl) ?_
  refine to_mv rfl rfl ?_
  refine to_gf rfl rfl rfl rfl ?_
  refine to_gf rfl rfl rfl rfl ?_
  refine to_gf rfl rfl rfl rfl ?_
  refine to_gf rfl rfl rfl rfl ?_
  refine to_gf rfl rfl rfl rfl ?_
  refine to_gf rfl rfl rfl rfl ?_
  refine to_gf rfl rfl rfl rfl ?_
  refine to_pkF rfl rfl rfl ?_
  refine to_nil ?_
  refine tn_code ?_
  refine t_ifF rfl ?_
  refine t_skip ?_
  refine tn_code ?_
  refine t_seq ?_
  refine t_seq ?_
  refine t_reg ?_
  refine to_mv rfl rfl ?_
  refine to_eql rfl rfl rfl ?_
  refine to_fix (s := 140) (b' := true) rfl (rfl) ?_
  refine to_nil ?_
  refine tn_code ?_
  refine t_ifT rfl ?_
  refine t_seq ?_
  refine t_seq ?_
  refine t_reg ?_
  first | refine to_lda rfl rfl rfl ?_ | refine to_ldea rfl (by assumption) rfl rfl ?_
  refine to_mv rfl rfl ?_
  refine to_call0 rfl rfl (fun w s => ref_Row sh pt _ w (by omega)) rfl ?_
  refine to_fix (s := 143) (b' := true) rfl (inB_iff.2 (by omega)) ?_
  refine to_not rfl rfl ?_
  refine to_nil ?_
  refine tn_code ?_
  refine t_ifF rfl ?_
  refine t_skip ?_
  refine tn_code ?_
  refine t_seq ?_
  refine t_reg ?_
  first | refine to_lda rfl rfl rfl ?_ | refine to_ldea rfl (by assumption) rfl rfl ?_
  refine to_mv rfl rfl ?_
  refine to_callR rfl rfl (fun w s => ref_Until sh pt q w (rdw s) (rdw s) hql (by omega)) rfl (fun v148 lo148 w148 hlo148 hR148 => ?_)
  obtain ⟨pa148, pc148, rfl, hro148⟩ := hR148
  refine to_mv rfl rfl ?_
  refine to_call0 rfl rfl (fun w s => c_DifU (rdw s) (rdw s) hs he hql (rfl : rDif (untS sh q) e = rDif (untS sh q) e)) rfl ?_
  refine to_mv rfl rfl ?_
  refine to_ex rfl rfl rfl ?_
  refine to_ex rfl rfl rfl ?_
  refine to_alloc rfl (fun b20 => ?_)
  first | refine to_st rfl rfl rfl rfl ?_ | refine to_ste rfl rfl (by assumption) rfl rfl ?_
  refine to_as rfl rfl ?_
  refine to_nil ?_
  refine tn_code ?_
  refine t_seq ?_
  refine t_regD rfl (by kernel_rfl) (by kernel_rfl) ?_
  refine to_mv rfl rfl ?_
  refine to_neq rfl rfl rfl ?_
  refine to_fix (s := 154) (b' := false) rfl (rfl) ?_
  refine to_mv rfl rfl ?_
  refine to_gt rfl rfl ?_
  first | refine to_lda rfl rfl rfl ?_ | refine to_ldea rfl (by assumption) rfl rfl ?_
  refine to_gt rfl rfl ?_
  refine to_call0 rfl rfl (fun w s => law_span _ _ w) rfl ?_
  refine to_gt rfl rfl ?_
  refine to_eqs rfl rfl rfl rfl rfl rfl rfl ?_
  refine to_fix (s := 158) (b' := false) rfl ((show ieq (spanC (rDif (untS sh q) e)) (spanC (0, 0)) = false from span_ne hq0)) ?_
  refine to_pkF rfl rfl rfl ?_
  refine to_nil ?_
  refine tn_code ?_
  refine t_ifF rfl ?_
  refine t_skip ?_
  refine tn_code ?_
  refine t_seq ?_
  refine t_reg ?_
  first | refine to_lda rfl rfl rfl ?_ | refine to_ldea rfl (by assumption) rfl rfl ?_
  refine to_mv rfl rfl ?_
  refine to_call0 rfl rfl (fun w s => law_to sh pt (sumI t) w hs (by omega)) rfl ?_
  refine to_mv rfl rfl ?_
  refine to_ex rfl rfl rfl ?_
  refine to_ex rfl rfl rfl ?_
  refine to_fix (s := 165) (b' := true) rfl (rfl) ?_
  refine to_as rfl rfl ?_
  refine to_as rfl rfl ?_
  refine to_nil ?_
  refine tn_code ?_
  refine t_seq ?_
  refine t_seq ?_
  refine t_reg ?_
  refine to_mv rfl rfl ?_
  refine to_not rfl rfl ?_
  refine to_mv rfl rfl ?_
  refine to_gt rfl rfl ?_
  refine to_mv rfl rfl ?_
  refine to_gt rfl rfl ?_
  refine to_mv rfl rfl ?_
  refine to_gt rfl rfl ?_
  refine to_neq rfl rfl rfl ?_
  refine to_fix (s := 171) (b' := false) rfl (by simp [hfe]) ?_
  refine to_gt rfl rfl ?_
  refine to_mv rfl rfl ?_
  refine to_gf rfl rfl rfl rfl ?_
  refine to_gf rfl rfl rfl rfl ?_
  refine to_gf rfl rfl rfl rfl ?_
  refine to_gf rfl rfl rfl rfl ?_
  refine to_gf rfl rfl rfl rfl ?_
  refine to_gf rfl rfl rfl rfl ?_
  refine to_gf rfl rfl rfl rfl ?_
  refine to_gt rfl rfl ?_
  refine to_pkF rfl rfl rfl ?_
  refine to_pkF rfl rfl rfl ?_
  refine to_nil ?_
  refine tn_code ?_
  refine t_ifF rfl ?_
  refine t_skip ?_
  refine tn_code ?_
  refine t_seq ?_
  refine t_seq ?_
  refine t_reg ?_
  refine to_mv rfl rfl ?_
  refine to_neq rfl rfl rfl ?_
  refine to_fix (s := 183) (b' := true) rfl (rfl) ?_
  refine to_nil ?_
  refine tn_code ?_
  refine t_ifT rfl ?_
  refine t_seq ?_
  refine t_reg ?_
  refine to_call0 rfl rfl (fun w s => law_known w (gl_up hg (belowH_of s))) rfl ?_
  refine to_as rfl rfl ?_
  refine to_nil ?_
  refine tn_code ?_
  refine t_ret1 rfl rfl (res_tmp rfl) (fun w' s => ?_)
  rfl

set_option maxRecDepth 20000 in
theorem w_RoundProved_nf1 (sh : Sh) (pt : Pt) (gd : Int) (t : List Int) (ta : Option Addr) (tc : Nat) (row : Int) (w : World) (hre : Ro w 0 w.heap.size pt.ea sh.errs.length pt.ec 1 (ints sh.errs)) (hrr : Ro w 0 w.heap.size pt.ra sh.rows.length pt.rc 1 (ints sh.rows)) (hrl : Ro w 0 w.heap.size ta t.length tc 1 (ints t)) (hs : isSh sh = true) (k : Nat) (e : Int) (hgk : gd = (k : Int)) (he : sh.errs[k]? = some e) (hsl7 : decide (t.length ≤ 7) = true) (htr : truK e sh.rows t = true) (i : Nat) (r : Int) (hri : row = (i : Int)) (hr : sh.rows[i]? = some r) (hP : firF sh e [] = none) (q : Nat) (hql : q < sh.rows.length) (hF : rFst sh e = ((q : Int), 0)) (hq0 : rDif (untS sh q) e ≠ (0, 0)) (hd : rDif (untS sh i) e ≠ (0, 0)) (hqi : q ≤ i) (hg : Gl w) : Calls Tryz.prog 12 #[shV sh pt, (.int .i64 gd), .slice ta t.length tc, (.int .i64 row)] w (RetV w (.bool true)) := by
  subst hgk
  have heb := errs_b (isSh_e hs) e (List.mem_of_getElem? he)
  have hbb := isSh_b hs
  have hxe := map_get (f := intC) he
  have hke := (List.getElem?_eq_some_iff.1 he).1
  have hok := okG_t hs he
  subst hri
  have hrt := row_ok hr
  have hrb := isSh_r hs (List.mem_of_getElem? hr)
  have hxr := map_get (f := intC) hr
  have hir := (List.getElem?_eq_some_iff.1 hr).1
  have htl := truK_len htr
  have hts := tru_small hs heb htr
  have h7 : t.length ≤ 7 := of_decide_eq_true hsl7
  have hss := sums_small hs h7 hts t.length
  rw [List.take_length] at hss
  have hfs := fig_b (sh := sh) (v := sumI t) (B := 700063) hs (by omega)
  have hPx := prf_none hP
  have hz := (fir_dif heb.1).1 hP
  have hfe := fail_eq (fir_fails heb.1 hP htr)
  refine calls_T0 (av := [_, _, _, _]) Tryz.func12 rfl rfl rfl ?_
  refine t_seq ?_
  refine t_reg ?_
  refine to_box rfl rfl (fun b4 => ?_)
  refine to_as rfl rfl ?_
  refine to_nil ?_
  refine tn_code ?_
  refine t_seq ?_
  refine t_seq ?_
  refine t_reg ?_
  first | refine to_lda rfl rfl rfl ?_ | refine to_ldea rfl (by assumption) rfl rfl ?_
  refine to_mv rfl rfl ?_
  refine to_call0 rfl rfl (fun w s => law_right sh pt _ w (rdw s) (rdw s)) rfl ?_
  refine to_fix (s := 31) (b' := true) rfl (hok) ?_
  refine to_not rfl rfl ?_
  refine to_mv rfl rfl ?_
  refine to_gt rfl rfl ?_
  refine to_mv rfl rfl ?_
  refine to_gt rfl rfl ?_
  refine to_call0 rfl rfl (fun w s => law_slim t _ _ w) rfl ?_
  refine to_fix (s := 35) (b' := true) rfl (hsl7) ?_
  refine to_gt rfl rfl ?_
  refine to_not rfl rfl ?_
  refine to_pkF rfl rfl rfl ?_
  refine to_mv rfl rfl ?_
  refine to_gt rfl rfl ?_
  first | refine to_lda rfl rfl rfl ?_ | refine to_ldea rfl (by assumption) rfl rfl ?_
  refine to_gt rfl rfl ?_
  refine to_mv rfl rfl ?_
  refine to_gt rfl rfl ?_
  refine to_mv rfl rfl ?_
  refine to_gt rfl rfl ?_
  refine to_call0 rfl rfl (fun w s => ref_Truth sh pt k e t _ _ w (rdw s) (rdw s) hs he (rdw s)) rfl ?_
  refine to_fix (s := 42) (b' := true) rfl (htr) ?_
  refine to_gt rfl rfl ?_
  refine to_not rfl rfl ?_
  refine to_pkF rfl rfl rfl ?_
  refine to_mv rfl rfl ?_
  refine to_gt rfl rfl ?_
  first | refine to_lda rfl rfl rfl ?_ | refine to_ldea rfl (by assumption) rfl rfl ?_
  refine to_gt rfl rfl ?_
  refine to_mv rfl rfl ?_
  refine to_gt rfl rfl ?_
  refine to_call0 rfl rfl (fun w s => ref_Row sh pt _ w (by omega)) rfl ?_
  refine to_fix (s := 48) (b' := true) rfl (hrt) ?_
  refine to_gt rfl rfl ?_
  refine to_not rfl rfl ?_
  refine to_pkF rfl rfl rfl ?_
  refine to_nil ?_
  refine tn_code ?_
  refine t_ifF rfl ?_
  refine t_skip ?_
  refine tn_code ?_
  refine t_seq ?_
  refine t_reg ?_
  first | refine to_lda rfl rfl rfl ?_ | refine to_ldea rfl (by assumption) rfl rfl ?_
  refine to_mv rfl rfl ?_
  refine to_callR rfl rfl (fun w s => c_Proof (rdw s) (rdw s) hs he hPx) rfl (fun v55 lo55 w55 hlo55 hR55 => ?_)
  obtain ⟨pa55, pc55, rfl, hro55⟩ := hR55
  refine to_mv rfl rfl ?_
  refine to_ex rfl rfl rfl ?_
  refine to_ex rfl rfl rfl ?_
  refine to_as rfl rfl ?_
  refine to_as rfl rfl ?_
  refine to_nil ?_
  refine tn_code ?_
  refine t_seq ?_
  refine t_reg ?_
  first | refine to_lda rfl rfl rfl ?_ | refine to_ldea rfl (by assumption) rfl rfl ?_
  refine to_mv rfl rfl ?_
  refine to_call0 rfl rfl (fun w s => c_Differs (rdw s) (rdw s) hs he hz) rfl ?_
  refine to_mv rfl rfl ?_
  refine to_ex rfl rfl rfl ?_
  refine to_ex rfl rfl rfl ?_
  refine to_alloc rfl (fun b11 => ?_)
  first | refine to_st rfl rfl rfl rfl ?_ | refine to_ste rfl rfl (by assumption) rfl rfl ?_
  refine to_as rfl rfl ?_
  refine to_nil ?_
  refine tn_code ?_
  refine t_seq ?_
  refine t_reg ?_
  first | refine to_lda rfl rfl rfl ?_ | refine to_ldea rfl (by assumption) rfl rfl ?_
  refine to_mv rfl rfl ?_
  refine to_call0 rfl rfl (fun w s => c_First (rdw s) (rdw s) hs he hF) rfl ?_
  refine to_mv rfl rfl ?_
  refine to_ex rfl rfl rfl ?_
  refine to_ex rfl rfl rfl ?_
  refine to_as rfl rfl ?_
  refine to_as rfl rfl ?_
  refine to_nil ?_
  refine tn_code ?_
  refine t_seq ?_
  refine t_reg ?_
  first | refine to_lda rfl rfl rfl ?_ | refine to_ldea rfl (by assumption) rfl rfl ?_
  refine to_mv rfl rfl ?_
  refine to_callR rfl rfl (fun w s => ref_Until sh pt i w (rdw s) (rdw s) hir (by omega)) rfl (fun v73 lo73 w73 hlo73 hR73 => ?_)
  obtain ⟨pa73, pc73, rfl, hro73⟩ := hR73
  refine to_mv rfl rfl ?_
  refine to_call0 rfl rfl (fun w s => c_DifU (rdw s) (rdw s) hs he hir (rfl : rDif (untS sh i) e = rDif (untS sh i) e)) rfl ?_
  refine to_mv rfl rfl ?_
  refine to_ex rfl rfl rfl ?_
  refine to_ex rfl rfl rfl ?_
  refine to_alloc rfl (fun b15 => ?_)
  first | refine to_st rfl rfl rfl rfl ?_ | refine to_ste rfl rfl (by assumption) rfl rfl ?_
  refine to_as rfl rfl ?_
  refine to_nil ?_
  refine tn_code ?_
  refine t_seq ?_
  refine t_reg ?_
  first | refine to_lda rfl rfl rfl ?_ | refine to_ldea rfl (by assumption) rfl rfl ?_
  refine to_mv rfl rfl ?_
  refine to_call0 rfl rfl (fun w s => law_added sh pt t _ _ w (rdw s) hs h7 hts) rfl ?_
  refine to_mv rfl rfl ?_
  refine to_ex rfl rfl rfl ?_
  refine to_ex rfl rfl rfl ?_
  refine to_ex rfl rfl rfl ?_
  refine to_fix (s := 84) (b' := true) rfl (rfl) ?_
  refine to_as rfl rfl ?_
  refine to_as rfl rfl ?_
  refine to_as rfl rfl ?_
  refine to_nil ?_
  refine tn_code ?_
  refine t_seq ?_
  refine t_seq ?_
  refine t_regD rfl (by kernel_rfl) (by kernel_rfl) ?_
  refine to_mv rfl rfl ?_
  refine to_neq rfl rfl rfl ?_
  refine to_fix (s := 86) (b' := true) rfl (rfl) ?_
  refine to_mv rfl rfl ?_
  refine to_gt rfl rfl ?_
  refine to_mv rfl rfl ?_
  refine to_gt rfl rfl ?_
  refine to_neq rfl rfl rfl ?_
  refine to_fix (s := 89) (b' := false) rfl (rfl) ?_
  refine to_pkT rfl rfl rfl ?_
  refine to_mv rfl rfl ?_
  refine to_gt rfl rfl ?_
  refine to_mv rfl rfl ?_
  refine to_gt rfl rfl ?_
  refine to_neq rfl rfl rfl ?_
  refine to_fix (s := 93) (b' := false) rfl (rfl) ?_
  refine to_pkF rfl rfl rfl ?_
  refine to_mv rfl rfl ?_
  refine to_gt rfl rfl ?_
  refine to_mv rfl rfl ?_
  refine to_gt rfl rfl ?_
  refine to_neq rfl rfl rfl ?_
  refine to_fix (s := 97) (b' := false) rfl (rfl) ?_
  refine to_gt rfl rfl ?_
  refine to_mv rfl rfl ?_
  refine to_gf rfl rfl rfl rfl ?_
  refine to_gf rfl rfl rfl rfl ?_
  refine to_gt rfl rfl ?_
  refine to_pkF rfl rfl rfl ?_
  refine to_pkF rfl rfl rfl ?_
  refine to_mv rfl rfl ?_
  refine to_gt rfl rfl ?_
  refine to_mv rfl rfl ?_
  refine to_gt rfl rfl ?_
  refine to_neq rfl rfl rfl ?_
  refine to_fix (s := 105) (b' := false) rfl (rfl) ?_
  refine to_pkF rfl rfl rfl ?_
  refine to_mv rfl rfl ?_
  refine to_gt rfl rfl ?_
  refine to_mv rfl rfl ?_
  refine to_gt rfl rfl ?_
  refine to_not rfl rfl ?_
  refine to_pkF rfl rfl rfl ?_
  refine to_mv rfl rfl ?_
  refine to_gt rfl rfl ?_
  refine to_mv rfl rfl ?_
  refine to_gt rfl rfl ?_
  refine to_eql rfl rfl rfl ?_
  refine to_fix (s := 113) (b' := true) rfl (rfl) ?_
  refine to_gt rfl rfl ?_
  first | refine to_lda rfl rfl rfl ?_ | refine to_ldea rfl (by assumption) rfl rfl ?_
  refine to_gt rfl rfl ?_
  refine to_call0 rfl rfl (fun w s => law_span _ _ w) rfl ?_
  refine to_gt rfl rfl ?_
  refine to_eqs rfl rfl rfl rfl rfl rfl rfl ?_
  refine to_fix (s := 116) (b' := true) rfl (rfl) ?_
  refine to_gt rfl rfl ?_
  refine to_bne rfl rfl (by kernel_rfl) rfl ?_
  refine to_fix (s := 117) (b' := false) rfl (rfl) ?_
  refine to_pkF rfl rfl rfl ?_
  refine to_mv rfl rfl ?_
  refine to_gt rfl rfl ?_
  refine to_mv rfl rfl ?_
  refine to_gt rfl rfl ?_
  refine to_eql rfl rfl rfl ?_
  refine to_fix (s := 121) (b' := false) rfl (rfl) ?_
  refine to_gt rfl rfl ?_
  refine to_mv rfl rfl ?_
  refine to_gf rfl rfl rfl rfl ?_
  refine to_gf rfl rfl rfl rfl ?_
  refine to_gt rfl rfl ?_
  refine to_pkF rfl rfl rfl ?_
  refine to_pkF rfl rfl rfl ?_
  refine to_nil ?_
  refine tn_code ?_
  refine t_ifF rfl ?_
  refine t_skip ?_
  refine tn_code ?_
  refine t_seq ?_
  refine t_seq ?_
  refine t_regD rfl (by kernel_rfl) (by kernel_rfl) ?_
  first | refine to_lda rfl rfl rfl ?_ | refine to_ldea rfl (by assumption) rfl rfl ?_
  refine to_call0 rfl rfl (fun w s => law_span _ _ w) rfl ?_
  refine to_nes rfl rfl rfl rfl rfl rfl rfl ?_
  refine to_fix (s := 129) (b' := true) rfl ((congrArg (!·) (show ieq (spanC (rDif (untS sh i) e)) (spanC (0, 0)) = false from span_ne hd))) ?_
  refine to_mv rfl rfl ?_
  refine to_gt rfl rfl ?_
  refine to_mv rfl rfl ?_
  refine to_gt rfl rfl ?_
  refine to_neq rfl rfl rfl ?_
  refine to_fix (s := 132) (b' := false) rfl (rfl) ?_
  refine to_gt rfl rfl ?_
  refine to_mv rfl rfl ?_
  refine to_gt rfl rfl ?_
  refine to_mv rfl rfl ?_
  refine to_gt rfl rfl ?_
  refine to_mv rfl rfl ?_
  refine to_gt rfl rfl ?_
  refine to_lss rfl rfl rfl ?_
  refine to_fix (s := 136) (b' := false) rfl (decide_eq_false (by omega)) ?_
  refine to_gt rfl rfl ?_
  refine to_pkF rfl rfl rfl ?_
  refine to_pkT rfl rfl rfl ?_
  refine to_nil ?_
  refine tn_code ?_
  refine t_ifF rfl ?_
  refine t_skip ?_
  refine tn_code ?_
  refine t_seq ?_
  refine t_seq ?_
  refine t_reg ?_
  refine to_mv rfl rfl ?_
  refine to_eql rfl rfl rfl ?_
  refine to_fix (s := 140) (b' := true) rfl (rfl) ?_
  refine to_nil ?_
  refine tn_code ?_
  refine t_ifT rfl ?_
  refine t_seq ?_
  refine t_seq ?_
  refine t_reg ?_
  first | refine to_lda rfl rfl rfl ?_ | refine to_ldea rfl (by assumption) rfl rfl ?_
  refine to_mv rfl rfl ?_
  refine to_call0 rfl rfl (fun w s => ref_Row sh pt _ w (by omega)) rfl ?_
  refine to_fix (s := 143) (b' := true) rfl (inB_iff.2 (by omega)) ?_
  refine to_not rfl rfl ?_
  refine to_nil ?_
  refine tn_code ?_
  refine t_ifF rfl ?_
  refine t_skip ?_
  refine tn_code ?_
  refine t_seq ?_
  refine t_reg ?_
  first | refine to_lda rfl rfl rfl ?_ | refine to_ldea rfl (by assumption) rfl rfl ?_
  refine to_mv rfl rfl ?_
  refine to_callR rfl rfl (fun w s => ref_Until sh pt q w (rdw s) (rdw s) hql (by omega)) rfl (fun v148 lo148 w148 hlo148 hR148 => ?_)
  obtain ⟨pa148, pc148, rfl, hro148⟩ := hR148
  refine to_mv rfl rfl ?_
  refine to_call0 rfl rfl (fun w s => c_DifU (rdw s) (rdw s) hs he hql (rfl : rDif (untS sh q) e = rDif (untS sh q) e)) rfl ?_
  refine to_mv rfl rfl ?_
  refine to_ex rfl rfl rfl ?_
  refine to_ex rfl rfl rfl ?_
  refine to_alloc rfl (fun b20 => ?_)
  first | refine to_st rfl rfl rfl rfl ?_ | refine to_ste rfl rfl (by assumption) rfl rfl ?_
  refine to_as rfl rfl ?_
  refine to_nil ?_
  refine tn_code ?_
  refine t_seq ?_
  refine t_regD rfl (by kernel_rfl) (by kernel_rfl) ?_
  refine to_mv rfl rfl ?_
  refine to_neq rfl rfl rfl ?_
  refine to_fix (s := 154) (b' := false) rfl (rfl) ?_
  refine to_mv rfl rfl ?_
  refine to_gt rfl rfl ?_
  first | refine to_lda rfl rfl rfl ?_ | refine to_ldea rfl (by assumption) rfl rfl ?_
  refine to_gt rfl rfl ?_
  refine to_call0 rfl rfl (fun w s => law_span _ _ w) rfl ?_
  refine to_gt rfl rfl ?_
  refine to_eqs rfl rfl rfl rfl rfl rfl rfl ?_
  refine to_fix (s := 158) (b' := false) rfl ((show ieq (spanC (rDif (untS sh q) e)) (spanC (0, 0)) = false from span_ne hq0)) ?_
  refine to_pkF rfl rfl rfl ?_
  refine to_nil ?_
  refine tn_code ?_
  refine t_ifF rfl ?_
  refine t_skip ?_
  refine tn_code ?_
  refine t_seq ?_
  refine t_reg ?_
  first | refine to_lda rfl rfl rfl ?_ | refine to_ldea rfl (by assumption) rfl rfl ?_
  refine to_mv rfl rfl ?_
  refine to_call0 rfl rfl (fun w s => law_to sh pt (sumI t) w hs (by omega)) rfl ?_
  refine to_mv rfl rfl ?_
  refine to_ex rfl rfl rfl ?_
  refine to_ex rfl rfl rfl ?_
  refine to_fix (s := 165) (b' := true) rfl (rfl) ?_
  refine to_as rfl rfl ?_
  refine to_as rfl rfl ?_
  refine to_nil ?_
  refine tn_code ?_
  refine t_seq ?_
  refine t_seq ?_
  refine t_reg ?_
  refine to_mv rfl rfl ?_
  refine to_not rfl rfl ?_
  refine to_mv rfl rfl ?_
  refine to_gt rfl rfl ?_
  refine to_mv rfl rfl ?_
  refine to_gt rfl rfl ?_
  refine to_mv rfl rfl ?_
  refine to_gt rfl rfl ?_
  refine to_neq rfl rfl rfl ?_
  refine to_fix (s := 171) (b' := false) rfl (by simp [hfe]) ?_
  refine to_gt rfl rfl ?_
  refine to_mv rfl rfl ?_
  refine to_gf rfl rfl rfl rfl ?_
  refine to_gf rfl rfl rfl rfl ?_
  refine to_gf rfl rfl rfl rfl ?_
  refine to_gf rfl rfl rfl rfl ?_
  refine to_gf rfl rfl rfl rfl ?_
  refine to_gf rfl rfl rfl rfl ?_
  refine to_gf rfl rfl rfl rfl ?_
  refine to_gt rfl rfl ?_
  refine to_pkF rfl rfl rfl ?_
  refine to_pkF rfl rfl rfl ?_
  refine to_nil ?_
  refine tn_code ?_
  refine t_ifF rfl ?_
  refine t_skip ?_
  refine tn_code ?_
  refine t_seq ?_
  refine t_seq ?_
  refine t_reg ?_
  refine to_mv rfl rfl ?_
  refine to_neq rfl rfl rfl ?_
  refine to_fix (s := 183) (b' := true) rfl (rfl) ?_
  refine to_nil ?_
  refine tn_code ?_
  refine t_ifT rfl ?_
  refine t_seq ?_
  refine t_reg ?_
  refine to_call0 rfl rfl (fun w s => law_known w (gl_up hg (belowH_of s))) rfl ?_
  refine to_as rfl rfl ?_
  refine to_nil ?_
  refine tn_code ?_
  refine t_ret1 rfl rfl (res_tmp rfl) (fun w' s => ?_)
  rfl

set_option maxRecDepth 20000 in
theorem w_RoundProved_sf0 (sh : Sh) (pt : Pt) (gd : Int) (t : List Int) (ta : Option Addr) (tc : Nat) (row : Int) (w : World) (hre : Ro w 0 w.heap.size pt.ea sh.errs.length pt.ec 1 (ints sh.errs)) (hrr : Ro w 0 w.heap.size pt.ra sh.rows.length pt.rc 1 (ints sh.rows)) (hrl : Ro w 0 w.heap.size ta t.length tc 1 (ints t)) (hs : isSh sh = true) (k : Nat) (e : Int) (hgk : gd = (k : Int)) (he : sh.errs[k]? = some e) (hsl7 : decide (t.length ≤ 7) = true) (htr : truK e sh.rows t = true) (i : Nat) (r : Int) (hri : row = (i : Int)) (hr : sh.rows[i]? = some r) (x : List Int) (hP : firF sh e [] = some x) (q : Nat) (hql : q < sh.rows.length) (hF : rFst sh e = ((q : Int), 0)) (hq0 : rDif (untS sh q) e ≠ (0, 0)) (hd : rDif (untS sh i) e = (0, 0)) (hg : Gl w) : Calls Tryz.prog 12 #[shV sh pt, (.int .i64 gd), .slice ta t.length tc, (.int .i64 row)] w (RetV w (.bool true)) := by
  subst hgk
  have heb := errs_b (isSh_e hs) e (List.mem_of_getElem? he)
  have hbb := isSh_b hs
  have hxe := map_get (f := intC) he
  have hke := (List.getElem?_eq_some_iff.1 he).1
  have hok := okG_t hs he
  subst hri
  have hrt := row_ok hr
  have hrb := isSh_r hs (List.mem_of_getElem? hr)
  have hxr := map_get (f := intC) hr
  have hir := (List.getElem?_eq_some_iff.1 hr).1
  have htl := truK_len htr
  have hts := tru_small hs heb htr
  have h7 : t.length ≤ 7 := of_decide_eq_true hsl7
  have hss := sums_small hs h7 hts t.length
  rw [List.take_length] at hss
  have hfs := fig_b (sh := sh) (v := sumI t) (B := 700063) hs (by omega)
  have hPx := prf_some hP
  obtain ⟨hxt, hxf, hxb⟩ := fir_some heb.1 hP
  have hz : rDif sh e ≠ (0, 0) := fun hh => by rw [(fir_dif heb.1).2 hh] at hP; cases hP
  have hxl := truK_len hxt
  have hxs := tru_small hs heb hxt
  have hxss := sums_small hs (t := x) (by omega) hxs x.length
  rw [List.take_length] at hxss
  have hxfs := fig_b (sh := sh) (v := sumI x) (B := 700063) hs (by omega)
  have hxne : ¬ figO (fig sh) x = fig sh (sumI x) := fun hh => by simp [failT, hh] at hxf
  refine calls_T0 (av := [_, _, _, _]) Tryz.func12 rfl rfl rfl ?_
  refine t_seq ?_
  refine t_reg ?_
  refine to_box rfl rfl (fun b4 => ?_)
  refine to_as rfl rfl ?_
  refine to_nil ?_
  refine tn_code ?_
  refine t_seq ?_
  refine t_seq ?_
  refine t_reg ?_
  first | refine to_lda rfl rfl rfl ?_ | refine to_ldea rfl (by assumption) rfl rfl ?_
  refine to_mv rfl rfl ?_
  refine to_call0 rfl rfl (fun w s => law_right sh pt _ w (rdw s) (rdw s)) rfl ?_
  refine to_fix (s := 31) (b' := true) rfl (hok) ?_
  refine to_not rfl rfl ?_
  refine to_mv rfl rfl ?_
  refine to_gt rfl rfl ?_
  refine to_mv rfl rfl ?_
  refine to_gt rfl rfl ?_
  refine to_call0 rfl rfl (fun w s => law_slim t _ _ w) rfl ?_
  refine to_fix (s := 35) (b' := true) rfl (hsl7) ?_
  refine to_gt rfl rfl ?_
  refine to_not rfl rfl ?_
  refine to_pkF rfl rfl rfl ?_
  refine to_mv rfl rfl ?_
  refine to_gt rfl rfl ?_
  first | refine to_lda rfl rfl rfl ?_ | refine to_ldea rfl (by assumption) rfl rfl ?_
  refine to_gt rfl rfl ?_
  refine to_mv rfl rfl ?_
  refine to_gt rfl rfl ?_
  refine to_mv rfl rfl ?_
  refine to_gt rfl rfl ?_
  refine to_call0 rfl rfl (fun w s => ref_Truth sh pt k e t _ _ w (rdw s) (rdw s) hs he (rdw s)) rfl ?_
  refine to_fix (s := 42) (b' := true) rfl (htr) ?_
  refine to_gt rfl rfl ?_
  refine to_not rfl rfl ?_
  refine to_pkF rfl rfl rfl ?_
  refine to_mv rfl rfl ?_
  refine to_gt rfl rfl ?_
  first | refine to_lda rfl rfl rfl ?_ | refine to_ldea rfl (by assumption) rfl rfl ?_
  refine to_gt rfl rfl ?_
  refine to_mv rfl rfl ?_
  refine to_gt rfl rfl ?_
  refine to_call0 rfl rfl (fun w s => ref_Row sh pt _ w (by omega)) rfl ?_
  refine to_fix (s := 48) (b' := true) rfl (hrt) ?_
  refine to_gt rfl rfl ?_
  refine to_not rfl rfl ?_
  refine to_pkF rfl rfl rfl ?_
  refine to_nil ?_
  refine tn_code ?_
  refine t_ifF rfl ?_
  refine t_skip ?_
  refine tn_code ?_
  refine t_seq ?_
  refine t_reg ?_
  first | refine to_lda rfl rfl rfl ?_ | refine to_ldea rfl (by assumption) rfl rfl ?_
  refine to_mv rfl rfl ?_
  refine to_callR rfl rfl (fun w s => c_Proof (rdw s) (rdw s) hs he hPx) rfl (fun v55 lo55 w55 hlo55 hR55 => ?_)
  obtain ⟨pa55, pc55, rfl, hro55⟩ := hR55
  refine to_mv rfl rfl ?_
  refine to_ex rfl rfl rfl ?_
  refine to_ex rfl rfl rfl ?_
  refine to_as rfl rfl ?_
  refine to_as rfl rfl ?_
  refine to_nil ?_
  refine tn_code ?_
  refine t_seq ?_
  refine t_reg ?_
  first | refine to_lda rfl rfl rfl ?_ | refine to_ldea rfl (by assumption) rfl rfl ?_
  refine to_mv rfl rfl ?_
  refine to_call0 rfl rfl (fun w s => c_Differs (rdw s) (rdw s) hs he (rfl : rDif sh e = rDif sh e)) rfl ?_
  refine to_mv rfl rfl ?_
  refine to_ex rfl rfl rfl ?_
  refine to_ex rfl rfl rfl ?_
  refine to_alloc rfl (fun b11 => ?_)
  first | refine to_st rfl rfl rfl rfl ?_ | refine to_ste rfl rfl (by assumption) rfl rfl ?_
  refine to_as rfl rfl ?_
  refine to_nil ?_
  refine tn_code ?_
  refine t_seq ?_
  refine t_reg ?_
  first | refine to_lda rfl rfl rfl ?_ | refine to_ldea rfl (by assumption) rfl rfl ?_
  refine to_mv rfl rfl ?_
  refine to_call0 rfl rfl (fun w s => c_First (rdw s) (rdw s) hs he hF) rfl ?_
  refine to_mv rfl rfl ?_
  refine to_ex rfl rfl rfl ?_
  refine to_ex rfl rfl rfl ?_
  refine to_as rfl rfl ?_
  refine to_as rfl rfl ?_
  refine to_nil ?_
  refine tn_code ?_
  refine t_seq ?_
  refine t_reg ?_
  first | refine to_lda rfl rfl rfl ?_ | refine to_ldea rfl (by assumption) rfl rfl ?_
  refine to_mv rfl rfl ?_
  refine to_callR rfl rfl (fun w s => ref_Until sh pt i w (rdw s) (rdw s) hir (by omega)) rfl (fun v73 lo73 w73 hlo73 hR73 => ?_)
  obtain ⟨pa73, pc73, rfl, hro73⟩ := hR73
  refine to_mv rfl rfl ?_
  refine to_call0 rfl rfl (fun w s => c_DifU (rdw s) (rdw s) hs he hir hd) rfl ?_
  refine to_mv rfl rfl ?_
  refine to_ex rfl rfl rfl ?_
  refine to_ex rfl rfl rfl ?_
  refine to_alloc rfl (fun b15 => ?_)
  first | refine to_st rfl rfl rfl rfl ?_ | refine to_ste rfl rfl (by assumption) rfl rfl ?_
  refine to_as rfl rfl ?_
  refine to_nil ?_
  refine tn_code ?_
  refine t_seq ?_
  refine t_reg ?_
  first | refine to_lda rfl rfl rfl ?_ | refine to_ldea rfl (by assumption) rfl rfl ?_
  refine to_mv rfl rfl ?_
  refine to_call0 rfl rfl (fun w s => law_added sh pt t _ _ w (rdw s) hs h7 hts) rfl ?_
  refine to_mv rfl rfl ?_
  refine to_ex rfl rfl rfl ?_
  refine to_ex rfl rfl rfl ?_
  refine to_ex rfl rfl rfl ?_
  refine to_fix (s := 84) (b' := true) rfl (rfl) ?_
  refine to_as rfl rfl ?_
  refine to_as rfl rfl ?_
  refine to_as rfl rfl ?_
  refine to_nil ?_
  refine tn_code ?_
  refine t_seq ?_
  refine t_seq ?_
  refine t_regD rfl (by kernel_rfl) (by kernel_rfl) ?_
  refine to_mv rfl rfl ?_
  refine to_neq rfl rfl rfl ?_
  refine to_fix (s := 86) (b' := false) rfl (rfl) ?_
  refine to_mv rfl rfl ?_
  refine to_gf rfl rfl rfl rfl ?_
  refine to_gf rfl rfl rfl rfl ?_
  refine to_pkF rfl rfl rfl ?_
  refine to_mv rfl rfl ?_
  refine to_gt rfl rfl ?_
  refine to_mv rfl rfl ?_
  refine to_gt rfl rfl ?_
  refine to_neq rfl rfl rfl ?_
  refine to_fix (s := 93) (b' := false) rfl (rfl) ?_
  refine to_pkF rfl rfl rfl ?_
  refine to_mv rfl rfl ?_
  refine to_gt rfl rfl ?_
  refine to_mv rfl rfl ?_
  refine to_gt rfl rfl ?_
  refine to_neq rfl rfl rfl ?_
  refine to_fix (s := 97) (b' := false) rfl (rfl) ?_
  refine to_gt rfl rfl ?_
  refine to_mv rfl rfl ?_
  refine to_gf rfl rfl rfl rfl ?_
  refine to_gf rfl rfl rfl rfl ?_
  refine to_gt rfl rfl ?_
  refine to_pkF rfl rfl rfl ?_
  refine to_pkF rfl rfl rfl ?_
  refine to_mv rfl rfl ?_
  refine to_gt rfl rfl ?_
  refine to_mv rfl rfl ?_
  refine to_gt rfl rfl ?_
  refine to_neq rfl rfl rfl ?_
  refine to_fix (s := 105) (b' := false) rfl (rfl) ?_
  refine to_pkF rfl rfl rfl ?_
  refine to_mv rfl rfl ?_
  refine to_gt rfl rfl ?_
  refine to_mv rfl rfl ?_
  refine to_gt rfl rfl ?_
  refine to_not rfl rfl ?_
  refine to_pkF rfl rfl rfl ?_
  refine to_mv rfl rfl ?_
  refine to_gt rfl rfl ?_
  refine to_mv rfl rfl ?_
  refine to_gt rfl rfl ?_
  refine to_eql rfl rfl rfl ?_
  refine to_fix (s := 113) (b' := false) rfl (rfl) ?_
  refine to_gt rfl rfl ?_
  first | refine to_lda rfl rfl rfl ?_ | refine to_ldea rfl (by assumption) rfl rfl ?_
  refine to_gt rfl rfl ?_
  refine to_call0 rfl rfl (fun w s => law_span _ _ w) rfl ?_
  refine to_gt rfl rfl ?_
  refine to_eqs rfl rfl rfl rfl rfl rfl rfl ?_
  refine to_fix (s := 116) (b' := false) rfl ((show ieq (spanC (rDif sh e)) (spanC (0, 0)) = false from span_ne hz)) ?_
  refine to_gt rfl rfl ?_
  refine to_bne rfl rfl (by kernel_rfl) rfl ?_
  refine to_fix (s := 117) (b' := false) rfl (rfl) ?_
  refine to_pkF rfl rfl rfl ?_
  refine to_mv rfl rfl ?_
  refine to_gt rfl rfl ?_
  refine to_mv rfl rfl ?_
  refine to_gt rfl rfl ?_
  refine to_eql rfl rfl rfl ?_
  refine to_fix (s := 121) (b' := true) rfl (rfl) ?_
  refine to_gt rfl rfl ?_
  refine to_mv rfl rfl ?_
  refine to_gt rfl rfl ?_
  refine to_mv rfl rfl ?_
  refine to_gt rfl rfl ?_
  refine to_neq rfl rfl rfl ?_
  refine to_fix (s := 124) (b' := false) rfl (rfl) ?_
  refine to_gt rfl rfl ?_
  refine to_pkT rfl rfl rfl ?_
  refine to_pkF rfl rfl rfl ?_
  refine to_nil ?_
  refine tn_code ?_
  refine t_ifF rfl ?_
  refine t_skip ?_
  refine tn_code ?_
  refine t_seq ?_
  refine t_seq ?_
  refine t_regD rfl (by kernel_rfl) (by kernel_rfl) ?_
  first | refine to_lda rfl rfl rfl ?_ | refine to_ldea rfl (by assumption) rfl rfl ?_
  refine to_call0 rfl rfl (fun w s => law_span _ _ w) rfl ?_
  refine to_nes rfl rfl rfl rfl rfl rfl rfl ?_
  refine to_fix (s := 129) (b' := false) rfl (rfl) ?_
  refine to_mv rfl rfl ?_
  refine to_gf rfl rfl rfl rfl ?_
  refine to_gf rfl rfl rfl rfl ?_
  refine to_gf rfl rfl rfl rfl ?_
  refine to_gf rfl rfl rfl rfl ?_
  refine to_gf rfl rfl rfl rfl ?_
  refine to_gf rfl rfl rfl rfl ?_
  refine to_gf rfl rfl rfl rfl ?_
  refine to_pkF rfl rfl rfl ?_
  refine to_nil ?_
  refine tn_code ?_
  refine t_ifF rfl ?_
  refine t_skip ?_
  refine tn_code ?_
  refine t_seq ?_
  refine t_seq ?_
  refine t_reg ?_
  refine to_mv rfl rfl ?_
  refine to_eql rfl rfl rfl ?_
  refine to_fix (s := 140) (b' := true) rfl (rfl) ?_
  refine to_nil ?_
  refine tn_code ?_
  refine t_ifT rfl ?_
  refine t_seq ?_
  refine t_seq ?_
  refine t_reg ?_
  first | refine to_lda rfl rfl rfl ?_ | refine to_ldea rfl (by assumption) rfl rfl ?_
  refine to_mv rfl rfl ?_
  refine to_call0 rfl rfl (fun w s => ref_Row sh pt _ w (by omega)) rfl ?_
  refine to_fix (s := 143) (b' := true) rfl (inB_iff.2 (by omega)) ?_
  refine to_not rfl rfl ?_
  refine to_nil ?_
  refine tn_code ?_
  refine t_ifF rfl ?_
  refine t_skip ?_
  refine tn_code ?_
  refine t_seq ?_
  refine t_reg ?_
  first | refine to_lda rfl rfl rfl ?_ | refine to_ldea rfl (by assumption) rfl rfl ?_
  refine to_mv rfl rfl ?_
  refine to_callR rfl rfl (fun w s => ref_Until sh pt q w (rdw s) (rdw s) hql (by omega)) rfl (fun v148 lo148 w148 hlo148 hR148 => ?_)
  obtain ⟨pa148, pc148, rfl, hro148⟩ := hR148
  refine to_mv rfl rfl ?_
  refine to_call0 rfl rfl (fun w s => c_DifU (rdw s) (rdw s) hs he hql (rfl : rDif (untS sh q) e = rDif (untS sh q) e)) rfl ?_
  refine to_mv rfl rfl ?_
  refine to_ex rfl rfl rfl ?_
  refine to_ex rfl rfl rfl ?_
  refine to_alloc rfl (fun b20 => ?_)
  first | refine to_st rfl rfl rfl rfl ?_ | refine to_ste rfl rfl (by assumption) rfl rfl ?_
  refine to_as rfl rfl ?_
  refine to_nil ?_
  refine tn_code ?_
  refine t_seq ?_
  refine t_regD rfl (by kernel_rfl) (by kernel_rfl) ?_
  refine to_mv rfl rfl ?_
  refine to_neq rfl rfl rfl ?_
  refine to_fix (s := 154) (b' := false) rfl (rfl) ?_
  refine to_mv rfl rfl ?_
  refine to_gt rfl rfl ?_
  first | refine to_lda rfl rfl rfl ?_ | refine to_ldea rfl (by assumption) rfl rfl ?_
  refine to_gt rfl rfl ?_
  refine to_call0 rfl rfl (fun w s => law_span _ _ w) rfl ?_
  refine to_gt rfl rfl ?_
  refine to_eqs rfl rfl rfl rfl rfl rfl rfl ?_
  refine to_fix (s := 158) (b' := false) rfl ((show ieq (spanC (rDif (untS sh q) e)) (spanC (0, 0)) = false from span_ne hq0)) ?_
  refine to_pkF rfl rfl rfl ?_
  refine to_nil ?_
  refine tn_code ?_
  refine t_ifF rfl ?_
  refine t_skip ?_
  refine tn_code ?_
  refine t_seq ?_
  refine t_reg ?_
  first | refine to_lda rfl rfl rfl ?_ | refine to_ldea rfl (by assumption) rfl rfl ?_
  refine to_mv rfl rfl ?_
  refine to_call0 rfl rfl (fun w s => law_to sh pt (sumI t) w hs (by omega)) rfl ?_
  refine to_mv rfl rfl ?_
  refine to_ex rfl rfl rfl ?_
  refine to_ex rfl rfl rfl ?_
  refine to_fix (s := 165) (b' := true) rfl (rfl) ?_
  refine to_as rfl rfl ?_
  refine to_as rfl rfl ?_
  refine to_nil ?_
  refine tn_code ?_
  refine t_seq ?_
  refine t_seq ?_
  refine t_reg ?_
  refine to_mv rfl rfl ?_
  refine to_not rfl rfl ?_
  refine to_mv rfl rfl ?_
  refine to_gt rfl rfl ?_
  refine to_mv rfl rfl ?_
  refine to_gt rfl rfl ?_
  refine to_mv rfl rfl ?_
  refine to_gt rfl rfl ?_
  refine to_neq rfl rfl rfl ?_
  refine to_gt rfl rfl ?_
  refine to_mv rfl rfl ?_
  refine to_gs rfl rfl rfl (fun h1 => ?_) (fun h1 => ?_)
  · try simp only [decide_eq_true_eq, decide_eq_false_iff_not, Bool.not_eq_true', Bool.not_eq_false', Int.not_lt, Int.not_le, ne_eq, Decidable.not_not] at h1
    try have h1b := inB_iff.1 h1
    refine to_gt rfl rfl ?_
    refine to_mv rfl rfl ?_
    refine to_gt rfl rfl ?_
    refine to_neq rfl rfl rfl ?_
    refine to_fix (s := 174) (b' := false) rfl (rfl) ?_
    refine to_gt rfl rfl ?_
    refine to_mv rfl rfl ?_
    refine to_gt rfl rfl ?_
    refine to_mv rfl rfl ?_
    refine to_gt rfl rfl ?_
    refine to_mv rfl rfl ?_
    refine to_gt rfl rfl ?_
    refine to_call0 rfl rfl (fun w s => ref_Before t x _ _ _ _ w (rdw s) (rdw s) (by omega) (by omega)) rfl ?_
    refine to_fix (s := 178) (b' := false) rfl (hxb t htr (fail_ne (by omega))) ?_
    refine to_gt rfl rfl ?_
    refine to_pkF rfl rfl rfl ?_
    refine to_gt rfl rfl ?_
    refine to_pkT rfl rfl rfl ?_
    refine to_pkF rfl rfl rfl ?_
    refine to_nil ?_
    refine tn_code ?_
    refine t_ifF rfl ?_
    refine t_skip ?_
    refine tn_code ?_
    refine t_seq ?_
    refine t_seq ?_
    refine t_reg ?_
    refine to_mv rfl rfl ?_
    refine to_neq rfl rfl rfl ?_
    refine to_fix (s := 183) (b' := false) rfl (rfl) ?_
    refine to_nil ?_
    refine tn_code ?_
    refine t_ifF rfl ?_
    refine t_skip ?_
    refine tn_code ?_
    refine t_seq ?_
    refine t_seq ?_
    refine t_reg ?_
    refine to_mv rfl rfl ?_
    refine to_lenS rfl rfl ?_
    first | refine to_fa rfl rfl rfl (by simp only [Nat.reduceAdd]; rfl) rfl ?_ | refine to_fae rfl rfl rfl (by simp only [Nat.reduceAdd]; rfl) rfl ?_
    first | refine to_lds rfl rfl rfl ?_ | refine to_ldes rfl (by assumption) rfl rfl ?_
    refine to_lenS rfl rfl ?_
    refine to_neq rfl rfl rfl ?_
    refine to_fix (s := 190) (b' := false) rfl (by simp; omega) ?_
    refine to_mv rfl rfl ?_
    refine to_gt rfl rfl ?_
    first | refine to_lda rfl rfl rfl ?_ | refine to_ldea rfl (by assumption) rfl rfl ?_
    refine to_gt rfl rfl ?_
    refine to_mv rfl rfl ?_
    refine to_gt rfl rfl ?_
    refine to_mv rfl rfl ?_
    refine to_gt rfl rfl ?_
    refine to_call0 rfl rfl (fun w s => ref_Truth sh pt k e x _ _ w (rdw s) (rdw s) hs he (rdw s)) rfl ?_
    refine to_fix (s := 195) (b' := true) rfl (hxt) ?_
    refine to_gt rfl rfl ?_
    refine to_not rfl rfl ?_
    refine to_pkF rfl rfl rfl ?_
    refine to_nil ?_
    refine tn_code ?_
    refine t_ifF rfl ?_
    refine t_skip ?_
    refine tn_code ?_
    refine t_seq ?_
    refine t_reg ?_
    first | refine to_lda rfl rfl rfl ?_ | refine to_ldea rfl (by assumption) rfl rfl ?_
    refine to_mv rfl rfl ?_
    refine to_call0 rfl rfl (fun w s => law_added sh pt x _ _ w (rdw s) hs (by omega) hxs) rfl ?_
    refine to_mv rfl rfl ?_
    refine to_ex rfl rfl rfl ?_
    refine to_ex rfl rfl rfl ?_
    refine to_ex rfl rfl rfl ?_
    refine to_fix (s := 204) (b' := true) rfl (rfl) ?_
    refine to_as rfl rfl ?_
    refine to_as rfl rfl ?_
    refine to_as rfl rfl ?_
    refine to_nil ?_
    refine tn_code ?_
    refine t_seq ?_
    refine t_reg ?_
    first | refine to_lda rfl rfl rfl ?_ | refine to_ldea rfl (by assumption) rfl rfl ?_
    refine to_mv rfl rfl ?_
    refine to_call0 rfl rfl (fun w s => law_to sh pt (sumI x) w hs (by omega)) rfl ?_
    refine to_mv rfl rfl ?_
    refine to_ex rfl rfl rfl ?_
    refine to_ex rfl rfl rfl ?_
    refine to_fix (s := 210) (b' := true) rfl (rfl) ?_
    refine to_as rfl rfl ?_
    refine to_as rfl rfl ?_
    refine to_nil ?_
    refine tn_code ?_
    refine t_seq ?_
    refine t_reg ?_
    refine to_mv rfl rfl ?_
    refine to_mv rfl rfl ?_
    refine to_gt rfl rfl ?_
    refine to_mv rfl rfl ?_
    refine to_pkT rfl rfl rfl ?_
    refine to_mv rfl rfl ?_
    refine to_gt rfl rfl ?_
    refine to_mv rfl rfl ?_
    refine to_gt rfl rfl ?_
    refine to_mv rfl rfl ?_
    refine to_gt rfl rfl ?_
    refine to_neq rfl rfl rfl ?_
    refine to_fix (s := 218) (b' := true) rfl (by simp; omega) ?_
    refine to_pkT rfl rfl rfl ?_
    refine to_mv rfl rfl ?_
    refine to_gt rfl rfl ?_
    refine to_call0 rfl rfl (fun w s => law_known w (gl_up hg (belowH_of s))) rfl ?_
    refine to_pkT rfl rfl rfl ?_
    refine to_as rfl rfl ?_
    refine to_nil ?_
    refine tn_code ?_
    refine t_ret1 rfl rfl (res_tmp rfl) (fun w' s => ?_)
    rfl
  · try simp only [decide_eq_true_eq, decide_eq_false_iff_not, Bool.not_eq_true', Bool.not_eq_false', Int.not_lt, Int.not_le, ne_eq, Decidable.not_not] at h1
    try have h1b := inB_iff.1 h1
    refine to_gf rfl rfl rfl rfl ?_
    refine to_gf rfl rfl rfl rfl ?_
    refine to_gf rfl rfl rfl rfl ?_
    refine to_gf rfl rfl rfl rfl ?_
    refine to_gf rfl rfl rfl rfl ?_
    refine to_gf rfl rfl rfl rfl ?_
    refine to_gf rfl rfl rfl rfl ?_
    refine to_gt rfl rfl ?_
    refine to_pkF rfl rfl rfl ?_
    refine to_pkF rfl rfl rfl ?_
    refine to_nil ?_
    refine tn_code ?_
    refine t_ifF rfl ?_
    refine t_skip ?_
    refine tn_code ?_
    refine t_seq ?_
    refine t_seq ?_
    refine t_reg ?_
    refine to_mv rfl rfl ?_
    refine to_neq rfl rfl rfl ?_
    refine to_fix (s := 183) (b' := false) rfl (rfl) ?_
    refine to_nil ?_
    refine tn_code ?_
    refine t_ifF rfl ?_
    refine t_skip ?_
    refine tn_code ?_
    refine t_seq ?_
    refine t_seq ?_
    refine t_reg ?_
    refine to_mv rfl rfl ?_
    refine to_lenS rfl rfl ?_
    first | refine to_fa rfl rfl rfl (by simp only [Nat.reduceAdd]; rfl) rfl ?_ | refine to_fae rfl rfl rfl (by simp only [Nat.reduceAdd]; rfl) rfl ?_
    first | refine to_lds rfl rfl rfl ?_ | refine to_ldes rfl (by assumption) rfl rfl ?_
    refine to_lenS rfl rfl ?_
    refine to_neq rfl rfl rfl ?_
    refine to_fix (s := 190) (b' := false) rfl (by simp; omega) ?_
    refine to_mv rfl rfl ?_
    refine to_gt rfl rfl ?_
    first | refine to_lda rfl rfl rfl ?_ | refine to_ldea rfl (by assumption) rfl rfl ?_
    refine to_gt rfl rfl ?_
    refine to_mv rfl rfl ?_
    refine to_gt rfl rfl ?_
    refine to_mv rfl rfl ?_
    refine to_gt rfl rfl ?_
    refine to_call0 rfl rfl (fun w s => ref_Truth sh pt k e x _ _ w (rdw s) (rdw s) hs he (rdw s)) rfl ?_
    refine to_fix (s := 195) (b' := true) rfl (hxt) ?_
    refine to_gt rfl rfl ?_
    refine to_not rfl rfl ?_
    refine to_pkF rfl rfl rfl ?_
    refine to_nil ?_
    refine tn_code ?_
    refine t_ifF rfl ?_
    refine t_skip ?_
    refine tn_code ?_
    refine t_seq ?_
    refine t_reg ?_
    first | refine to_lda rfl rfl rfl ?_ | refine to_ldea rfl (by assumption) rfl rfl ?_
    refine to_mv rfl rfl ?_
    refine to_call0 rfl rfl (fun w s => law_added sh pt x _ _ w (rdw s) hs (by omega) hxs) rfl ?_
    refine to_mv rfl rfl ?_
    refine to_ex rfl rfl rfl ?_
    refine to_ex rfl rfl rfl ?_
    refine to_ex rfl rfl rfl ?_
    refine to_fix (s := 204) (b' := true) rfl (rfl) ?_
    refine to_as rfl rfl ?_
    refine to_as rfl rfl ?_
    refine to_as rfl rfl ?_
    refine to_nil ?_
    refine tn_code ?_
    refine t_seq ?_
    refine t_reg ?_
    first | refine to_lda rfl rfl rfl ?_ | refine to_ldea rfl (by assumption) rfl rfl ?_
    refine to_mv rfl rfl ?_
    refine to_call0 rfl rfl (fun w s => law_to sh pt (sumI x) w hs (by omega)) rfl ?_
    refine to_mv rfl rfl ?_
    refine to_ex rfl rfl rfl ?_
    refine to_ex rfl rfl rfl ?_
    refine to_fix (s := 210) (b' := true) rfl (rfl) ?_
    refine to_as rfl rfl ?_
    refine to_as rfl rfl ?_
    refine to_nil ?_
    refine tn_code ?_
    refine t_seq ?_
    refine t_reg ?_
    refine to_mv rfl rfl ?_
    refine to_mv rfl rfl ?_
    refine to_gt rfl rfl ?_
    refine to_mv rfl rfl ?_
    refine to_pkT rfl rfl rfl ?_
    refine to_mv rfl rfl ?_
    refine to_gt rfl rfl ?_
    refine to_mv rfl rfl ?_
    refine to_gt rfl rfl ?_
    refine to_mv rfl rfl ?_
    refine to_gt rfl rfl ?_
    refine to_neq rfl rfl rfl ?_
    refine to_fix (s := 218) (b' := true) rfl (by simp; omega) ?_
    refine to_pkT rfl rfl rfl ?_
    refine to_mv rfl rfl ?_
    refine to_gt rfl rfl ?_
    refine to_call0 rfl rfl (fun w s => law_known w (gl_up hg (belowH_of s))) rfl ?_
    refine to_pkT rfl rfl rfl ?_
    refine to_as rfl rfl ?_
    refine to_nil ?_
    refine tn_code ?_
    refine t_ret1 rfl rfl (res_tmp rfl) (fun w' s => ?_)
    rfl

set_option maxRecDepth 20000 in
theorem w_RoundProved_sf1 (sh : Sh) (pt : Pt) (gd : Int) (t : List Int) (ta : Option Addr) (tc : Nat) (row : Int) (w : World) (hre : Ro w 0 w.heap.size pt.ea sh.errs.length pt.ec 1 (ints sh.errs)) (hrr : Ro w 0 w.heap.size pt.ra sh.rows.length pt.rc 1 (ints sh.rows)) (hrl : Ro w 0 w.heap.size ta t.length tc 1 (ints t)) (hs : isSh sh = true) (k : Nat) (e : Int) (hgk : gd = (k : Int)) (he : sh.errs[k]? = some e) (hsl7 : decide (t.length ≤ 7) = true) (htr : truK e sh.rows t = true) (i : Nat) (r : Int) (hri : row = (i : Int)) (hr : sh.rows[i]? = some r) (x : List Int) (hP : firF sh e [] = some x) (q : Nat) (hql : q < sh.rows.length) (hF : rFst sh e = ((q : Int), 0)) (hq0 : rDif (untS sh q) e ≠ (0, 0)) (hd : rDif (untS sh i) e ≠ (0, 0)) (hqi : q ≤ i) (hg : Gl w) : Calls Tryz.prog 12 #[shV sh pt, (.int .i64 gd), .slice ta t.length tc, (.int .i64 row)] w (RetV w (.bool true)) := by
  subst hgk
  have heb := errs_b (isSh_e hs) e (List.mem_of_getElem? he)
  have hbb := isSh_b hs
  have hxe := map_get (f := intC) he
  have hke := (List.getElem?_eq_some_iff.1 he).1
  have hok := okG_t hs he
  subst hri
  have hrt := row_ok hr
  have hrb := isSh_r hs (List.mem_of_getElem? hr)
  have hxr := map_get (f := intC) hr
  have hir := (List.getElem?_eq_some_iff.1 hr).1
  have htl := truK_len htr
  have hts := tru_small hs heb htr
  have h7 : t.length ≤ 7 := of_decide_eq_true hsl7
  have hss := sums_small hs h7 hts t.length
  rw [List.take_length] at hss
  have hfs := fig_b (sh := sh) (v := sumI t) (B := 700063) hs (by omega)
  have hPx := prf_some hP
  obtain ⟨hxt, hxf, hxb⟩ := fir_some heb.1 hP
  have hz : rDif sh e ≠ (0, 0) := fun hh => by rw [(fir_dif heb.1).2 hh] at hP; cases hP
  have hxl := truK_len hxt
  have hxs := tru_small hs heb hxt
  have hxss := sums_small hs (t := x) (by omega) hxs x.length
  rw [List.take_length] at hxss
  have hxfs := fig_b (sh := sh) (v := sumI x) (B := 700063) hs (by omega)
  have hxne : ¬ figO (fig sh) x = fig sh (sumI x) := fun hh => by simp [failT, hh] at hxf
  refine calls_T0 (av := [_, _, _, _]) Tryz.func12 rfl rfl rfl ?_
  refine t_seq ?_
  refine t_reg ?_
  refine to_box rfl rfl (fun b4 => ?_)
  refine to_as rfl rfl ?_
  refine to_nil ?_
  refine tn_code ?_
  refine t_seq ?_
  refine t_seq ?_
  refine t_reg ?_
  first | refine to_lda rfl rfl rfl ?_ | refine to_ldea rfl (by assumption) rfl rfl ?_
  refine to_mv rfl rfl ?_
  refine to_call0 rfl rfl (fun w s => law_right sh pt _ w (rdw s) (rdw s)) rfl ?_
  refine to_fix (s := 31) (b' := true) rfl (hok) ?_
  refine to_not rfl rfl ?_
  refine to_mv rfl rfl ?_
  refine to_gt rfl rfl ?_
  refine to_mv rfl rfl ?_
  refine to_gt rfl rfl ?_
  refine to_call0 rfl rfl (fun w s => law_slim t _ _ w) rfl ?_
  refine to_fix (s := 35) (b' := true) rfl (hsl7) ?_
  refine to_gt rfl rfl ?_
  refine to_not rfl rfl ?_
  refine to_pkF rfl rfl rfl ?_
  refine to_mv rfl rfl ?_
  refine to_gt rfl rfl ?_
  first | refine to_lda rfl rfl rfl ?_ | refine to_ldea rfl (by assumption) rfl rfl ?_
  refine to_gt rfl rfl ?_
  refine to_mv rfl rfl ?_
  refine to_gt rfl rfl ?_
  refine to_mv rfl rfl ?_
  refine to_gt rfl rfl ?_
  refine to_call0 rfl rfl (fun w s => ref_Truth sh pt k e t _ _ w (rdw s) (rdw s) hs he (rdw s)) rfl ?_
  refine to_fix (s := 42) (b' := true) rfl (htr) ?_
  refine to_gt rfl rfl ?_
  refine to_not rfl rfl ?_
  refine to_pkF rfl rfl rfl ?_
  refine to_mv rfl rfl ?_
  refine to_gt rfl rfl ?_
  first | refine to_lda rfl rfl rfl ?_ | refine to_ldea rfl (by assumption) rfl rfl ?_
  refine to_gt rfl rfl ?_
  refine to_mv rfl rfl ?_
  refine to_gt rfl rfl ?_
  refine to_call0 rfl rfl (fun w s => ref_Row sh pt _ w (by omega)) rfl ?_
  refine to_fix (s := 48) (b' := true) rfl (hrt) ?_
  refine to_gt rfl rfl ?_
  refine to_not rfl rfl ?_
  refine to_pkF rfl rfl rfl ?_
  refine to_nil ?_
  refine tn_code ?_
  refine t_ifF rfl ?_
  refine t_skip ?_
  refine tn_code ?_
  refine t_seq ?_
  refine t_reg ?_
  first | refine to_lda rfl rfl rfl ?_ | refine to_ldea rfl (by assumption) rfl rfl ?_
  refine to_mv rfl rfl ?_
  refine to_callR rfl rfl (fun w s => c_Proof (rdw s) (rdw s) hs he hPx) rfl (fun v55 lo55 w55 hlo55 hR55 => ?_)
  obtain ⟨pa55, pc55, rfl, hro55⟩ := hR55
  refine to_mv rfl rfl ?_
  refine to_ex rfl rfl rfl ?_
  refine to_ex rfl rfl rfl ?_
  refine to_as rfl rfl ?_
  refine to_as rfl rfl ?_
  refine to_nil ?_
  refine tn_code ?_
  refine t_seq ?_
  refine t_reg ?_
  first | refine to_lda rfl rfl rfl ?_ | refine to_ldea rfl (by assumption) rfl rfl ?_
  refine to_mv rfl rfl ?_
  refine to_call0 rfl rfl (fun w s => c_Differs (rdw s) (rdw s) hs he (rfl : rDif sh e = rDif sh e)) rfl ?_
  refine to_mv rfl rfl ?_
  refine to_ex rfl rfl rfl ?_
  refine to_ex rfl rfl rfl ?_
  refine to_alloc rfl (fun b11 => ?_)
  first | refine to_st rfl rfl rfl rfl ?_ | refine to_ste rfl rfl (by assumption) rfl rfl ?_
  refine to_as rfl rfl ?_
  refine to_nil ?_
  refine tn_code ?_
  refine t_seq ?_
  refine t_reg ?_
  first | refine to_lda rfl rfl rfl ?_ | refine to_ldea rfl (by assumption) rfl rfl ?_
  refine to_mv rfl rfl ?_
  refine to_call0 rfl rfl (fun w s => c_First (rdw s) (rdw s) hs he hF) rfl ?_
  refine to_mv rfl rfl ?_
  refine to_ex rfl rfl rfl ?_
  refine to_ex rfl rfl rfl ?_
  refine to_as rfl rfl ?_
  refine to_as rfl rfl ?_
  refine to_nil ?_
  refine tn_code ?_
  refine t_seq ?_
  refine t_reg ?_
  first | refine to_lda rfl rfl rfl ?_ | refine to_ldea rfl (by assumption) rfl rfl ?_
  refine to_mv rfl rfl ?_
  refine to_callR rfl rfl (fun w s => ref_Until sh pt i w (rdw s) (rdw s) hir (by omega)) rfl (fun v73 lo73 w73 hlo73 hR73 => ?_)
  obtain ⟨pa73, pc73, rfl, hro73⟩ := hR73
  refine to_mv rfl rfl ?_
  refine to_call0 rfl rfl (fun w s => c_DifU (rdw s) (rdw s) hs he hir (rfl : rDif (untS sh i) e = rDif (untS sh i) e)) rfl ?_
  refine to_mv rfl rfl ?_
  refine to_ex rfl rfl rfl ?_
  refine to_ex rfl rfl rfl ?_
  refine to_alloc rfl (fun b15 => ?_)
  first | refine to_st rfl rfl rfl rfl ?_ | refine to_ste rfl rfl (by assumption) rfl rfl ?_
  refine to_as rfl rfl ?_
  refine to_nil ?_
  refine tn_code ?_
  refine t_seq ?_
  refine t_reg ?_
  first | refine to_lda rfl rfl rfl ?_ | refine to_ldea rfl (by assumption) rfl rfl ?_
  refine to_mv rfl rfl ?_
  refine to_call0 rfl rfl (fun w s => law_added sh pt t _ _ w (rdw s) hs h7 hts) rfl ?_
  refine to_mv rfl rfl ?_
  refine to_ex rfl rfl rfl ?_
  refine to_ex rfl rfl rfl ?_
  refine to_ex rfl rfl rfl ?_
  refine to_fix (s := 84) (b' := true) rfl (rfl) ?_
  refine to_as rfl rfl ?_
  refine to_as rfl rfl ?_
  refine to_as rfl rfl ?_
  refine to_nil ?_
  refine tn_code ?_
  refine t_seq ?_
  refine t_seq ?_
  refine t_regD rfl (by kernel_rfl) (by kernel_rfl) ?_
  refine to_mv rfl rfl ?_
  refine to_neq rfl rfl rfl ?_
  refine to_fix (s := 86) (b' := false) rfl (rfl) ?_
  refine to_mv rfl rfl ?_
  refine to_gf rfl rfl rfl rfl ?_
  refine to_gf rfl rfl rfl rfl ?_
  refine to_pkF rfl rfl rfl ?_
  refine to_mv rfl rfl ?_
  refine to_gt rfl rfl ?_
  refine to_mv rfl rfl ?_
  refine to_gt rfl rfl ?_
  refine to_neq rfl rfl rfl ?_
  refine to_fix (s := 93) (b' := false) rfl (rfl) ?_
  refine to_pkF rfl rfl rfl ?_
  refine to_mv rfl rfl ?_
  refine to_gt rfl rfl ?_
  refine to_mv rfl rfl ?_
  refine to_gt rfl rfl ?_
  refine to_neq rfl rfl rfl ?_
  refine to_fix (s := 97) (b' := false) rfl (rfl) ?_
  refine to_gt rfl rfl ?_
  refine to_mv rfl rfl ?_
  refine to_gf rfl rfl rfl rfl ?_
  refine to_gf rfl rfl rfl rfl ?_
  refine to_gt rfl rfl ?_
  refine to_pkF rfl rfl rfl ?_
  refine to_pkF rfl rfl rfl ?_
  refine to_mv rfl rfl ?_
  refine to_gt rfl rfl ?_
  refine to_mv rfl rfl ?_
  refine to_gt rfl rfl ?_
  refine to_neq rfl rfl rfl ?_
  refine to_fix (s := 105) (b' := false) rfl (rfl) ?_
  refine to_pkF rfl rfl rfl ?_
  refine to_mv rfl rfl ?_
  refine to_gt rfl rfl ?_
  refine to_mv rfl rfl ?_
  refine to_gt rfl rfl ?_
  refine to_not rfl rfl ?_
  refine to_pkF rfl rfl rfl ?_
  refine to_mv rfl rfl ?_
  refine to_gt rfl rfl ?_
  refine to_mv rfl rfl ?_
  refine to_gt rfl rfl ?_
  refine to_eql rfl rfl rfl ?_
  refine to_fix (s := 113) (b' := false) rfl (rfl) ?_
  refine to_gt rfl rfl ?_
  first | refine to_lda rfl rfl rfl ?_ | refine to_ldea rfl (by assumption) rfl rfl ?_
  refine to_gt rfl rfl ?_
  refine to_call0 rfl rfl (fun w s => law_span _ _ w) rfl ?_
  refine to_gt rfl rfl ?_
  refine to_eqs rfl rfl rfl rfl rfl rfl rfl ?_
  refine to_fix (s := 116) (b' := false) rfl ((show ieq (spanC (rDif sh e)) (spanC (0, 0)) = false from span_ne hz)) ?_
  refine to_gt rfl rfl ?_
  refine to_bne rfl rfl (by kernel_rfl) rfl ?_
  refine to_fix (s := 117) (b' := false) rfl (rfl) ?_
  refine to_pkF rfl rfl rfl ?_
  refine to_mv rfl rfl ?_
  refine to_gt rfl rfl ?_
  refine to_mv rfl rfl ?_
  refine to_gt rfl rfl ?_
  refine to_eql rfl rfl rfl ?_
  refine to_fix (s := 121) (b' := true) rfl (rfl) ?_
  refine to_gt rfl rfl ?_
  refine to_mv rfl rfl ?_
  refine to_gt rfl rfl ?_
  refine to_mv rfl rfl ?_
  refine to_gt rfl rfl ?_
  refine to_neq rfl rfl rfl ?_
  refine to_fix (s := 124) (b' := false) rfl (rfl) ?_
  refine to_gt rfl rfl ?_
  refine to_pkT rfl rfl rfl ?_
  refine to_pkF rfl rfl rfl ?_
  refine to_nil ?_
  refine tn_code ?_
  refine t_ifF rfl ?_
  refine t_skip ?_
  refine tn_code ?_
  refine t_seq ?_
  refine t_seq ?_
  refine t_regD rfl (by kernel_rfl) (by kernel_rfl) ?_
  first | refine to_lda rfl rfl rfl ?_ | refine to_ldea rfl (by assumption) rfl rfl ?_
  refine to_call0 rfl rfl (fun w s => law_span _ _ w) rfl ?_
  refine to_nes rfl rfl rfl rfl rfl rfl rfl ?_
  refine to_fix (s := 129) (b' := true) rfl ((congrArg (!·) (show ieq (spanC (rDif (untS sh i) e)) (spanC (0, 0)) = false from span_ne hd))) ?_
  refine to_mv rfl rfl ?_
  refine to_gt rfl rfl ?_
  refine to_mv rfl rfl ?_
  refine to_gt rfl rfl ?_
  refine to_neq rfl rfl rfl ?_
  refine to_fix (s := 132) (b' := false) rfl (rfl) ?_
  refine to_gt rfl rfl ?_
  refine to_mv rfl rfl ?_
  refine to_gt rfl rfl ?_
  refine to_mv rfl rfl ?_
  refine to_gt rfl rfl ?_
  refine to_mv rfl rfl ?_
  refine to_gt rfl rfl ?_
  refine to_lss rfl rfl rfl ?_
  refine to_fix (s := 136) (b' := false) rfl (decide_eq_false (by omega)) ?_
  refine to_gt rfl rfl ?_
  refine to_pkF rfl rfl rfl ?_
  refine to_pkT rfl rfl rfl ?_
  refine to_nil ?_
  refine tn_code ?_
  refine t_ifF rfl ?_
  refine t_skip ?_
  refine tn_code ?_
  refine t_seq ?_
  refine t_seq ?_
  refine t_reg ?_
  refine to_mv rfl rfl ?_
  refine to_eql rfl rfl rfl ?_
  refine to_fix (s := 140) (b' := true) rfl (rfl) ?_
  refine to_nil ?_
  refine tn_code ?_
  refine t_ifT rfl ?_
  refine t_seq ?_
  refine t_seq ?_
  refine t_reg ?_
  first | refine to_lda rfl rfl rfl ?_ | refine to_ldea rfl (by assumption) rfl rfl ?_
  refine to_mv rfl rfl ?_
  refine to_call0 rfl rfl (fun w s => ref_Row sh pt _ w (by omega)) rfl ?_
  refine to_fix (s := 143) (b' := true) rfl (inB_iff.2 (by omega)) ?_
  refine to_not rfl rfl ?_
  refine to_nil ?_
  refine tn_code ?_
  refine t_ifF rfl ?_
  refine t_skip ?_
  refine tn_code ?_
  refine t_seq ?_
  refine t_reg ?_
  first | refine to_lda rfl rfl rfl ?_ | refine to_ldea rfl (by assumption) rfl rfl ?_
  refine to_mv rfl rfl ?_
  refine to_callR rfl rfl (fun w s => ref_Until sh pt q w (rdw s) (rdw s) hql (by omega)) rfl (fun v148 lo148 w148 hlo148 hR148 => ?_)
  obtain ⟨pa148, pc148, rfl, hro148⟩ := hR148
  refine to_mv rfl rfl ?_
  refine to_call0 rfl rfl (fun w s => c_DifU (rdw s) (rdw s) hs he hql (rfl : rDif (untS sh q) e = rDif (untS sh q) e)) rfl ?_
  refine to_mv rfl rfl ?_
  refine to_ex rfl rfl rfl ?_
  refine to_ex rfl rfl rfl ?_
  refine to_alloc rfl (fun b20 => ?_)
  first | refine to_st rfl rfl rfl rfl ?_ | refine to_ste rfl rfl (by assumption) rfl rfl ?_
  refine to_as rfl rfl ?_
  refine to_nil ?_
  refine tn_code ?_
  refine t_seq ?_
  refine t_regD rfl (by kernel_rfl) (by kernel_rfl) ?_
  refine to_mv rfl rfl ?_
  refine to_neq rfl rfl rfl ?_
  refine to_fix (s := 154) (b' := false) rfl (rfl) ?_
  refine to_mv rfl rfl ?_
  refine to_gt rfl rfl ?_
  first | refine to_lda rfl rfl rfl ?_ | refine to_ldea rfl (by assumption) rfl rfl ?_
  refine to_gt rfl rfl ?_
  refine to_call0 rfl rfl (fun w s => law_span _ _ w) rfl ?_
  refine to_gt rfl rfl ?_
  refine to_eqs rfl rfl rfl rfl rfl rfl rfl ?_
  refine to_fix (s := 158) (b' := false) rfl ((show ieq (spanC (rDif (untS sh q) e)) (spanC (0, 0)) = false from span_ne hq0)) ?_
  refine to_pkF rfl rfl rfl ?_
  refine to_nil ?_
  refine tn_code ?_
  refine t_ifF rfl ?_
  refine t_skip ?_
  refine tn_code ?_
  refine t_seq ?_
  refine t_reg ?_
  first | refine to_lda rfl rfl rfl ?_ | refine to_ldea rfl (by assumption) rfl rfl ?_
  refine to_mv rfl rfl ?_
  refine to_call0 rfl rfl (fun w s => law_to sh pt (sumI t) w hs (by omega)) rfl ?_
  refine to_mv rfl rfl ?_
  refine to_ex rfl rfl rfl ?_
  refine to_ex rfl rfl rfl ?_
  refine to_fix (s := 165) (b' := true) rfl (rfl) ?_
  refine to_as rfl rfl ?_
  refine to_as rfl rfl ?_
  refine to_nil ?_
  refine tn_code ?_
  refine t_seq ?_
  refine t_seq ?_
  refine t_reg ?_
  refine to_mv rfl rfl ?_
  refine to_not rfl rfl ?_
  refine to_mv rfl rfl ?_
  refine to_gt rfl rfl ?_
  refine to_mv rfl rfl ?_
  refine to_gt rfl rfl ?_
  refine to_mv rfl rfl ?_
  refine to_gt rfl rfl ?_
  refine to_neq rfl rfl rfl ?_
  refine to_gt rfl rfl ?_
  refine to_mv rfl rfl ?_
  refine to_gs rfl rfl rfl (fun h1 => ?_) (fun h1 => ?_)
  · try simp only [decide_eq_true_eq, decide_eq_false_iff_not, Bool.not_eq_true', Bool.not_eq_false', Int.not_lt, Int.not_le, ne_eq, Decidable.not_not] at h1
    try have h1b := inB_iff.1 h1
    refine to_gt rfl rfl ?_
    refine to_mv rfl rfl ?_
    refine to_gt rfl rfl ?_
    refine to_neq rfl rfl rfl ?_
    refine to_fix (s := 174) (b' := false) rfl (rfl) ?_
    refine to_gt rfl rfl ?_
    refine to_mv rfl rfl ?_
    refine to_gt rfl rfl ?_
    refine to_mv rfl rfl ?_
    refine to_gt rfl rfl ?_
    refine to_mv rfl rfl ?_
    refine to_gt rfl rfl ?_
    refine to_call0 rfl rfl (fun w s => ref_Before t x _ _ _ _ w (rdw s) (rdw s) (by omega) (by omega)) rfl ?_
    refine to_fix (s := 178) (b' := false) rfl (hxb t htr (fail_ne (by omega))) ?_
    refine to_gt rfl rfl ?_
    refine to_pkF rfl rfl rfl ?_
    refine to_gt rfl rfl ?_
    refine to_pkT rfl rfl rfl ?_
    refine to_pkF rfl rfl rfl ?_
    refine to_nil ?_
    refine tn_code ?_
    refine t_ifF rfl ?_
    refine t_skip ?_
    refine tn_code ?_
    refine t_seq ?_
    refine t_seq ?_
    refine t_reg ?_
    refine to_mv rfl rfl ?_
    refine to_neq rfl rfl rfl ?_
    refine to_fix (s := 183) (b' := false) rfl (rfl) ?_
    refine to_nil ?_
    refine tn_code ?_
    refine t_ifF rfl ?_
    refine t_skip ?_
    refine tn_code ?_
    refine t_seq ?_
    refine t_seq ?_
    refine t_reg ?_
    refine to_mv rfl rfl ?_
    refine to_lenS rfl rfl ?_
    first | refine to_fa rfl rfl rfl (by simp only [Nat.reduceAdd]; rfl) rfl ?_ | refine to_fae rfl rfl rfl (by simp only [Nat.reduceAdd]; rfl) rfl ?_
    first | refine to_lds rfl rfl rfl ?_ | refine to_ldes rfl (by assumption) rfl rfl ?_
    refine to_lenS rfl rfl ?_
    refine to_neq rfl rfl rfl ?_
    refine to_fix (s := 190) (b' := false) rfl (by simp; omega) ?_
    refine to_mv rfl rfl ?_
    refine to_gt rfl rfl ?_
    first | refine to_lda rfl rfl rfl ?_ | refine to_ldea rfl (by assumption) rfl rfl ?_
    refine to_gt rfl rfl ?_
    refine to_mv rfl rfl ?_
    refine to_gt rfl rfl ?_
    refine to_mv rfl rfl ?_
    refine to_gt rfl rfl ?_
    refine to_call0 rfl rfl (fun w s => ref_Truth sh pt k e x _ _ w (rdw s) (rdw s) hs he (rdw s)) rfl ?_
    refine to_fix (s := 195) (b' := true) rfl (hxt) ?_
    refine to_gt rfl rfl ?_
    refine to_not rfl rfl ?_
    refine to_pkF rfl rfl rfl ?_
    refine to_nil ?_
    refine tn_code ?_
    refine t_ifF rfl ?_
    refine t_skip ?_
    refine tn_code ?_
    refine t_seq ?_
    refine t_reg ?_
    first | refine to_lda rfl rfl rfl ?_ | refine to_ldea rfl (by assumption) rfl rfl ?_
    refine to_mv rfl rfl ?_
    refine to_call0 rfl rfl (fun w s => law_added sh pt x _ _ w (rdw s) hs (by omega) hxs) rfl ?_
    refine to_mv rfl rfl ?_
    refine to_ex rfl rfl rfl ?_
    refine to_ex rfl rfl rfl ?_
    refine to_ex rfl rfl rfl ?_
    refine to_fix (s := 204) (b' := true) rfl (rfl) ?_
    refine to_as rfl rfl ?_
    refine to_as rfl rfl ?_
    refine to_as rfl rfl ?_
    refine to_nil ?_
    refine tn_code ?_
    refine t_seq ?_
    refine t_reg ?_
    first | refine to_lda rfl rfl rfl ?_ | refine to_ldea rfl (by assumption) rfl rfl ?_
    refine to_mv rfl rfl ?_
    refine to_call0 rfl rfl (fun w s => law_to sh pt (sumI x) w hs (by omega)) rfl ?_
    refine to_mv rfl rfl ?_
    refine to_ex rfl rfl rfl ?_
    refine to_ex rfl rfl rfl ?_
    refine to_fix (s := 210) (b' := true) rfl (rfl) ?_
    refine to_as rfl rfl ?_
    refine to_as rfl rfl ?_
    refine to_nil ?_
    refine tn_code ?_
    refine t_seq ?_
    refine t_reg ?_
    refine to_mv rfl rfl ?_
    refine to_mv rfl rfl ?_
    refine to_gt rfl rfl ?_
    refine to_mv rfl rfl ?_
    refine to_pkT rfl rfl rfl ?_
    refine to_mv rfl rfl ?_
    refine to_gt rfl rfl ?_
    refine to_mv rfl rfl ?_
    refine to_gt rfl rfl ?_
    refine to_mv rfl rfl ?_
    refine to_gt rfl rfl ?_
    refine to_neq rfl rfl rfl ?_
    refine to_fix (s := 218) (b' := true) rfl (by simp; omega) ?_
    refine to_pkT rfl rfl rfl ?_
    refine to_mv rfl rfl ?_
    refine to_gt rfl rfl ?_
    refine to_call0 rfl rfl (fun w s => law_known w (gl_up hg (belowH_of s))) rfl ?_
    refine to_pkT rfl rfl rfl ?_
    refine to_as rfl rfl ?_
    refine to_nil ?_
    refine tn_code ?_
    refine t_ret1 rfl rfl (res_tmp rfl) (fun w' s => ?_)
    rfl
  · try simp only [decide_eq_true_eq, decide_eq_false_iff_not, Bool.not_eq_true', Bool.not_eq_false', Int.not_lt, Int.not_le, ne_eq, Decidable.not_not] at h1
    try have h1b := inB_iff.1 h1
    refine to_gf rfl rfl rfl rfl ?_
    refine to_gf rfl rfl rfl rfl ?_
    refine to_gf rfl rfl rfl rfl ?_
    refine to_gf rfl rfl rfl rfl ?_
    refine to_gf rfl rfl rfl rfl ?_
    refine to_gf rfl rfl rfl rfl ?_
    refine to_gf rfl rfl rfl rfl ?_
    refine to_gt rfl rfl ?_
    refine to_pkF rfl rfl rfl ?_
    refine to_pkF rfl rfl rfl ?_
    refine to_nil ?_
    refine tn_code ?_
    refine t_ifF rfl ?_
    refine t_skip ?_
    refine tn_code ?_
    refine t_seq ?_
    refine t_seq ?_
    refine t_reg ?_
    refine to_mv rfl rfl ?_
    refine to_neq rfl rfl rfl ?_
    refine to_fix (s := 183) (b' := false) rfl (rfl) ?_
    refine to_nil ?_
    refine tn_code ?_
    refine t_ifF rfl ?_
    refine t_skip ?_
    refine tn_code ?_
    refine t_seq ?_
    refine t_seq ?_
    refine t_reg ?_
    refine to_mv rfl rfl ?_
    refine to_lenS rfl rfl ?_
    first | refine to_fa rfl rfl rfl (by simp only [Nat.reduceAdd]; rfl) rfl ?_ | refine to_fae rfl rfl rfl (by simp only [Nat.reduceAdd]; rfl) rfl ?_
    first | refine to_lds rfl rfl rfl ?_ | refine to_ldes rfl (by assumption) rfl rfl ?_
    refine to_lenS rfl rfl ?_
    refine to_neq rfl rfl rfl ?_
    refine to_fix (s := 190) (b' := false) rfl (by simp; omega) ?_
    refine to_mv rfl rfl ?_
    refine to_gt rfl rfl ?_
    first | refine to_lda rfl rfl rfl ?_ | refine to_ldea rfl (by assumption) rfl rfl ?_
    refine to_gt rfl rfl ?_
    refine to_mv rfl rfl ?_
    refine to_gt rfl rfl ?_
    refine to_mv rfl rfl ?_
    refine to_gt rfl rfl ?_
    refine to_call0 rfl rfl (fun w s => ref_Truth sh pt k e x _ _ w (rdw s) (rdw s) hs he (rdw s)) rfl ?_
    refine to_fix (s := 195) (b' := true) rfl (hxt) ?_
    refine to_gt rfl rfl ?_
    refine to_not rfl rfl ?_
    refine to_pkF rfl rfl rfl ?_
    refine to_nil ?_
    refine tn_code ?_
    refine t_ifF rfl ?_
    refine t_skip ?_
    refine tn_code ?_
    refine t_seq ?_
    refine t_reg ?_
    first | refine to_lda rfl rfl rfl ?_ | refine to_ldea rfl (by assumption) rfl rfl ?_
    refine to_mv rfl rfl ?_
    refine to_call0 rfl rfl (fun w s => law_added sh pt x _ _ w (rdw s) hs (by omega) hxs) rfl ?_
    refine to_mv rfl rfl ?_
    refine to_ex rfl rfl rfl ?_
    refine to_ex rfl rfl rfl ?_
    refine to_ex rfl rfl rfl ?_
    refine to_fix (s := 204) (b' := true) rfl (rfl) ?_
    refine to_as rfl rfl ?_
    refine to_as rfl rfl ?_
    refine to_as rfl rfl ?_
    refine to_nil ?_
    refine tn_code ?_
    refine t_seq ?_
    refine t_reg ?_
    first | refine to_lda rfl rfl rfl ?_ | refine to_ldea rfl (by assumption) rfl rfl ?_
    refine to_mv rfl rfl ?_
    refine to_call0 rfl rfl (fun w s => law_to sh pt (sumI x) w hs (by omega)) rfl ?_
    refine to_mv rfl rfl ?_
    refine to_ex rfl rfl rfl ?_
    refine to_ex rfl rfl rfl ?_
    refine to_fix (s := 210) (b' := true) rfl (rfl) ?_
    refine to_as rfl rfl ?_
    refine to_as rfl rfl ?_
    refine to_nil ?_
    refine tn_code ?_
    refine t_seq ?_
    refine t_reg ?_
    refine to_mv rfl rfl ?_
    refine to_mv rfl rfl ?_
    refine to_gt rfl rfl ?_
    refine to_mv rfl rfl ?_
    refine to_pkT rfl rfl rfl ?_
    refine to_mv rfl rfl ?_
    refine to_gt rfl rfl ?_
    refine to_mv rfl rfl ?_
    refine to_gt rfl rfl ?_
    refine to_mv rfl rfl ?_
    refine to_gt rfl rfl ?_
    refine to_neq rfl rfl rfl ?_
    refine to_fix (s := 218) (b' := true) rfl (by simp; omega) ?_
    refine to_pkT rfl rfl rfl ?_
    refine to_mv rfl rfl ?_
    refine to_gt rfl rfl ?_
    refine to_call0 rfl rfl (fun w s => law_known w (gl_up hg (belowH_of s))) rfl ?_
    refine to_pkT rfl rfl rfl ?_
    refine to_as rfl rfl ?_
    refine to_nil ?_
    refine tn_code ?_
    refine t_ret1 rfl rfl (res_tmp rfl) (fun w' s => ?_)
    rfl

theorem w_RoundProved (sh : Sh) (pt : Pt) (gd : Int) (t : List Int) (ta : Option Addr) (tc : Nat) (row : Int) (w : World) (hre : Ro w 0 w.heap.size pt.ea sh.errs.length pt.ec 1 (ints sh.errs)) (hrr : Ro w 0 w.heap.size pt.ra sh.rows.length pt.rc 1 (ints sh.rows)) (hrl : Ro w 0 w.heap.size ta t.length tc 1 (ints t)) (hg : Gl w) : Calls Tryz.prog 12 #[shV sh pt, .int .i64 gd, .slice ta t.length tc, .int .i64 row] w (RetV w (.bool true)) := by
  rcases bool_tf (okG sh gd) with ho | ho
  · obtain ⟨hs, k, e, hk, he⟩ := okG_b ho
    rcases bool_tf (decide (t.length ≤ 7)) with h7 | h7
    · rcases bool_tf (truK e sh.rows t) with htr | htr
      · rcases bool_tf (inB row 0 (sh.rows.length - 1)) with hrn | hrn
        · obtain ⟨i, r, hi, hr⟩ := row_ex hrn
          have hir := (List.getElem?_eq_some_iff.1 hr).1
          have hbb := isSh_b hs
          have heb := errs_b (isSh_e hs) e (List.mem_of_getElem? he)
          rcases rFst_cases sh e with ⟨q, hql, hF, hq0, hmin⟩ | ⟨hF, hall⟩
          · have hqi : rDif (untS sh i) e ≠ (0, 0) → q ≤ i := fun hd => by
              by_cases hc : i < q
              · exact absurd (hmin i hc) hd
              · omega
            cases hP : firF sh e [] with
            | none =>
              by_cases hd : rDif (untS sh i) e = (0, 0)
              · exact w_RoundProved_nf0 sh pt gd t ta tc row w hre hrr hrl hs k e hk he h7 htr i r hi hr hP q hql hF hq0 hd hg
              · exact w_RoundProved_nf1 sh pt gd t ta tc row w hre hrr hrl hs k e hk he h7 htr i r hi hr hP q hql hF hq0 hd (hqi hd) hg
            | some x =>
              by_cases hd : rDif (untS sh i) e = (0, 0)
              · exact w_RoundProved_sf0 sh pt gd t ta tc row w hre hrr hrl hs k e hk he h7 htr i r hi hr x hP q hql hF hq0 hd hg
              · exact w_RoundProved_sf1 sh pt gd t ta tc row w hre hrr hrl hs k e hk he h7 htr i r hi hr x hP q hql hF hq0 hd (hqi hd) hg
          · have hlast := hall (sh.rows.length - 1) (by omega)
            rw [unt_last (by omega)] at hlast
            exact w_RoundProved_nn sh pt gd t ta tc row w hre hrr hrl hs k e hk he h7 htr i r hi hr ((fir_dif heb.1).2 hlast) hF (hall i hir) hg
        · exact w_RoundProved_rN sh pt gd t ta tc row w hre hrr hrl hs k e hk he h7 htr hrn hg
      · exact w_RoundProved_tr sh pt gd t ta tc row w hre hrr hrl hs k e hk he h7 htr hg
    · exact w_RoundProved_sl sh pt gd t ta tc row w hre hrr hrl hs k e hk he h7 hg
  · exact w_RoundProved_no sh pt gd t ta tc row w hre hrr hrl ho hg

end Go.Proofs


namespace Go.Proofs.YtebellbkmioadaaGreatDoor
open Go Go.Sx Go.RowKit Go.WideShapes Go.ChangeShapes

section
variable {H : Type} {enc : TypeId × Value → H}
set_option maxRecDepth 100000 in
theorem roundProved_law (W : World) (base : Nat) (args : Array Value) (ds : List (DataW H)) (p : List MemPlace) (hval : ∀ (j : Nat) t v, Tryz.f12.params[j]? = some t → args[j]? = some v → Value.okWide Tryz.prog W .any base t v)
    (hA : DataW.TrodAll enc Tryz.prog W 0 (fun _ => true) true Tryz.f12.params.toList args.toList ds p) (hg : Gl W) : Calls Tryz.prog 12 args W (RetV W (.bool true)) := by
  obtain ⟨l⟩ := args
  rw [Tryz.params12] at hA hval
  obtain ⟨v0, l0, d0, e0, p0, q0, hl0, rfl, h0, hA0⟩ := trodAll_cons hA
  have hl0' : l = v0 :: l0 := hl0
  subst hl0'
  obtain ⟨v1, l1, d1, e1, p1, q1, hl1, rfl, h1, hA1⟩ := trodAll_cons hA0
  subst hl1
  obtain ⟨v2, l2, d2, e2, p2, q2, hl2, rfl, h2, hA2⟩ := trodAll_cons hA1
  subst hl2
  obtain ⟨v3, l3, d3, e3, p3, q3, hl3, rfl, h3, hA3⟩ := trodAll_cons hA2
  subst hl3
  obtain rfl := trodAll_nil hA3
  obtain ⟨sh0, pt0, rfl, hre0, hrr0⟩ := open_sh (hval 0 33 v0 rfl rfl) h0
  obtain ⟨n1, rfl, _⟩ := open_i u3 (hval 1 3 v1 rfl rfl) h1
  obtain ⟨t2, a2, c2, rfl, hr2⟩ := open_ints36 (hval 2 30 v2 rfl rfl) h2
  obtain ⟨n3, rfl, _⟩ := open_i u3 (hval 3 3 v3 rfl rfl) h3
  exact w_RoundProved sh0 pt0 n1 t2 a2 c2 n3 W hre0 hrr0 hr2 hg
end

set_option maxRecDepth 100000 in
theorem roundProved_lifted (os : Os) (started : os.Started) (H : Type) (enc : TypeId × Value → H) :
    ReturnsInHanded {} Tryz.checked os 12 .any (fun w args => (Rows.roundProvedSpec.pre enc Tryz.prog Tryz.f12 [] false w args ∧ laidMetH Tryz.prog laidL w) ∧ sizedMet enc Tryz.prog Tryz.f12 (OpenSpec.ofChange Rows.roundProvedSpec) false w args)
      (Rows.roundProvedSpec.post enc Tryz.prog Tryz.f12 false true false false) :=
  law_lifted started (by kernel_rfl) Tryz.func12 rfl rfl (by kernel_rfl) (fun ds h => by
      match ds, h with
      | [_, _, _, _], _ => rfl)
    (ChangeSpec.witness_shaped (enc := enc) (C := Tryz.checked) (os := os) (X := fun w _ => laidMetH Tryz.prog laidL w) false (World.laidAll Tryz.prog os laidL) #[.agg #[.int .i64 0, .int .i64 0, .slice none 0 0, .slice none 0 0], .int .i64 0, .slice none 0 0, .int .i64 0] 8 (World.laidAll_os _ _ _)
      (World.shaped_of_ZipB (by kernel_rfl) (by kernel_rfl)) (by kernel_rfl) (by kernel_rfl) (by kernel_rfl)
      (by rw [MakeChecks.laidMetH_plain _ _ _ (by kernel_rfl)]; exact laidMet_laidAll _ (by kernel_rfl) (by kernel_rfl)))
    (fun W base args ds p hval hA hg => roundProved_law W base args ds p hval hA hg)

theorem roundProved_holds : Rows.RoundProvedSaid :=
  OpenClaim.holds_of_wide 12 Tryz.f12 rfl rfl rfl rfl rfl rfl rfl ⟨rfl, rfl, rfl, rfl, rfl⟩ rfl rfl rfl rfl rfl (by kernel_rfl) Tryz.func12 (by kernel_rfl)
    (of_decide_eq_true (by kernel_rfl)) (by unfold Func.isWrapper; first | (rw [if_pos (by decide +kernel)]; kernel_rfl) | (rw [if_neg (by decide +kernel)]; exact ⟨rfl, rfl⟩))
    (fun os started H enc _ => roundProved_lifted os started H enc)

theorem roundProved_card : Rows.RoundProvedCardSaid :=
  Claim7.holds_tied_plain_at .later [] [.data, .data, .data, .data, .pinned] true (true, "96da020e9171284ac76ac3c82595ce7ceccbab9aed8a1f73712d8b3a4229c7e5") true
    roundProved_holds (fun _ h => by cases h) (by kernel_rfl) (fun _ h => by cases h) roundProved_row_tie rfl ⟨rfl, rfl⟩ (by kernel_rfl) rfl
    (fun f fn hf hfn => by
      obtain rfl : f = 12 := Option.some.inj ((show Tryz.prog.funcNamed "ephemerist/ephemeristlaw04.RoundProved" = some 12 by kernel_rfl).symm.trans hf) |>.symm
      obtain rfl : fn = Tryz.f12 := (Option.some.inj (Tryz.func12.symm.trans hfn)).symm
      exact ⟨by kernel_rfl, fun j t ht => by
        rw [Tryz.params12] at ht
        have hm : t ∈ [33, 3, 30, 3] := by simpa using Array.mem_of_getElem? ht
        have hall : ([33, 3, 30, 3].all fun u => !Tryz.prog.wantsStandIn u) = true := by kernel_rfl
        exact (show Tryz.prog.wantsStandIn t = false by simpa using List.all_eq_true.1 hall t hm)⟩)
    (by kernel_rfl)
end Go.Proofs.YtebellbkmioadaaGreatDoor

