/- RoundTrue: for every input the law returns true, and each argument reads behind the call as it read before. Conditions: the package-level variables that the row lists hold what the program's text lays (tied by the card). -/
import Derived.Test.YtebellbkmioadaaGreatDoorOwnC
import Derived.Test.YtebellbkmioadaaGreatDoorOwnE
import Derived.Test.YtebellbkmioadaaGreatDoorOwnF
import Derived.LaidOnce
import Derived.SevenTiedAt
import Derived.Test.YtebellbkmioadaaGreatDoorTie
import Derived.Test.YtebellbkmioadaaGreatDoorCards
set_option linter.unusedVariables false
set_option linter.unusedSimpArgs false
namespace Go.Proofs
open Go Go.Sx

/-! # Plain laws of round: rounding -/

/-! ## Numbers behind a figure -/

theorem fig_mono {sh : Sh} {v w : Int} (hs : isSh sh = true) (h : v ≤ w) : fig sh v ≤ fig sh w := toF_mono (isSh_b hs).1.1 h
/-! ## Lists that lie on a map from one place on -/

end Go.Proofs


namespace Go.Proofs
open Go Go.Sx

/-! # Plain laws of round: what is sure -/

theorem sureK_mem {sh : Sh} {e : Int} {i : Int} : ∀ k, i ∈ sureK sh e k ↔ ∃ (j : Nat) (r : Int), j < k ∧ i = j ∧ sh.rows[j]? = some r ∧ fig sh (r - e) = fig sh (r + e)
  | 0 => by simp [sureK]
  | k + 1 => by
    have ih := sureK_mem (sh := sh) (e := e) (i := i) k
    have key : (∃ (j : Nat) (r : Int), j < k + 1 ∧ i = j ∧ sh.rows[j]? = some r ∧ fig sh (r - e) = fig sh (r + e)) ↔ i ∈ sureK sh e k ∨ (i = k ∧ ∃ r, sh.rows[k]? = some r ∧ fig sh (r - e) = fig sh (r + e)) := by
      rw [ih]
      constructor
      · rintro ⟨j, r, h1, h2, h3, h4⟩
        by_cases hj : j = k
        · subst hj; exact .inr ⟨h2, r, h3, h4⟩
        · exact .inl ⟨j, r, by omega, h2, h3, h4⟩
      · rintro (⟨j, r, h1, h2, h3, h4⟩ | ⟨h1, r, h2, h3⟩)
        · exact ⟨j, r, by omega, h2, h3, h4⟩
        · exact ⟨k, r, by omega, h1, h2, h3⟩
    rw [key]
    simp only [sureK]
    cases hr : sh.rows[k]? with
    | none => simp
    | some r =>
      simp only
      by_cases h : fig sh (r - e) = fig sh (r + e)
      · rw [if_pos h]; simp [h]
      · rw [if_neg h]; simp [h]
theorem sure_has {sh : Sh} {e r : Int} {k : Nat} (hr : sh.rows[k]? = some r) : (sureL sh e).contains (k : Int) = decide (fig sh (r - e) = fig sh (r + e)) := by
  have hk := (List.getElem?_eq_some_iff.1 hr).1
  have h1 : ((k : Int) ∈ sureL sh e) ↔ fig sh (r - e) = fig sh (r + e) := by
    rw [sureL, sureK_mem]
    constructor
    · rintro ⟨j, r', _, h2, h3, h4⟩
      have : j = k := by omega
      subst this; rw [hr] at h3; cases h3; exact h4
    · exact fun h => ⟨k, r, hk, rfl, hr, h⟩
  rw [List.contains_eq_mem]
  exact decide_eq_decide.2 h1
/-! ## More guard figures -/

/-! ## Totals of truths -/

/-! ## The other sign -/

end Go.Proofs


namespace Go.Proofs
open Go Go.Sx Go.RowKit

end Go.Proofs


namespace Go.Proofs
open Go Go.Sx Go.RowKit

theorem c_To_t {v u r : Int} (h : fineV v u r = true) (w : World) : Calls Tryz.prog 15 #[.int .i64 v, .int .i64 u, .int .i64 r] w (RetV w (.tuple #[.int .i64 (toF u r v), .int .i64 0])) := by
  have := r_To v u r w
  rw [show rTo v u r = (toF u r v, 0) by simp [rTo, h]] at this
  exact this
end Go.Proofs


namespace Go.Proofs
open Go Go.Sx Go.RowKit

theorem ref_arg {sh : Sh} (hs : isSh sh = true) : (1 ≤ sh.unit ∧ sh.unit ≤ 1048576) ∧ (1 ≤ sh.rule ∧ sh.rule ≤ 4) := by
  have := isSh_b hs
  omega
theorem bnd_len (sh : Sh) (e : Int) : (bndL sh e).length = sh.rows.length := by simp [bndL]
theorem fig_len (sh : Sh) (e : Int) : (figL sh e).length = sh.rows.length := by simp [figL]
theorem bnd_get {sh : Sh} {e r : Int} {i : Nat} (hr : sh.rows[i]? = some r) : (spans (bndL sh e))[i]? = some (spanC (r - e, r + e)) := by
  have : (bndL sh e)[i]? = some (r - e, r + e) := by simp [bndL, hr]
  exact map_get (f := spanC) this
theorem figL_get {sh : Sh} {e r : Int} {i : Nat} (hr : sh.rows[i]? = some r) : (spans (figL sh e))[i]? = some (spanC (fig sh (r - e), fig sh (r + e))) := by
  have : (figL sh e)[i]? = some (fig sh (r - e), fig sh (r + e)) := by simp [figL, hr]
  exact map_get (f := spanC) this
end Go.Proofs


namespace Go.Proofs
open Go Go.Sx Go.RowKit

set_option maxRecDepth 20000 in
theorem law_right (sh : Sh) (pt : Pt) (gd : Int) (w : World) (hre : Ro w 0 w.heap.size pt.ea sh.errs.length pt.ec 1 (ints sh.errs)) (hrr : Ro w 0 w.heap.size pt.ra sh.rows.length pt.rc 1 (ints sh.rows)) : Calls Tryz.prog 29 #[shV sh pt, (.int .i64 gd)] w (RetV w (.bool (okG sh gd))) := by
  have hok : okG sh gd = (isSh sh && inB gd 0 (sh.errs.length - 1)) := rfl
  refine calls_T0 (av := [_, _]) Tryz.func29 rfl rfl rfl ?_
  refine t_seq ?_
  refine t_reg ?_
  refine to_box rfl rfl (fun b2 => ?_)
  refine to_as rfl rfl ?_
  refine to_nil ?_
  refine tn_code ?_
  refine t_seq ?_
  refine t_reg ?_
  first | refine to_lda rfl rfl rfl ?_ | refine to_ldea rfl (by assumption) rfl rfl ?_
  refine to_call0 rfl rfl (fun w s => law_short _ _ w) rfl ?_
  refine to_mv rfl rfl ?_
  refine to_gs rfl rfl rfl (fun h1 => ?_) (fun h1 => ?_)
  · try simp only [decide_eq_true_eq, decide_eq_false_iff_not, Bool.not_eq_true', Bool.not_eq_false', Int.not_lt, Int.not_le, ne_eq, Decidable.not_not] at h1
    try have h1b := inB_iff.1 h1
    refine to_gt rfl rfl ?_
    first | refine to_lda rfl rfl rfl ?_ | refine to_ldea rfl (by assumption) rfl rfl ?_
    refine to_gt rfl rfl ?_
    refine to_call0 rfl rfl (fun w s => ref_Sheet sh pt w (rdw s) (rdw s)) rfl ?_
    refine to_pkT rfl rfl rfl ?_
    refine to_mv rfl rfl ?_
    refine to_gs rfl rfl rfl (fun h2 => ?_) (fun h2 => ?_)
    · try simp only [decide_eq_true_eq, decide_eq_false_iff_not, Bool.not_eq_true', Bool.not_eq_false', Int.not_lt, Int.not_le, ne_eq, Decidable.not_not] at h2
      try have h2b := inB_iff.1 h2
      have hsh : isSh sh = true := h2
      refine to_gt rfl rfl ?_
      first | refine to_lda rfl rfl rfl ?_ | refine to_ldea rfl (by assumption) rfl rfl ?_
      refine to_gt rfl rfl ?_
      refine to_mv rfl rfl ?_
      refine to_gt rfl rfl ?_
      refine to_call0 rfl rfl (fun w s => ref_Guard sh pt _ w (by have h9 := isSh_b hsh; omega)) rfl ?_
      refine to_pkT rfl rfl rfl ?_
      refine to_as rfl rfl ?_
      refine to_nil ?_
      refine tn_code ?_
      refine t_ret1 rfl rfl (res_tmp rfl) (fun w' s => ?_)
      first | (rw [hok]; simp_all; done) | (rw [hok]; simp [*]; done)
    · try simp only [decide_eq_true_eq, decide_eq_false_iff_not, Bool.not_eq_true', Bool.not_eq_false', Int.not_lt, Int.not_le, ne_eq, Decidable.not_not] at h2
      try have h2b := inB_iff.1 h2
      refine to_gf rfl rfl rfl rfl ?_
      refine to_gf rfl rfl rfl rfl ?_
      refine to_gf rfl rfl rfl rfl ?_
      refine to_pkF rfl rfl rfl ?_
      refine to_as rfl rfl ?_
      refine to_nil ?_
      refine tn_code ?_
      refine t_ret1 rfl rfl (res_tmp rfl) (fun w' s => ?_)
      first | (rw [hok]; simp_all; done) | (rw [hok]; simp [*]; done)
  · try simp only [decide_eq_true_eq, decide_eq_false_iff_not, Bool.not_eq_true', Bool.not_eq_false', Int.not_lt, Int.not_le, ne_eq, Decidable.not_not] at h1
    try have h1b := inB_iff.1 h1
    have hnot : isSh sh = false := (by rw [Bool.eq_false_iff]; intro hh; have h9 := isSh_b hh; simp at h1; omega)
    refine to_gf rfl rfl rfl rfl ?_
    refine to_gf rfl rfl rfl rfl ?_
    refine to_pkF rfl rfl rfl ?_
    refine to_mv rfl rfl ?_
    refine to_gf rfl rfl rfl rfl ?_
    refine to_gf rfl rfl rfl rfl ?_
    refine to_gf rfl rfl rfl rfl ?_
    refine to_pkF rfl rfl rfl ?_
    refine to_as rfl rfl ?_
    refine to_nil ?_
    refine tn_code ?_
    refine t_ret1 rfl rfl (res_tmp rfl) (fun w' s => ?_)
    first | (rw [hok]; simp_all; done) | (rw [hok]; simp [*]; done)

set_option maxRecDepth 20000 in
theorem law_to (sh : Sh) (pt : Pt) (v : Int) (w : World) (hs : isSh sh = true) (hv : -1099511627776 ≤ v ∧ v ≤ 1099511627776) : Calls Tryz.prog 34 #[shV sh pt, (.int .i64 v)] w (RetV w (.tuple #[.int .i64 (fig sh v), .bool true])) := by
  refine calls_T0 (av := [_, _]) Tryz.func34 rfl rfl rfl ?_
  refine t_seq ?_
  refine t_reg ?_
  refine to_box rfl rfl (fun b2 => ?_)
  refine to_as rfl rfl ?_
  refine to_as rfl rfl ?_
  refine to_nil ?_
  refine tn_code ?_
  refine t_seq ?_
  refine t_reg ?_
  refine to_mv rfl rfl ?_
  first | refine to_fa rfl rfl rfl (by simp only [Nat.reduceAdd]; rfl) rfl ?_ | refine to_fae rfl rfl rfl (by simp only [Nat.reduceAdd]; rfl) rfl ?_
  first | refine to_lds rfl rfl rfl ?_ | refine to_ldes rfl (by assumption) rfl rfl ?_
  first | refine to_fa rfl rfl rfl (by simp only [Nat.reduceAdd]; rfl) rfl ?_ | refine to_fae rfl rfl rfl (by simp only [Nat.reduceAdd]; rfl) rfl ?_
  first | refine to_lds rfl rfl rfl ?_ | refine to_ldes rfl (by assumption) rfl rfl ?_
  refine to_call0 rfl rfl (fun w s => c_To_t (by simp only [fineV, Bool.and_eq_true]; exact ⟨⟨inB_iff.2 hv, inB_iff.2 (ref_arg hs).1⟩, inB_iff.2 (ref_arg hs).2⟩) w) rfl ?_
  refine to_mv rfl rfl ?_
  refine to_ex rfl rfl rfl ?_
  refine to_ex rfl rfl rfl ?_
  refine to_as rfl rfl ?_
  refine to_as rfl rfl ?_
  refine to_nil ?_
  refine tn_code ?_
  refine t_seq ?_
  refine t_reg ?_
  refine to_mv rfl rfl ?_
  refine to_mv rfl rfl ?_
  refine to_eql rfl rfl rfl ?_
  refine to_as rfl rfl ?_
  refine to_as rfl rfl ?_
  refine to_nil ?_
  refine tn_code ?_
  refine t_ret2 rfl rfl (res_tmp rfl) (res_tmp rfl) (fun w' s => ?_)
  rfl

end Go.Proofs


namespace Go.Proofs
open Go Go.Sx Go.RowKit

theorem row_ok {sh : Sh} {k : Nat} {r : Int} (h : sh.rows[k]? = some r) : inB (k : Int) 0 (sh.rows.length - 1) = true := by
  have := (List.getElem?_eq_some_iff.1 h).1
  exact inB_iff.2 (by omega)
theorem row_ex {sh : Sh} {row : Int} (h : inB row 0 (sh.rows.length - 1) = true) : ∃ (k : Nat) (r : Int), row = (k : Int) ∧ sh.rows[k]? = some r := by
  have hb := inB_iff.1 h
  obtain ⟨k, rfl⟩ := Int.eq_ofNat_of_zero_le hb.1
  obtain ⟨e, he⟩ := some_get (xs := sh.rows) (k := k) (by omega)
  exact ⟨k, e, rfl, he⟩

end Go.Proofs


namespace Go.Proofs
open Go Go.Sx Go.RowKit

theorem tru_all {e : Int} {rs t : List Int} (hl : t.length = rs.length) (h : ∀ j, j < t.length → ∀ n r, t[j]? = some n → rs[j]? = some r → inB n (r - e) (r + e) = true) : truK e rs t = true :=
  truK_iff.2 ⟨hl, fun j r n hr hn => h j (List.getElem?_eq_some_iff.1 hn).1 n r hn hr⟩
theorem tru_len {e : Int} {rs t : List Int} (hl : ¬ t.length = rs.length) : truK e rs t = false := by
  rw [Bool.eq_false_iff]; exact fun h => hl (truK_len h)
theorem tru_at {e n r : Int} {rs t : List Int} {j : Nat} (hn : t[j]? = some n) (hr : rs[j]? = some r) (h : inB n (r - e) (r + e) = false) : truK e rs t = false := by
  rw [Bool.eq_false_iff]; intro hh
  have := (truK_iff.1 hh).2 j r n hr hn
  rw [h] at this; cases this
theorem tru_get {e : Int} {rs t : List Int} (h : truK e rs t = true) {j : Nat} {n r : Int} (hn : t[j]? = some n) (hr : rs[j]? = some r) : r - e ≤ n ∧ n ≤ r + e := inB_iff.1 ((truK_iff.1 h).2 j r n hr hn)

set_option maxRecDepth 20000 in
theorem ref_Truth (sh : Sh) (pt : Pt) (k : Nat) (e : Int) (t : List Int) (ta : Option Addr) (tc : Nat) (w : World) (hre : Ro w 0 w.heap.size pt.ea sh.errs.length pt.ec 1 (ints sh.errs)) (hrr : Ro w 0 w.heap.size pt.ra sh.rows.length pt.rc 1 (ints sh.rows)) (hs : isSh sh = true) (he : sh.errs[k]? = some e) (hrl : Ro w 0 w.heap.size ta t.length tc 1 (ints t)) : Calls Tryz.prog 31 #[shV sh pt, (.int .i64 (k : Int)), .slice ta t.length tc] w (RetV w (.bool (truK e sh.rows t))) := by
  have heb := errs_b (isSh_e hs) e (List.mem_of_getElem? he)
  have hbb := isSh_b hs
  have hxe := map_get (f := intC) he
  have hke := (List.getElem?_eq_some_iff.1 he).1
  refine calls_T0 (av := [_, _, _]) Tryz.func31 rfl rfl rfl ?_
  refine t_seq ?_
  refine t_reg ?_
  refine to_box rfl rfl (fun b3 => ?_)
  refine to_as rfl rfl ?_
  refine to_nil ?_
  refine tn_code ?_
  refine t_seq ?_
  refine t_seq ?_
  refine t_reg ?_
  refine to_mv rfl rfl ?_
  refine to_lenS rfl rfl ?_
  first | refine to_fa rfl rfl rfl (by simp only [Nat.reduceAdd]; rfl) rfl ?_ | refine to_fae rfl rfl rfl (by simp only [Nat.reduceAdd]; rfl) rfl ?_
  first | refine to_lds rfl rfl rfl ?_ | refine to_ldes rfl (by assumption) rfl rfl ?_
  refine to_lenS rfl rfl ?_
  refine to_neq rfl rfl rfl ?_
  refine to_nil ?_
  refine tn_code ?_
  refine t_if rfl (fun h1 => ?_) (fun h1 => ?_)
  · try simp only [decide_eq_true_eq, decide_eq_false_iff_not, Bool.not_eq_true', Bool.not_eq_false', Int.not_lt, Int.not_le, ne_eq, Decidable.not_not] at h1
    try have h1b := inB_iff.1 h1
    have hfin := tru_len (e := e) (rs := sh.rows) (t := t) (by omega)
    refine t_seq ?_
    refine t_reg ?_
    refine to_as rfl rfl ?_
    refine to_nil ?_
    refine tn_code ?_
    refine t_ret1 rfl rfl (res_tmp rfl) (fun w' s => ?_)
    rw [hfin]
  · try simp only [decide_eq_true_eq, decide_eq_false_iff_not, Bool.not_eq_true', Bool.not_eq_false', Int.not_lt, Int.not_le, ne_eq, Decidable.not_not] at h1
    try have h1b := inB_iff.1 h1
    refine t_skip ?_
    refine tn_code ?_
    refine t_seq ?_
    refine t_seq ?_
    refine t_reg ?_
    refine to_as rfl rfl ?_
    refine to_nil ?_
    refine tn_code ?_
    refine t_blk ?_
    refine t_loop2 (ι := Nat) (fun j => j ≤ t.length ∧ ∀ i, i < j → ∀ n r, t[i]? = some n → sh.rows[i]? = some r → inB n (r - e) (r + e) = true) (fun j => [(1, (.int .i64 (k : Int))), (2, .slice ta t.length tc), (3, (.pointer (some ⟨b3, 0, none⟩))), (7, (.int .i64 (j : Int)))]) (fun j => [.own b3 (isC (shC sh pt) 33), .snap 0 w.heap.size w]) (fun j => t.length - j) (0) [.own b3 (isC (shC sh pt) 33), .snap 0 w.heap.size w] (rfl) (⟨Nat.zero_le _, fun j hj => absurd hj (Nat.not_lt_zero _)⟩) (⟨rfl, rfl, rfl, rfl, trivial⟩) ?_
    rintro j ⟨hk, hall⟩
    show T _ _ _ ⟨_, [(1, (.int .i64 (k : Int))), (2, .slice ta t.length tc), (3, (.pointer (some ⟨b3, 0, none⟩))), (7, (.int .i64 (j : Int)))], _⟩ [.own b3 (isC (shC sh pt) 33), .snap 0 w.heap.size w]
    refine t_seq ?_
    refine t_seq ?_
    refine t_reg ?_
    refine to_mv rfl rfl ?_
    refine to_mv rfl rfl ?_
    refine to_lenS rfl rfl ?_
    refine to_lss rfl rfl rfl ?_
    refine to_nil ?_
    refine tn_code ?_
    refine t_if rfl (fun h2 => ?_) (fun h2 => ?_)
    · try simp only [decide_eq_true_eq, decide_eq_false_iff_not, Bool.not_eq_true', Bool.not_eq_false', Int.not_lt, Int.not_le, ne_eq, Decidable.not_not] at h2
      try have h2b := inB_iff.1 h2
      obtain ⟨n, hn⟩ := some_get (xs := t) (k := j) (by omega)
      obtain ⟨r, hr⟩ := some_get (xs := sh.rows) (k := j) (by omega)
      have hrb := isSh_r hs (List.mem_of_getElem? hr)
      have hxn := map_get (f := intC) hn
      have hxr := map_get (f := intC) hr
      refine t_skip ?_
      refine tn_code ?_
      refine t_seq ?_
      refine t_blk ?_
      refine t_seq ?_
      refine t_regD rfl (by kernel_rfl) (by kernel_rfl) ?_
      refine to_mv rfl rfl ?_
      refine to_mv rfl rfl ?_
      first | refine to_ix rfl rfl rfl (by first | omega | decide) (by first | omega | decide) rfl ?_ | refine to_ixi rfl rfl rfl (by omega) (by omega) (by omega) rfl ?_
      first | refine to_lds rfl rfl rfl ?_ | refine to_ldes rfl (by assumption) rfl rfl ?_
      first | refine to_fa rfl rfl rfl (by simp only [Nat.reduceAdd]; rfl) rfl ?_ | refine to_fae rfl rfl rfl (by simp only [Nat.reduceAdd]; rfl) rfl ?_
      first | refine to_lds rfl rfl rfl ?_ | refine to_ldes rfl (by assumption) rfl rfl ?_
      refine to_mv rfl rfl ?_
      first | refine to_ix rfl rfl rfl (by first | omega | decide) (by first | omega | decide) rfl ?_ | refine to_ixi rfl rfl rfl (by omega) (by omega) (by omega) rfl ?_
      first | refine to_lds rfl rfl rfl ?_ | refine to_ldes rfl (by assumption) rfl rfl ?_
      first | refine to_fa rfl rfl rfl (by simp only [Nat.reduceAdd]; rfl) rfl ?_ | refine to_fae rfl rfl rfl (by simp only [Nat.reduceAdd]; rfl) rfl ?_
      first | refine to_lds rfl rfl rfl ?_ | refine to_ldes rfl (by assumption) rfl rfl ?_
      refine to_mv rfl rfl ?_
      first | refine to_ix rfl rfl rfl (by first | omega | decide) (by first | omega | decide) rfl ?_ | refine to_ixi rfl rfl rfl (by omega) (by omega) (by omega) rfl ?_
      first | refine to_lds rfl rfl rfl ?_ | refine to_ldes rfl (by assumption) rfl rfl ?_
      refine to_sub rfl rfl (by omega) rfl ?_
      first | refine to_fa rfl rfl rfl (by simp only [Nat.reduceAdd]; rfl) rfl ?_ | refine to_fae rfl rfl rfl (by simp only [Nat.reduceAdd]; rfl) rfl ?_
      first | refine to_lds rfl rfl rfl ?_ | refine to_ldes rfl (by assumption) rfl rfl ?_
      refine to_mv rfl rfl ?_
      first | refine to_ix rfl rfl rfl (by first | omega | decide) (by first | omega | decide) rfl ?_ | refine to_ixi rfl rfl rfl (by omega) (by omega) (by omega) rfl ?_
      first | refine to_lds rfl rfl rfl ?_ | refine to_ldes rfl (by assumption) rfl rfl ?_
      first | refine to_fa rfl rfl rfl (by simp only [Nat.reduceAdd]; rfl) rfl ?_ | refine to_fae rfl rfl rfl (by simp only [Nat.reduceAdd]; rfl) rfl ?_
      first | refine to_lds rfl rfl rfl ?_ | refine to_ldes rfl (by assumption) rfl rfl ?_
      refine to_mv rfl rfl ?_
      first | refine to_ix rfl rfl rfl (by first | omega | decide) (by first | omega | decide) rfl ?_ | refine to_ixi rfl rfl rfl (by omega) (by omega) (by omega) rfl ?_
      first | refine to_lds rfl rfl rfl ?_ | refine to_ldes rfl (by assumption) rfl rfl ?_
      refine to_add rfl rfl (by omega) rfl ?_
      refine to_call0 rfl rfl (fun w s => ref_in _ _ _ w) rfl ?_
      refine to_not rfl rfl ?_
      refine to_nil ?_
      refine tn_code ?_
      refine t_if rfl (fun h3 => ?_) (fun h3 => ?_)
      · try simp only [decide_eq_true_eq, decide_eq_false_iff_not, Bool.not_eq_true', Bool.not_eq_false', Int.not_lt, Int.not_le, ne_eq, Decidable.not_not] at h3
        try have h3b := inB_iff.1 h3
        have hfin := tru_at (e := e) hn hr h3
        refine t_seq ?_
        refine t_reg ?_
        refine to_as rfl rfl ?_
        refine to_nil ?_
        refine tn_code ?_
        refine t_ret1 rfl rfl (res_tmp rfl) (fun w' s => ?_)
        rw [hfin]
      · try simp only [decide_eq_true_eq, decide_eq_false_iff_not, Bool.not_eq_true', Bool.not_eq_false', Int.not_lt, Int.not_le, ne_eq, Decidable.not_not] at h3
        try have h3b := inB_iff.1 h3
        refine t_skip ?_
        refine tn_blk ?_
        refine tn_code ?_
        refine t_reg ?_
        refine to_mv rfl rfl ?_
        refine to_add rfl rfl (by omega) rfl ?_
        refine to_as rfl rfl ?_
        refine to_nil ?_
        exact tn_loop2 (j + 1) [.own b3 (isC (shC sh pt) 33), .snap 0 w.heap.size w] (rfl) (⟨by omega, all_succ hall (fun a b h1 h2 => by rw [hn] at h1; rw [hr] at h2; cases h1; cases h2; assumption)⟩) (by omega) (⟨rfl, rfl, rfl, rfl, trivial⟩)
    · try simp only [decide_eq_true_eq, decide_eq_false_iff_not, Bool.not_eq_true', Bool.not_eq_false', Int.not_lt, Int.not_le, ne_eq, Decidable.not_not] at h2
      try have h2b := inB_iff.1 h2
      have hk2 : j = t.length := by omega
      subst hk2
      have hfin := tru_all (e := e) (rs := sh.rows) (by omega) hall
      refine t_exit ?_
      refine tx_code ?_
      refine tx_inv ?_
      refine tx_blk ?_
      refine tn_code ?_
      refine t_seq ?_
      refine t_reg ?_
      refine to_as rfl rfl ?_
      refine to_nil ?_
      refine tn_code ?_
      refine t_ret1 rfl rfl (res_tmp rfl) (fun w' s => ?_)
      rw [hfin]

end Go.Proofs


namespace Go.Proofs
open Go Go.Sx Go.RowKit

theorem ieq_refl : ∀ {vs : List Value}, isI vs → ieq vs vs = true
  | [], _ => rfl
  | v :: vs, h => by
    obtain ⟨i, rfl⟩ := h v (List.mem_cons_self ..)
    have ih := ieq_refl (vs := vs) (fun u hu => h u (List.mem_cons_of_mem _ hu))
    simp only [ieq, ih, Bool.and_true]; simp
theorem isI_span (s : Sp) : isI (spanC s) := allI_isI rfl
theorem c_Word {sh : Sh} {pt : Pt} {k i : Nat} {e r fg x : Int} {w : World} (hre : Ro w 0 w.heap.size pt.ea sh.errs.length pt.ec 1 (ints sh.errs)) (hrr : Ro w 0 w.heap.size pt.ra sh.rows.length pt.rc 1 (ints sh.rows)) (hs : isSh sh = true) (he : sh.errs[k]? = some e) (hr : sh.rows[i]? = some r) (h : wordF (fig sh (r - e), fig sh (r + e)) fg = x) : Calls Tryz.prog 21 #[shV sh pt, .int .i64 (k : Int), .int .i64 (i : Int), .int .i64 fg] w (RetV w (.tuple #[.int .i64 x, .int .i64 0])) := by
  have := r_Word_t sh pt k e i r fg w hre hrr hs he hr
  rw [h] at this; exact this
theorem word_1 {x : Sp} {fg : Int} (h : inB fg x.1 x.2 = false) : wordF x fg = 1 ∧ (fg < x.1 ∨ x.2 < fg) := by
  refine ⟨by simp [wordF, h], ?_⟩
  have : ¬ (inB fg x.1 x.2 = true) := by rw [h]; simp
  rw [inB_iff] at this; omega
theorem word_2 {x : Sp} {fg : Int} (h : inB fg x.1 x.2 = true) (hl : x.1 < x.2) : wordF x fg = 2 := by simp [wordF, h, hl]
theorem word_3 {x : Sp} {fg : Int} (h : inB fg x.1 x.2 = true) (hl : ¬ x.1 < x.2) : wordF x fg = 3 := by simp [wordF, h, hl]
set_option maxRecDepth 20000 in
theorem w_RoundTrue_no (sh : Sh) (pt : Pt) (gd : Int) (t : List Int) (ta : Option Addr) (tc : Nat) (row fg : Int) (w : World) (hre : Ro w 0 w.heap.size pt.ea sh.errs.length pt.ec 1 (ints sh.errs)) (hrr : Ro w 0 w.heap.size pt.ra sh.rows.length pt.rc 1 (ints sh.rows)) (hrl : Ro w 0 w.heap.size ta t.length tc 1 (ints t)) (ho : okG sh gd = false) (hg : Gl w) : Calls Tryz.prog 6 #[shV sh pt, (.int .i64 gd), .slice ta t.length tc, (.int .i64 row), (.int .i64 fg)] w (RetV w (.bool true)) := by
  refine calls_T0 (av := [_, _, _, _, _]) Tryz.func6 rfl rfl rfl ?_
  refine t_seq ?_
  refine t_reg ?_
  refine to_box rfl rfl (fun b5 => ?_)
  refine to_as rfl rfl ?_
  refine to_nil ?_
  refine tn_code ?_
  refine t_seq ?_
  refine t_seq ?_
  refine t_reg ?_
  first | refine to_lda rfl rfl rfl ?_ | refine to_ldea rfl (by assumption) rfl rfl ?_
  refine to_mv rfl rfl ?_
  refine to_call0 rfl rfl (fun w s => law_right sh pt _ w (rdw s) (rdw s)) rfl ?_
  refine to_fix (s := 27) (b' := false) rfl (ho) ?_
  refine to_not rfl rfl ?_
  refine to_mv rfl rfl ?_
  refine to_gf rfl rfl rfl rfl ?_
  refine to_gf rfl rfl rfl rfl ?_
  refine to_gf rfl rfl rfl rfl ?_
  refine to_pkT rfl rfl rfl ?_
  refine to_mv rfl rfl ?_
  refine to_gf rfl rfl rfl rfl ?_
  refine to_gf rfl rfl rfl rfl ?_
  refine to_gf rfl rfl rfl rfl ?_
  refine to_gf rfl rfl rfl rfl ?_
  refine to_gf rfl rfl rfl rfl ?_
  refine to_pkT rfl rfl rfl ?_
  refine to_mv rfl rfl ?_
  refine to_gf rfl rfl rfl rfl ?_
  refine to_gf rfl rfl rfl rfl ?_
  refine to_gf rfl rfl rfl rfl ?_
  refine to_gf rfl rfl rfl rfl ?_
  refine to_pkT rfl rfl rfl ?_
  refine to_nil ?_
  refine tn_code ?_
  refine t_ifT rfl ?_
  refine t_seq ?_
  refine t_reg ?_
  refine to_call0 rfl rfl (fun w s => law_known w (gl_up hg (belowH_of s))) rfl ?_
  refine to_as rfl rfl ?_
  refine to_nil ?_
  refine tn_code ?_
  refine t_ret1 rfl rfl (res_tmp rfl) (fun w' s => ?_)
  rfl

set_option maxRecDepth 20000 in
theorem w_RoundTrue_sl (sh : Sh) (pt : Pt) (gd : Int) (t : List Int) (ta : Option Addr) (tc : Nat) (row fg : Int) (w : World) (hre : Ro w 0 w.heap.size pt.ea sh.errs.length pt.ec 1 (ints sh.errs)) (hrr : Ro w 0 w.heap.size pt.ra sh.rows.length pt.rc 1 (ints sh.rows)) (hrl : Ro w 0 w.heap.size ta t.length tc 1 (ints t)) (hs : isSh sh = true) (k : Nat) (e : Int) (hgk : gd = (k : Int)) (he : sh.errs[k]? = some e) (hsl7 : decide (t.length ≤ 7) = false) (hg : Gl w) : Calls Tryz.prog 6 #[shV sh pt, (.int .i64 gd), .slice ta t.length tc, (.int .i64 row), (.int .i64 fg)] w (RetV w (.bool true)) := by
  subst hgk
  have heb := errs_b (isSh_e hs) e (List.mem_of_getElem? he)
  have hbb := isSh_b hs
  have hxe := map_get (f := intC) he
  have hke := (List.getElem?_eq_some_iff.1 he).1
  have hok := okG_t hs he
  refine calls_T0 (av := [_, _, _, _, _]) Tryz.func6 rfl rfl rfl ?_
  refine t_seq ?_
  refine t_reg ?_
  refine to_box rfl rfl (fun b5 => ?_)
  refine to_as rfl rfl ?_
  refine to_nil ?_
  refine tn_code ?_
  refine t_seq ?_
  refine t_seq ?_
  refine t_reg ?_
  first | refine to_lda rfl rfl rfl ?_ | refine to_ldea rfl (by assumption) rfl rfl ?_
  refine to_mv rfl rfl ?_
  refine to_call0 rfl rfl (fun w s => law_right sh pt _ w (rdw s) (rdw s)) rfl ?_
  refine to_fix (s := 27) (b' := true) rfl (hok) ?_
  refine to_not rfl rfl ?_
  refine to_mv rfl rfl ?_
  refine to_gt rfl rfl ?_
  refine to_mv rfl rfl ?_
  refine to_gt rfl rfl ?_
  refine to_call0 rfl rfl (fun w s => law_slim t _ _ w) rfl ?_
  refine to_fix (s := 31) (b' := false) rfl (hsl7) ?_
  refine to_gt rfl rfl ?_
  refine to_not rfl rfl ?_
  refine to_pkF rfl rfl rfl ?_
  refine to_mv rfl rfl ?_
  refine to_gf rfl rfl rfl rfl ?_
  refine to_gf rfl rfl rfl rfl ?_
  refine to_gf rfl rfl rfl rfl ?_
  refine to_gf rfl rfl rfl rfl ?_
  refine to_gf rfl rfl rfl rfl ?_
  refine to_pkT rfl rfl rfl ?_
  refine to_mv rfl rfl ?_
  refine to_gf rfl rfl rfl rfl ?_
  refine to_gf rfl rfl rfl rfl ?_
  refine to_gf rfl rfl rfl rfl ?_
  refine to_gf rfl rfl rfl rfl ?_
  refine to_pkT rfl rfl rfl ?_
  refine to_nil ?_
  refine tn_code ?_
  refine t_ifT rfl ?_
  refine t_seq ?_
  refine t_reg ?_
  refine to_call0 rfl rfl (fun w s => law_known w (gl_up hg (belowH_of s))) rfl ?_
  refine to_as rfl rfl ?_
  refine to_nil ?_
  refine tn_code ?_
  refine t_ret1 rfl rfl (res_tmp rfl) (fun w' s => ?_)
  rfl

set_option maxRecDepth 20000 in
theorem w_RoundTrue_tr (sh : Sh) (pt : Pt) (gd : Int) (t : List Int) (ta : Option Addr) (tc : Nat) (row fg : Int) (w : World) (hre : Ro w 0 w.heap.size pt.ea sh.errs.length pt.ec 1 (ints sh.errs)) (hrr : Ro w 0 w.heap.size pt.ra sh.rows.length pt.rc 1 (ints sh.rows)) (hrl : Ro w 0 w.heap.size ta t.length tc 1 (ints t)) (hs : isSh sh = true) (k : Nat) (e : Int) (hgk : gd = (k : Int)) (he : sh.errs[k]? = some e) (hsl7 : decide (t.length ≤ 7) = true) (htr : truK e sh.rows t = false) (hg : Gl w) : Calls Tryz.prog 6 #[shV sh pt, (.int .i64 gd), .slice ta t.length tc, (.int .i64 row), (.int .i64 fg)] w (RetV w (.bool true)) := by
  subst hgk
  have heb := errs_b (isSh_e hs) e (List.mem_of_getElem? he)
  have hbb := isSh_b hs
  have hxe := map_get (f := intC) he
  have hke := (List.getElem?_eq_some_iff.1 he).1
  have hok := okG_t hs he
  refine calls_T0 (av := [_, _, _, _, _]) Tryz.func6 rfl rfl rfl ?_
  refine t_seq ?_
  refine t_reg ?_
  refine to_box rfl rfl (fun b5 => ?_)
  refine to_as rfl rfl ?_
  refine to_nil ?_
  refine tn_code ?_
  refine t_seq ?_
  refine t_seq ?_
  refine t_reg ?_
  first | refine to_lda rfl rfl rfl ?_ | refine to_ldea rfl (by assumption) rfl rfl ?_
  refine to_mv rfl rfl ?_
  refine to_call0 rfl rfl (fun w s => law_right sh pt _ w (rdw s) (rdw s)) rfl ?_
  refine to_fix (s := 27) (b' := true) rfl (hok) ?_
  refine to_not rfl rfl ?_
  refine to_mv rfl rfl ?_
  refine to_gt rfl rfl ?_
  refine to_mv rfl rfl ?_
  refine to_gt rfl rfl ?_
  refine to_call0 rfl rfl (fun w s => law_slim t _ _ w) rfl ?_
  refine to_fix (s := 31) (b' := true) rfl (hsl7) ?_
  refine to_gt rfl rfl ?_
  refine to_not rfl rfl ?_
  refine to_pkF rfl rfl rfl ?_
  refine to_mv rfl rfl ?_
  refine to_gt rfl rfl ?_
  first | refine to_lda rfl rfl rfl ?_ | refine to_ldea rfl (by assumption) rfl rfl ?_
  refine to_gt rfl rfl ?_
  refine to_mv rfl rfl ?_
  refine to_gt rfl rfl ?_
  refine to_mv rfl rfl ?_
  refine to_gt rfl rfl ?_
  refine to_call0 rfl rfl (fun w s => ref_Truth sh pt k e t _ _ w (rdw s) (rdw s) hs he (rdw s)) rfl ?_
  refine to_fix (s := 38) (b' := false) rfl (htr) ?_
  refine to_gt rfl rfl ?_
  refine to_not rfl rfl ?_
  refine to_pkF rfl rfl rfl ?_
  refine to_mv rfl rfl ?_
  refine to_gf rfl rfl rfl rfl ?_
  refine to_gf rfl rfl rfl rfl ?_
  refine to_gf rfl rfl rfl rfl ?_
  refine to_gf rfl rfl rfl rfl ?_
  refine to_pkT rfl rfl rfl ?_
  refine to_nil ?_
  refine tn_code ?_
  refine t_ifT rfl ?_
  refine t_seq ?_
  refine t_reg ?_
  refine to_call0 rfl rfl (fun w s => law_known w (gl_up hg (belowH_of s))) rfl ?_
  refine to_as rfl rfl ?_
  refine to_nil ?_
  refine tn_code ?_
  refine t_ret1 rfl rfl (res_tmp rfl) (fun w' s => ?_)
  rfl

set_option maxRecDepth 20000 in
theorem w_RoundTrue_rN (sh : Sh) (pt : Pt) (gd : Int) (t : List Int) (ta : Option Addr) (tc : Nat) (row fg : Int) (w : World) (hre : Ro w 0 w.heap.size pt.ea sh.errs.length pt.ec 1 (ints sh.errs)) (hrr : Ro w 0 w.heap.size pt.ra sh.rows.length pt.rc 1 (ints sh.rows)) (hrl : Ro w 0 w.heap.size ta t.length tc 1 (ints t)) (hs : isSh sh = true) (k : Nat) (e : Int) (hgk : gd = (k : Int)) (he : sh.errs[k]? = some e) (hsl7 : decide (t.length ≤ 7) = true) (htr : truK e sh.rows t = true) (hrn : inB row 0 (sh.rows.length - 1) = false) (hg : Gl w) : Calls Tryz.prog 6 #[shV sh pt, (.int .i64 gd), .slice ta t.length tc, (.int .i64 row), (.int .i64 fg)] w (RetV w (.bool true)) := by
  subst hgk
  have heb := errs_b (isSh_e hs) e (List.mem_of_getElem? he)
  have hbb := isSh_b hs
  have hxe := map_get (f := intC) he
  have hke := (List.getElem?_eq_some_iff.1 he).1
  have hok := okG_t hs he
  refine calls_T0 (av := [_, _, _, _, _]) Tryz.func6 rfl rfl rfl ?_
  refine t_seq ?_
  refine t_reg ?_
  refine to_box rfl rfl (fun b5 => ?_)
  refine to_as rfl rfl ?_
  refine to_nil ?_
  refine tn_code ?_
  refine t_seq ?_
  refine t_seq ?_
  refine t_reg ?_
  first | refine to_lda rfl rfl rfl ?_ | refine to_ldea rfl (by assumption) rfl rfl ?_
  refine to_mv rfl rfl ?_
  refine to_call0 rfl rfl (fun w s => law_right sh pt _ w (rdw s) (rdw s)) rfl ?_
  refine to_fix (s := 27) (b' := true) rfl (hok) ?_
  refine to_not rfl rfl ?_
  refine to_mv rfl rfl ?_
  refine to_gt rfl rfl ?_
  refine to_mv rfl rfl ?_
  refine to_gt rfl rfl ?_
  refine to_call0 rfl rfl (fun w s => law_slim t _ _ w) rfl ?_
  refine to_fix (s := 31) (b' := true) rfl (hsl7) ?_
  refine to_gt rfl rfl ?_
  refine to_not rfl rfl ?_
  refine to_pkF rfl rfl rfl ?_
  refine to_mv rfl rfl ?_
  refine to_gt rfl rfl ?_
  first | refine to_lda rfl rfl rfl ?_ | refine to_ldea rfl (by assumption) rfl rfl ?_
  refine to_gt rfl rfl ?_
  refine to_mv rfl rfl ?_
  refine to_gt rfl rfl ?_
  refine to_mv rfl rfl ?_
  refine to_gt rfl rfl ?_
  refine to_call0 rfl rfl (fun w s => ref_Truth sh pt k e t _ _ w (rdw s) (rdw s) hs he (rdw s)) rfl ?_
  refine to_fix (s := 38) (b' := true) rfl (htr) ?_
  refine to_gt rfl rfl ?_
  refine to_not rfl rfl ?_
  refine to_pkF rfl rfl rfl ?_
  refine to_mv rfl rfl ?_
  refine to_gt rfl rfl ?_
  first | refine to_lda rfl rfl rfl ?_ | refine to_ldea rfl (by assumption) rfl rfl ?_
  refine to_gt rfl rfl ?_
  refine to_mv rfl rfl ?_
  refine to_gt rfl rfl ?_
  refine to_call0 rfl rfl (fun w s => ref_Row sh pt _ w (by omega)) rfl ?_
  refine to_fix (s := 44) (b' := false) rfl (hrn) ?_
  refine to_gt rfl rfl ?_
  refine to_not rfl rfl ?_
  refine to_pkF rfl rfl rfl ?_
  refine to_nil ?_
  refine tn_code ?_
  refine t_ifT rfl ?_
  refine t_seq ?_
  refine t_reg ?_
  refine to_call0 rfl rfl (fun w s => law_known w (gl_up hg (belowH_of s))) rfl ?_
  refine to_as rfl rfl ?_
  refine to_nil ?_
  refine tn_code ?_
  refine t_ret1 rfl rfl (res_tmp rfl) (fun w' s => ?_)
  rfl

set_option maxRecDepth 20000 in
theorem w_RoundTrue_w1 (sh : Sh) (pt : Pt) (gd : Int) (t : List Int) (ta : Option Addr) (tc : Nat) (row fg : Int) (w : World) (hre : Ro w 0 w.heap.size pt.ea sh.errs.length pt.ec 1 (ints sh.errs)) (hrr : Ro w 0 w.heap.size pt.ra sh.rows.length pt.rc 1 (ints sh.rows)) (hrl : Ro w 0 w.heap.size ta t.length tc 1 (ints t)) (hs : isSh sh = true) (k : Nat) (e : Int) (hgk : gd = (k : Int)) (he : sh.errs[k]? = some e) (hsl7 : decide (t.length ≤ 7) = true) (htr : truK e sh.rows t = true) (i : Nat) (r : Int) (hri : row = (i : Int)) (hr : sh.rows[i]? = some r) (n : Int) (hn : t[i]? = some n) (hin : inB fg (fig sh (r - e)) (fig sh (r + e)) = false) (hg : Gl w) : Calls Tryz.prog 6 #[shV sh pt, (.int .i64 gd), .slice ta t.length tc, (.int .i64 row), (.int .i64 fg)] w (RetV w (.bool true)) := by
  subst hgk
  have heb := errs_b (isSh_e hs) e (List.mem_of_getElem? he)
  have hbb := isSh_b hs
  have hxe := map_get (f := intC) he
  have hke := (List.getElem?_eq_some_iff.1 he).1
  have hok := okG_t hs he
  subst hri
  have hrt := row_ok hr
  have hrb := isSh_r hs (List.mem_of_getElem? hr)
  have hxr := map_get (f := intC) hr
  have hir := (List.getElem?_eq_some_iff.1 hr).1
  have htl := truK_len htr
  have hbl := bnd_len sh e
  have hfl := fig_len sh e
  have hxn := map_get (f := intC) hn
  have hxb := bnd_get (e := e) hr
  have hxf := figL_get (e := e) hr
  have hnr := tru_get htr hn hr
  have hm1 := fig_mono hs hnr.1
  have hm2 := fig_mono hs hnr.2
  have hm3 := fig_mono hs (show r - e ≤ r + e by omega)
  obtain ⟨hw, hout⟩ := word_1 (x := (fig sh (r - e), fig sh (r + e))) hin
  dsimp only at hout
  refine calls_T0 (av := [_, _, _, _, _]) Tryz.func6 rfl rfl rfl ?_
  refine t_seq ?_
  refine t_reg ?_
  refine to_box rfl rfl (fun b5 => ?_)
  refine to_as rfl rfl ?_
  refine to_nil ?_
  refine tn_code ?_
  refine t_seq ?_
  refine t_seq ?_
  refine t_reg ?_
  first | refine to_lda rfl rfl rfl ?_ | refine to_ldea rfl (by assumption) rfl rfl ?_
  refine to_mv rfl rfl ?_
  refine to_call0 rfl rfl (fun w s => law_right sh pt _ w (rdw s) (rdw s)) rfl ?_
  refine to_fix (s := 27) (b' := true) rfl (hok) ?_
  refine to_not rfl rfl ?_
  refine to_mv rfl rfl ?_
  refine to_gt rfl rfl ?_
  refine to_mv rfl rfl ?_
  refine to_gt rfl rfl ?_
  refine to_call0 rfl rfl (fun w s => law_slim t _ _ w) rfl ?_
  refine to_fix (s := 31) (b' := true) rfl (hsl7) ?_
  refine to_gt rfl rfl ?_
  refine to_not rfl rfl ?_
  refine to_pkF rfl rfl rfl ?_
  refine to_mv rfl rfl ?_
  refine to_gt rfl rfl ?_
  first | refine to_lda rfl rfl rfl ?_ | refine to_ldea rfl (by assumption) rfl rfl ?_
  refine to_gt rfl rfl ?_
  refine to_mv rfl rfl ?_
  refine to_gt rfl rfl ?_
  refine to_mv rfl rfl ?_
  refine to_gt rfl rfl ?_
  refine to_call0 rfl rfl (fun w s => ref_Truth sh pt k e t _ _ w (rdw s) (rdw s) hs he (rdw s)) rfl ?_
  refine to_fix (s := 38) (b' := true) rfl (htr) ?_
  refine to_gt rfl rfl ?_
  refine to_not rfl rfl ?_
  refine to_pkF rfl rfl rfl ?_
  refine to_mv rfl rfl ?_
  refine to_gt rfl rfl ?_
  first | refine to_lda rfl rfl rfl ?_ | refine to_ldea rfl (by assumption) rfl rfl ?_
  refine to_gt rfl rfl ?_
  refine to_mv rfl rfl ?_
  refine to_gt rfl rfl ?_
  refine to_call0 rfl rfl (fun w s => ref_Row sh pt _ w (by omega)) rfl ?_
  refine to_fix (s := 44) (b' := true) rfl (hrt) ?_
  refine to_gt rfl rfl ?_
  refine to_not rfl rfl ?_
  refine to_pkF rfl rfl rfl ?_
  refine to_nil ?_
  refine tn_code ?_
  refine t_ifF rfl ?_
  refine t_skip ?_
  refine tn_code ?_
  refine t_seq ?_
  refine t_reg ?_
  first | refine to_lda rfl rfl rfl ?_ | refine to_ldea rfl (by assumption) rfl rfl ?_
  refine to_mv rfl rfl ?_
  refine to_callR rfl rfl (fun w s => r_Bounds_t sh pt k e w (rdw s) (rdw s) hs he) rfl (fun v51 lo51 w51 hlo51 hR51 => ?_)
  obtain ⟨pa51, pc51, rfl, hro51⟩ := hR51
  rw [hbl] at *
  refine to_mv rfl rfl ?_
  refine to_ex rfl rfl rfl ?_
  refine to_ex rfl rfl rfl ?_
  refine to_as rfl rfl ?_
  refine to_as rfl rfl ?_
  refine to_nil ?_
  refine tn_code ?_
  refine t_seq ?_
  refine t_reg ?_
  first | refine to_lda rfl rfl rfl ?_ | refine to_ldea rfl (by assumption) rfl rfl ?_
  refine to_mv rfl rfl ?_
  refine to_callR rfl rfl (fun w s => r_Figures_t sh pt k e w (rdw s) (rdw s) hs he) rfl (fun v57 lo57 w57 hlo57 hR57 => ?_)
  obtain ⟨pa57, pc57, rfl, hro57⟩ := hR57
  rw [hfl] at *
  refine to_mv rfl rfl ?_
  refine to_ex rfl rfl rfl ?_
  refine to_ex rfl rfl rfl ?_
  refine to_as rfl rfl ?_
  refine to_as rfl rfl ?_
  refine to_nil ?_
  refine tn_code ?_
  refine t_seq ?_
  refine t_reg ?_
  first | refine to_lda rfl rfl rfl ?_ | refine to_ldea rfl (by assumption) rfl rfl ?_
  refine to_mv rfl rfl ?_
  refine to_callR rfl rfl (fun w s => r_Sure_t sh pt k e w (rdw s) (rdw s) hs he) rfl (fun v63 lo63 w63 hlo63 hR63 => ?_)
  obtain ⟨pa63, pc63, rfl, hro63⟩ := hR63
  refine to_mv rfl rfl ?_
  refine to_ex rfl rfl rfl ?_
  refine to_ex rfl rfl rfl ?_
  refine to_as rfl rfl ?_
  refine to_as rfl rfl ?_
  refine to_nil ?_
  refine tn_code ?_
  refine t_seq ?_
  refine t_reg ?_
  first | refine to_lda rfl rfl rfl ?_ | refine to_ldea rfl (by assumption) rfl rfl ?_
  refine to_mv rfl rfl ?_
  refine to_mv rfl rfl ?_
  refine to_mv rfl rfl ?_
  refine to_call0 rfl rfl (fun w s => c_Word (rdw s) (rdw s) hs he hr hw) rfl ?_
  refine to_mv rfl rfl ?_
  refine to_ex rfl rfl rfl ?_
  refine to_ex rfl rfl rfl ?_
  refine to_as rfl rfl ?_
  refine to_as rfl rfl ?_
  refine to_nil ?_
  refine tn_code ?_
  refine t_seq ?_
  refine t_regD rfl (by kernel_rfl) (by kernel_rfl) ?_
  first | refine to_lda rfl rfl rfl ?_ | refine to_ldea rfl (by assumption) rfl rfl ?_
  refine to_mv rfl rfl ?_
  refine to_mv rfl rfl ?_
  first | refine to_ix rfl rfl rfl (by first | omega | decide) (by first | omega | decide) rfl ?_ | refine to_ixi rfl rfl rfl (by omega) (by omega) (by omega) rfl ?_
  first | refine to_lds rfl rfl rfl ?_ | refine to_ldes rfl (by assumption) rfl rfl ?_
  refine to_call0 rfl rfl (fun w s => law_to sh pt n w hs (by omega)) rfl ?_
  refine to_mv rfl rfl ?_
  refine to_ex rfl rfl rfl ?_
  refine to_ex rfl rfl rfl ?_
  refine to_fix (s := 82) (b' := true) rfl (rfl) ?_
  refine to_as rfl rfl ?_
  refine to_as rfl rfl ?_
  refine to_nil ?_
  refine tn_code ?_
  refine t_seq ?_
  refine t_seq ?_
  refine t_regD rfl (by kernel_rfl) (by kernel_rfl) ?_
  refine to_mv rfl rfl ?_
  refine to_neq rfl rfl rfl ?_
  refine to_fix (s := 84) (b' := false) rfl (rfl) ?_
  refine to_mv rfl rfl ?_
  refine to_gt rfl rfl ?_
  refine to_mv rfl rfl ?_
  refine to_gt rfl rfl ?_
  refine to_neq rfl rfl rfl ?_
  refine to_fix (s := 87) (b' := false) rfl (rfl) ?_
  refine to_pkF rfl rfl rfl ?_
  refine to_mv rfl rfl ?_
  refine to_gt rfl rfl ?_
  refine to_mv rfl rfl ?_
  refine to_gt rfl rfl ?_
  refine to_neq rfl rfl rfl ?_
  refine to_fix (s := 91) (b' := false) rfl (rfl) ?_
  refine to_pkF rfl rfl rfl ?_
  refine to_mv rfl rfl ?_
  refine to_gt rfl rfl ?_
  refine to_mv rfl rfl ?_
  refine to_gt rfl rfl ?_
  refine to_neq rfl rfl rfl ?_
  refine to_fix (s := 95) (b' := false) rfl (rfl) ?_
  refine to_pkF rfl rfl rfl ?_
  refine to_mv rfl rfl ?_
  refine to_gt rfl rfl ?_
  refine to_mv rfl rfl ?_
  refine to_gt rfl rfl ?_
  refine to_not rfl rfl ?_
  refine to_pkF rfl rfl rfl ?_
  refine to_mv rfl rfl ?_
  refine to_gt rfl rfl ?_
  refine to_mv rfl rfl ?_
  refine to_gt rfl rfl ?_
  refine to_lenS rfl rfl ?_
  refine to_gt rfl rfl ?_
  refine to_mv rfl rfl ?_
  refine to_gt rfl rfl ?_
  refine to_lenS rfl rfl ?_
  refine to_gt rfl rfl ?_
  refine to_neq rfl rfl rfl ?_
  refine to_fix (s := 106) (b' := false) rfl (by simp; omega) ?_
  refine to_pkF rfl rfl rfl ?_
  refine to_mv rfl rfl ?_
  refine to_gt rfl rfl ?_
  refine to_mv rfl rfl ?_
  refine to_gt rfl rfl ?_
  refine to_lenS rfl rfl ?_
  refine to_gt rfl rfl ?_
  refine to_mv rfl rfl ?_
  refine to_gt rfl rfl ?_
  refine to_lenS rfl rfl ?_
  refine to_gt rfl rfl ?_
  refine to_neq rfl rfl rfl ?_
  refine to_fix (s := 113) (b' := false) rfl (by simp; omega) ?_
  refine to_pkF rfl rfl rfl ?_
  refine to_mv rfl rfl ?_
  refine to_gt rfl rfl ?_
  refine to_mv rfl rfl ?_
  refine to_gt rfl rfl ?_
  refine to_mv rfl rfl ?_
  refine to_gt rfl rfl ?_
  first | refine to_ix rfl rfl rfl (by first | omega | decide) (by first | omega | decide) rfl ?_ | refine to_ixi rfl rfl rfl (by omega) (by omega) (by omega) rfl ?_
  refine to_gt rfl rfl ?_
  first | refine to_lds rfl rfl rfl ?_ | refine to_ldes rfl (by assumption) rfl rfl ?_
  refine to_gt rfl rfl ?_
  refine to_mv rfl rfl ?_
  refine to_gt rfl rfl ?_
  refine to_mv rfl rfl ?_
  refine to_gt rfl rfl ?_
  first | refine to_ix rfl rfl rfl (by first | omega | decide) (by first | omega | decide) rfl ?_ | refine to_ixi rfl rfl rfl (by omega) (by omega) (by omega) rfl ?_
  refine to_gt rfl rfl ?_
  first | refine to_fa rfl rfl rfl (by simp only [Nat.reduceAdd]; rfl) rfl ?_ | refine to_fae rfl rfl rfl (by simp only [Nat.reduceAdd]; rfl) rfl ?_
  refine to_gt rfl rfl ?_
  first | refine to_lds rfl rfl rfl ?_ | refine to_ldes rfl (by assumption) rfl rfl ?_
  refine to_gt rfl rfl ?_
  refine to_lss rfl rfl rfl ?_
  refine to_fix (s := 125) (b' := false) rfl (decide_eq_false (by omega)) ?_
  refine to_pkF rfl rfl rfl ?_
  refine to_mv rfl rfl ?_
  refine to_gt rfl rfl ?_
  refine to_mv rfl rfl ?_
  refine to_gt rfl rfl ?_
  refine to_mv rfl rfl ?_
  refine to_gt rfl rfl ?_
  first | refine to_ix rfl rfl rfl (by first | omega | decide) (by first | omega | decide) rfl ?_ | refine to_ixi rfl rfl rfl (by omega) (by omega) (by omega) rfl ?_
  refine to_gt rfl rfl ?_
  first | refine to_lds rfl rfl rfl ?_ | refine to_ldes rfl (by assumption) rfl rfl ?_
  refine to_gt rfl rfl ?_
  refine to_mv rfl rfl ?_
  refine to_gt rfl rfl ?_
  refine to_mv rfl rfl ?_
  refine to_gt rfl rfl ?_
  first | refine to_ix rfl rfl rfl (by first | omega | decide) (by first | omega | decide) rfl ?_ | refine to_ixi rfl rfl rfl (by omega) (by omega) (by omega) rfl ?_
  refine to_gt rfl rfl ?_
  first | refine to_fa rfl rfl rfl (by simp only [Nat.reduceAdd]; rfl) rfl ?_ | refine to_fae rfl rfl rfl (by simp only [Nat.reduceAdd]; rfl) rfl ?_
  refine to_gt rfl rfl ?_
  first | refine to_lds rfl rfl rfl ?_ | refine to_ldes rfl (by assumption) rfl rfl ?_
  refine to_gt rfl rfl ?_
  refine to_gtr rfl rfl rfl ?_
  refine to_fix (s := 137) (b' := false) rfl (decide_eq_false (by omega)) ?_
  refine to_pkF rfl rfl rfl ?_
  refine to_mv rfl rfl ?_
  refine to_gt rfl rfl ?_
  refine to_mv rfl rfl ?_
  refine to_gt rfl rfl ?_
  refine to_mv rfl rfl ?_
  refine to_gt rfl rfl ?_
  refine to_mv rfl rfl ?_
  refine to_gt rfl rfl ?_
  first | refine to_ix rfl rfl rfl (by first | omega | decide) (by first | omega | decide) rfl ?_ | refine to_ixi rfl rfl rfl (by omega) (by omega) (by omega) rfl ?_
  refine to_gt rfl rfl ?_
  first | refine to_fa rfl rfl rfl (by simp only [Nat.reduceAdd]; rfl) rfl ?_ | refine to_fae rfl rfl rfl (by simp only [Nat.reduceAdd]; rfl) rfl ?_
  refine to_gt rfl rfl ?_
  first | refine to_lds rfl rfl rfl ?_ | refine to_ldes rfl (by assumption) rfl rfl ?_
  refine to_gt rfl rfl ?_
  refine to_lss rfl rfl rfl ?_
  refine to_fix (s := 146) (b' := false) rfl (decide_eq_false (by omega)) ?_
  refine to_pkF rfl rfl rfl ?_
  refine to_mv rfl rfl ?_
  refine to_gt rfl rfl ?_
  refine to_mv rfl rfl ?_
  refine to_gt rfl rfl ?_
  refine to_mv rfl rfl ?_
  refine to_gt rfl rfl ?_
  refine to_mv rfl rfl ?_
  refine to_gt rfl rfl ?_
  first | refine to_ix rfl rfl rfl (by first | omega | decide) (by first | omega | decide) rfl ?_ | refine to_ixi rfl rfl rfl (by omega) (by omega) (by omega) rfl ?_
  refine to_gt rfl rfl ?_
  first | refine to_fa rfl rfl rfl (by simp only [Nat.reduceAdd]; rfl) rfl ?_ | refine to_fae rfl rfl rfl (by simp only [Nat.reduceAdd]; rfl) rfl ?_
  refine to_gt rfl rfl ?_
  first | refine to_lds rfl rfl rfl ?_ | refine to_ldes rfl (by assumption) rfl rfl ?_
  refine to_gt rfl rfl ?_
  refine to_gtr rfl rfl rfl ?_
  refine to_fix (s := 155) (b' := false) rfl (decide_eq_false (by omega)) ?_
  refine to_pkF rfl rfl rfl ?_
  refine to_nil ?_
  refine tn_code ?_
  refine t_ifF rfl ?_
  refine t_skip ?_
  refine tn_code ?_
  refine t_seq ?_
  refine t_seq ?_
  refine t_reg ?_
  refine to_mv rfl rfl ?_
  refine to_mv rfl rfl ?_
  first | refine to_ix rfl rfl rfl (by first | omega | decide) (by first | omega | decide) rfl ?_ | refine to_ixi rfl rfl rfl (by omega) (by omega) (by omega) rfl ?_
  first | refine to_fa rfl rfl rfl (by simp only [Nat.reduceAdd]; rfl) rfl ?_ | refine to_fae rfl rfl rfl (by simp only [Nat.reduceAdd]; rfl) rfl ?_
  first | refine to_lds rfl rfl rfl ?_ | refine to_ldes rfl (by assumption) rfl rfl ?_
  refine to_call0 rfl rfl (fun w s => ref_Value (r - e) w) rfl ?_
  refine to_fix (s := 162) (b' := true) rfl (inB_iff.2 (by omega)) ?_
  refine to_not rfl rfl ?_
  refine to_mv rfl rfl ?_
  refine to_gt rfl rfl ?_
  refine to_mv rfl rfl ?_
  refine to_gt rfl rfl ?_
  refine to_mv rfl rfl ?_
  refine to_gt rfl rfl ?_
  first | refine to_ix rfl rfl rfl (by first | omega | decide) (by first | omega | decide) rfl ?_ | refine to_ixi rfl rfl rfl (by omega) (by omega) (by omega) rfl ?_
  refine to_gt rfl rfl ?_
  first | refine to_fa rfl rfl rfl (by simp only [Nat.reduceAdd]; rfl) rfl ?_ | refine to_fae rfl rfl rfl (by simp only [Nat.reduceAdd]; rfl) rfl ?_
  refine to_gt rfl rfl ?_
  first | refine to_lds rfl rfl rfl ?_ | refine to_ldes rfl (by assumption) rfl rfl ?_
  refine to_gt rfl rfl ?_
  refine to_call0 rfl rfl (fun w s => ref_Value (r + e) w) rfl ?_
  refine to_fix (s := 170) (b' := true) rfl (inB_iff.2 (by omega)) ?_
  refine to_gt rfl rfl ?_
  refine to_not rfl rfl ?_
  refine to_pkF rfl rfl rfl ?_
  refine to_nil ?_
  refine tn_code ?_
  refine t_ifF rfl ?_
  refine t_skip ?_
  refine tn_code ?_
  refine t_seq ?_
  refine t_regD rfl (by kernel_rfl) (by kernel_rfl) ?_
  first | refine to_lda rfl rfl rfl ?_ | refine to_ldea rfl (by assumption) rfl rfl ?_
  refine to_mv rfl rfl ?_
  refine to_mv rfl rfl ?_
  first | refine to_ix rfl rfl rfl (by first | omega | decide) (by first | omega | decide) rfl ?_ | refine to_ixi rfl rfl rfl (by omega) (by omega) (by omega) rfl ?_
  first | refine to_fa rfl rfl rfl (by simp only [Nat.reduceAdd]; rfl) rfl ?_ | refine to_fae rfl rfl rfl (by simp only [Nat.reduceAdd]; rfl) rfl ?_
  first | refine to_lds rfl rfl rfl ?_ | refine to_ldes rfl (by assumption) rfl rfl ?_
  refine to_call0 rfl rfl (fun w s => law_to sh pt (r - e) w hs (by omega)) rfl ?_
  refine to_mv rfl rfl ?_
  refine to_ex rfl rfl rfl ?_
  refine to_ex rfl rfl rfl ?_
  refine to_fix (s := 182) (b' := true) rfl (rfl) ?_
  refine to_as rfl rfl ?_
  refine to_as rfl rfl ?_
  refine to_nil ?_
  refine tn_code ?_
  refine t_seq ?_
  refine t_regD rfl (by kernel_rfl) (by kernel_rfl) ?_
  first | refine to_lda rfl rfl rfl ?_ | refine to_ldea rfl (by assumption) rfl rfl ?_
  refine to_mv rfl rfl ?_
  refine to_mv rfl rfl ?_
  first | refine to_ix rfl rfl rfl (by first | omega | decide) (by first | omega | decide) rfl ?_ | refine to_ixi rfl rfl rfl (by omega) (by omega) (by omega) rfl ?_
  first | refine to_fa rfl rfl rfl (by simp only [Nat.reduceAdd]; rfl) rfl ?_ | refine to_fae rfl rfl rfl (by simp only [Nat.reduceAdd]; rfl) rfl ?_
  first | refine to_lds rfl rfl rfl ?_ | refine to_ldes rfl (by assumption) rfl rfl ?_
  refine to_call0 rfl rfl (fun w s => law_to sh pt (r + e) w hs (by omega)) rfl ?_
  refine to_mv rfl rfl ?_
  refine to_ex rfl rfl rfl ?_
  refine to_ex rfl rfl rfl ?_
  refine to_fix (s := 192) (b' := true) rfl (rfl) ?_
  refine to_as rfl rfl ?_
  refine to_as rfl rfl ?_
  refine to_nil ?_
  refine tn_code ?_
  refine t_seq ?_
  refine t_seq ?_
  refine t_regD rfl (by kernel_rfl) (by kernel_rfl) ?_
  refine to_mv rfl rfl ?_
  refine to_not rfl rfl ?_
  refine to_mv rfl rfl ?_
  refine to_gt rfl rfl ?_
  refine to_mv rfl rfl ?_
  refine to_gt rfl rfl ?_
  refine to_not rfl rfl ?_
  refine to_pkF rfl rfl rfl ?_
  refine to_mv rfl rfl ?_
  refine to_gt rfl rfl ?_
  refine to_mv rfl rfl ?_
  refine to_gt rfl rfl ?_
  refine to_mv rfl rfl ?_
  refine to_gt rfl rfl ?_
  first | refine to_ix rfl rfl rfl (by first | omega | decide) (by first | omega | decide) rfl ?_ | refine to_ixi rfl rfl rfl (by omega) (by omega) (by omega) rfl ?_
  refine to_gt rfl rfl ?_
  first | refine to_lda rfl rfl rfl ?_ | refine to_ldea rfl (by assumption) rfl rfl ?_
  refine to_gt rfl rfl ?_
  refine to_mv rfl rfl ?_
  refine to_gt rfl rfl ?_
  refine to_mv rfl rfl ?_
  refine to_gt rfl rfl ?_
  refine to_call0 rfl rfl (fun w s => law_span _ _ w) rfl ?_
  refine to_gt rfl rfl ?_
  refine to_nes rfl rfl rfl rfl rfl rfl rfl ?_
  refine to_fix (s := 207) (b' := false) rfl (by rw [ieq_refl (isI_span _)]; rfl) ?_
  refine to_pkF rfl rfl rfl ?_
  refine to_mv rfl rfl ?_
  refine to_gt rfl rfl ?_
  refine to_mv rfl rfl ?_
  refine to_gt rfl rfl ?_
  refine to_mv rfl rfl ?_
  refine to_gt rfl rfl ?_
  refine to_call0 rfl rfl (fun w s => ref_Listed (sureL sh e) _ _ _ w (rdw s) (by have h9 := sureK_len sh e sh.rows.length; simp only [sureL]; omega)) rfl ?_
  refine to_gt rfl rfl ?_
  refine to_mv rfl rfl ?_
  refine to_gt rfl rfl ?_
  refine to_mv rfl rfl ?_
  refine to_gt rfl rfl ?_
  refine to_eql rfl rfl rfl ?_
  refine to_gt rfl rfl ?_
  refine to_bne rfl rfl (by kernel_rfl) rfl ?_
  refine to_fix (s := 216) (b' := false) rfl (by rw [sure_has hr]; simp) ?_
  refine to_pkF rfl rfl rfl ?_
  refine to_nil ?_
  refine tn_code ?_
  refine t_ifF rfl ?_
  refine t_skip ?_
  refine tn_code ?_
  refine t_seq ?_
  refine t_seq ?_
  refine t_reg ?_
  refine to_mv rfl rfl ?_
  refine to_lss rfl rfl rfl ?_
  refine to_fix (s := 219) (b' := false) rfl (rfl) ?_
  refine to_mv rfl rfl ?_
  refine to_gt rfl rfl ?_
  refine to_mv rfl rfl ?_
  refine to_gt rfl rfl ?_
  refine to_gtr rfl rfl rfl ?_
  refine to_fix (s := 222) (b' := false) rfl (rfl) ?_
  refine to_pkF rfl rfl rfl ?_
  refine to_mv rfl rfl ?_
  refine to_gt rfl rfl ?_
  refine to_mv rfl rfl ?_
  refine to_gt rfl rfl ?_
  refine to_eql rfl rfl rfl ?_
  refine to_fix (s := 226) (b' := true) rfl (rfl) ?_
  refine to_gt rfl rfl ?_
  refine to_mv rfl rfl ?_
  refine to_gt rfl rfl ?_
  refine to_mv rfl rfl ?_
  refine to_gt rfl rfl ?_
  refine to_lss rfl rfl rfl ?_
  refine to_gt rfl rfl ?_
  refine to_mv rfl rfl ?_
  refine to_gs rfl rfl rfl (fun h1 => ?_) (fun h1 => ?_)
  · try simp only [decide_eq_true_eq, decide_eq_false_iff_not, Bool.not_eq_true', Bool.not_eq_false', Int.not_lt, Int.not_le, ne_eq, Decidable.not_not] at h1
    try have h1b := inB_iff.1 h1
    refine to_gf rfl rfl rfl rfl ?_
    refine to_gf rfl rfl rfl rfl ?_
    refine to_gf rfl rfl rfl rfl ?_
    refine to_gt rfl rfl ?_
    refine to_pkT rfl rfl rfl ?_
    refine to_gt rfl rfl ?_
    refine to_bne rfl rfl (by kernel_rfl) rfl ?_
    refine to_fix (s := 235) (b' := false) rfl (rfl) ?_
    refine to_pkF rfl rfl rfl ?_
    refine to_mv rfl rfl ?_
    refine to_gt rfl rfl ?_
    refine to_mv rfl rfl ?_
    refine to_gt rfl rfl ?_
    refine to_eql rfl rfl rfl ?_
    refine to_fix (s := 239) (b' := false) rfl (rfl) ?_
    refine to_gt rfl rfl ?_
    refine to_mv rfl rfl ?_
    refine to_gt rfl rfl ?_
    refine to_mv rfl rfl ?_
    refine to_gt rfl rfl ?_
    refine to_eql rfl rfl rfl ?_
    refine to_gt rfl rfl ?_
    refine to_mv rfl rfl ?_
    refine to_gs rfl rfl rfl (fun h2 => ?_) (fun h2 => ?_)
    · try simp only [decide_eq_true_eq, decide_eq_false_iff_not, Bool.not_eq_true', Bool.not_eq_false', Int.not_lt, Int.not_le, ne_eq, Decidable.not_not] at h2
      try have h2b := inB_iff.1 h2
      refine to_gt rfl rfl ?_
      refine to_mv rfl rfl ?_
      refine to_gt rfl rfl ?_
      refine to_mv rfl rfl ?_
      refine to_gt rfl rfl ?_
      refine to_eql rfl rfl rfl ?_
      refine to_fix (s := 246) (b' := false) rfl (decide_eq_false (by omega)) ?_
      refine to_gt rfl rfl ?_
      refine to_pkT rfl rfl rfl ?_
      refine to_gt rfl rfl ?_
      refine to_bne rfl rfl (by kernel_rfl) rfl ?_
      refine to_fix (s := 248) (b' := false) rfl (rfl) ?_
      refine to_pkF rfl rfl rfl ?_
      refine to_nil ?_
      refine tn_code ?_
      refine t_ifF rfl ?_
      refine t_skip ?_
      refine tn_code ?_
      refine t_seq ?_
      refine t_reg ?_
      refine to_mv rfl rfl ?_
      refine to_neq rfl rfl rfl ?_
      refine to_fix (s := 251) (b' := false) rfl (rfl) ?_
      refine to_mv rfl rfl ?_
      refine to_gt rfl rfl ?_
      refine to_mv rfl rfl ?_
      refine to_gt rfl rfl ?_
      refine to_mv rfl rfl ?_
      refine to_gt rfl rfl ?_
      refine to_neq rfl rfl rfl ?_
      refine to_fix (s := 255) (b' := true) rfl (by simp; omega) ?_
      refine to_pkF rfl rfl rfl ?_
      refine to_mv rfl rfl ?_
      refine to_gt rfl rfl ?_
      refine to_mv rfl rfl ?_
      refine to_gt rfl rfl ?_
      refine to_neq rfl rfl rfl ?_
      refine to_fix (s := 259) (b' := true) rfl (rfl) ?_
      refine to_gt rfl rfl ?_
      refine to_mv rfl rfl ?_
      refine to_gf rfl rfl rfl rfl ?_
      refine to_gf rfl rfl rfl rfl ?_
      refine to_gf rfl rfl rfl rfl ?_
      refine to_gt rfl rfl ?_
      refine to_pkT rfl rfl rfl ?_
      refine to_pkT rfl rfl rfl ?_
      refine to_mv rfl rfl ?_
      refine to_gt rfl rfl ?_
      refine to_call0 rfl rfl (fun w s => law_known w (gl_up hg (belowH_of s))) rfl ?_
      refine to_pkT rfl rfl rfl ?_
      refine to_as rfl rfl ?_
      refine to_nil ?_
      refine tn_code ?_
      refine t_ret1 rfl rfl (res_tmp rfl) (fun w' s => ?_)
      rfl
    · try simp only [decide_eq_true_eq, decide_eq_false_iff_not, Bool.not_eq_true', Bool.not_eq_false', Int.not_lt, Int.not_le, ne_eq, Decidable.not_not] at h2
      try have h2b := inB_iff.1 h2
      refine to_gf rfl rfl rfl rfl ?_
      refine to_gf rfl rfl rfl rfl ?_
      refine to_gf rfl rfl rfl rfl ?_
      refine to_gt rfl rfl ?_
      refine to_pkF rfl rfl rfl ?_
      refine to_gt rfl rfl ?_
      refine to_bne rfl rfl (by kernel_rfl) rfl ?_
      refine to_fix (s := 248) (b' := false) rfl (rfl) ?_
      refine to_pkF rfl rfl rfl ?_
      refine to_nil ?_
      refine tn_code ?_
      refine t_ifF rfl ?_
      refine t_skip ?_
      refine tn_code ?_
      refine t_seq ?_
      refine t_reg ?_
      refine to_mv rfl rfl ?_
      refine to_neq rfl rfl rfl ?_
      refine to_fix (s := 251) (b' := false) rfl (rfl) ?_
      refine to_mv rfl rfl ?_
      refine to_gt rfl rfl ?_
      refine to_mv rfl rfl ?_
      refine to_gt rfl rfl ?_
      refine to_mv rfl rfl ?_
      refine to_gt rfl rfl ?_
      refine to_neq rfl rfl rfl ?_
      refine to_fix (s := 255) (b' := true) rfl (by simp; omega) ?_
      refine to_pkF rfl rfl rfl ?_
      refine to_mv rfl rfl ?_
      refine to_gt rfl rfl ?_
      refine to_mv rfl rfl ?_
      refine to_gt rfl rfl ?_
      refine to_neq rfl rfl rfl ?_
      refine to_fix (s := 259) (b' := true) rfl (rfl) ?_
      refine to_gt rfl rfl ?_
      refine to_mv rfl rfl ?_
      refine to_gf rfl rfl rfl rfl ?_
      refine to_gf rfl rfl rfl rfl ?_
      refine to_gf rfl rfl rfl rfl ?_
      refine to_gt rfl rfl ?_
      refine to_pkT rfl rfl rfl ?_
      refine to_pkT rfl rfl rfl ?_
      refine to_mv rfl rfl ?_
      refine to_gt rfl rfl ?_
      refine to_call0 rfl rfl (fun w s => law_known w (gl_up hg (belowH_of s))) rfl ?_
      refine to_pkT rfl rfl rfl ?_
      refine to_as rfl rfl ?_
      refine to_nil ?_
      refine tn_code ?_
      refine t_ret1 rfl rfl (res_tmp rfl) (fun w' s => ?_)
      rfl
  · try simp only [decide_eq_true_eq, decide_eq_false_iff_not, Bool.not_eq_true', Bool.not_eq_false', Int.not_lt, Int.not_le, ne_eq, Decidable.not_not] at h1
    try have h1b := inB_iff.1 h1
    refine to_gt rfl rfl ?_
    refine to_mv rfl rfl ?_
    refine to_gt rfl rfl ?_
    refine to_mv rfl rfl ?_
    refine to_gt rfl rfl ?_
    refine to_gtr rfl rfl rfl ?_
    refine to_fix (s := 233) (b' := true) rfl (decide_eq_true (by omega)) ?_
    refine to_gt rfl rfl ?_
    refine to_pkF rfl rfl rfl ?_
    refine to_gt rfl rfl ?_
    refine to_bne rfl rfl (by kernel_rfl) rfl ?_
    refine to_fix (s := 235) (b' := false) rfl (rfl) ?_
    refine to_pkF rfl rfl rfl ?_
    refine to_mv rfl rfl ?_
    refine to_gt rfl rfl ?_
    refine to_mv rfl rfl ?_
    refine to_gt rfl rfl ?_
    refine to_eql rfl rfl rfl ?_
    refine to_fix (s := 239) (b' := false) rfl (rfl) ?_
    refine to_gt rfl rfl ?_
    refine to_mv rfl rfl ?_
    refine to_gt rfl rfl ?_
    refine to_mv rfl rfl ?_
    refine to_gt rfl rfl ?_
    refine to_eql rfl rfl rfl ?_
    refine to_gt rfl rfl ?_
    refine to_mv rfl rfl ?_
    refine to_gs rfl rfl rfl (fun h3 => ?_) (fun h3 => ?_)
    · try simp only [decide_eq_true_eq, decide_eq_false_iff_not, Bool.not_eq_true', Bool.not_eq_false', Int.not_lt, Int.not_le, ne_eq, Decidable.not_not] at h3
      try have h3b := inB_iff.1 h3
      refine to_gt rfl rfl ?_
      refine to_mv rfl rfl ?_
      refine to_gt rfl rfl ?_
      refine to_mv rfl rfl ?_
      refine to_gt rfl rfl ?_
      refine to_eql rfl rfl rfl ?_
      refine to_fix (s := 246) (b' := false) rfl (decide_eq_false (by omega)) ?_
      refine to_gt rfl rfl ?_
      refine to_pkT rfl rfl rfl ?_
      refine to_gt rfl rfl ?_
      refine to_bne rfl rfl (by kernel_rfl) rfl ?_
      refine to_fix (s := 248) (b' := false) rfl (rfl) ?_
      refine to_pkF rfl rfl rfl ?_
      refine to_nil ?_
      refine tn_code ?_
      refine t_ifF rfl ?_
      refine t_skip ?_
      refine tn_code ?_
      refine t_seq ?_
      refine t_reg ?_
      refine to_mv rfl rfl ?_
      refine to_neq rfl rfl rfl ?_
      refine to_fix (s := 251) (b' := false) rfl (rfl) ?_
      refine to_mv rfl rfl ?_
      refine to_gt rfl rfl ?_
      refine to_mv rfl rfl ?_
      refine to_gt rfl rfl ?_
      refine to_mv rfl rfl ?_
      refine to_gt rfl rfl ?_
      refine to_neq rfl rfl rfl ?_
      refine to_fix (s := 255) (b' := true) rfl (by simp; omega) ?_
      refine to_pkF rfl rfl rfl ?_
      refine to_mv rfl rfl ?_
      refine to_gt rfl rfl ?_
      refine to_mv rfl rfl ?_
      refine to_gt rfl rfl ?_
      refine to_neq rfl rfl rfl ?_
      refine to_fix (s := 259) (b' := true) rfl (rfl) ?_
      refine to_gt rfl rfl ?_
      refine to_mv rfl rfl ?_
      refine to_gf rfl rfl rfl rfl ?_
      refine to_gf rfl rfl rfl rfl ?_
      refine to_gf rfl rfl rfl rfl ?_
      refine to_gt rfl rfl ?_
      refine to_pkT rfl rfl rfl ?_
      refine to_pkT rfl rfl rfl ?_
      refine to_mv rfl rfl ?_
      refine to_gt rfl rfl ?_
      refine to_call0 rfl rfl (fun w s => law_known w (gl_up hg (belowH_of s))) rfl ?_
      refine to_pkT rfl rfl rfl ?_
      refine to_as rfl rfl ?_
      refine to_nil ?_
      refine tn_code ?_
      refine t_ret1 rfl rfl (res_tmp rfl) (fun w' s => ?_)
      rfl
    · try simp only [decide_eq_true_eq, decide_eq_false_iff_not, Bool.not_eq_true', Bool.not_eq_false', Int.not_lt, Int.not_le, ne_eq, Decidable.not_not] at h3
      try have h3b := inB_iff.1 h3
      refine to_gf rfl rfl rfl rfl ?_
      refine to_gf rfl rfl rfl rfl ?_
      refine to_gf rfl rfl rfl rfl ?_
      refine to_gt rfl rfl ?_
      refine to_pkF rfl rfl rfl ?_
      refine to_gt rfl rfl ?_
      refine to_bne rfl rfl (by kernel_rfl) rfl ?_
      refine to_fix (s := 248) (b' := false) rfl (rfl) ?_
      refine to_pkF rfl rfl rfl ?_
      refine to_nil ?_
      refine tn_code ?_
      refine t_ifF rfl ?_
      refine t_skip ?_
      refine tn_code ?_
      refine t_seq ?_
      refine t_reg ?_
      refine to_mv rfl rfl ?_
      refine to_neq rfl rfl rfl ?_
      refine to_fix (s := 251) (b' := false) rfl (rfl) ?_
      refine to_mv rfl rfl ?_
      refine to_gt rfl rfl ?_
      refine to_mv rfl rfl ?_
      refine to_gt rfl rfl ?_
      refine to_mv rfl rfl ?_
      refine to_gt rfl rfl ?_
      refine to_neq rfl rfl rfl ?_
      refine to_fix (s := 255) (b' := true) rfl (by simp; omega) ?_
      refine to_pkF rfl rfl rfl ?_
      refine to_mv rfl rfl ?_
      refine to_gt rfl rfl ?_
      refine to_mv rfl rfl ?_
      refine to_gt rfl rfl ?_
      refine to_neq rfl rfl rfl ?_
      refine to_fix (s := 259) (b' := true) rfl (rfl) ?_
      refine to_gt rfl rfl ?_
      refine to_mv rfl rfl ?_
      refine to_gf rfl rfl rfl rfl ?_
      refine to_gf rfl rfl rfl rfl ?_
      refine to_gf rfl rfl rfl rfl ?_
      refine to_gt rfl rfl ?_
      refine to_pkT rfl rfl rfl ?_
      refine to_pkT rfl rfl rfl ?_
      refine to_mv rfl rfl ?_
      refine to_gt rfl rfl ?_
      refine to_call0 rfl rfl (fun w s => law_known w (gl_up hg (belowH_of s))) rfl ?_
      refine to_pkT rfl rfl rfl ?_
      refine to_as rfl rfl ?_
      refine to_nil ?_
      refine tn_code ?_
      refine t_ret1 rfl rfl (res_tmp rfl) (fun w' s => ?_)
      rfl

set_option maxRecDepth 20000 in
theorem w_RoundTrue_w2 (sh : Sh) (pt : Pt) (gd : Int) (t : List Int) (ta : Option Addr) (tc : Nat) (row fg : Int) (w : World) (hre : Ro w 0 w.heap.size pt.ea sh.errs.length pt.ec 1 (ints sh.errs)) (hrr : Ro w 0 w.heap.size pt.ra sh.rows.length pt.rc 1 (ints sh.rows)) (hrl : Ro w 0 w.heap.size ta t.length tc 1 (ints t)) (hs : isSh sh = true) (k : Nat) (e : Int) (hgk : gd = (k : Int)) (he : sh.errs[k]? = some e) (hsl7 : decide (t.length ≤ 7) = true) (htr : truK e sh.rows t = true) (i : Nat) (r : Int) (hri : row = (i : Int)) (hr : sh.rows[i]? = some r) (n : Int) (hn : t[i]? = some n) (hin : inB fg (fig sh (r - e)) (fig sh (r + e)) = true) (hlt : fig sh (r - e) < fig sh (r + e)) (hg : Gl w) : Calls Tryz.prog 6 #[shV sh pt, (.int .i64 gd), .slice ta t.length tc, (.int .i64 row), (.int .i64 fg)] w (RetV w (.bool true)) := by
  subst hgk
  have heb := errs_b (isSh_e hs) e (List.mem_of_getElem? he)
  have hbb := isSh_b hs
  have hxe := map_get (f := intC) he
  have hke := (List.getElem?_eq_some_iff.1 he).1
  have hok := okG_t hs he
  subst hri
  have hrt := row_ok hr
  have hrb := isSh_r hs (List.mem_of_getElem? hr)
  have hxr := map_get (f := intC) hr
  have hir := (List.getElem?_eq_some_iff.1 hr).1
  have htl := truK_len htr
  have hbl := bnd_len sh e
  have hfl := fig_len sh e
  have hxn := map_get (f := intC) hn
  have hxb := bnd_get (e := e) hr
  have hxf := figL_get (e := e) hr
  have hnr := tru_get htr hn hr
  have hm1 := fig_mono hs hnr.1
  have hm2 := fig_mono hs hnr.2
  have hm3 := fig_mono hs (show r - e ≤ r + e by omega)
  have hw := word_2 (x := (fig sh (r - e), fig sh (r + e))) hin hlt
  have hinb := inB_iff.1 hin
  refine calls_T0 (av := [_, _, _, _, _]) Tryz.func6 rfl rfl rfl ?_
  refine t_seq ?_
  refine t_reg ?_
  refine to_box rfl rfl (fun b5 => ?_)
  refine to_as rfl rfl ?_
  refine to_nil ?_
  refine tn_code ?_
  refine t_seq ?_
  refine t_seq ?_
  refine t_reg ?_
  first | refine to_lda rfl rfl rfl ?_ | refine to_ldea rfl (by assumption) rfl rfl ?_
  refine to_mv rfl rfl ?_
  refine to_call0 rfl rfl (fun w s => law_right sh pt _ w (rdw s) (rdw s)) rfl ?_
  refine to_fix (s := 27) (b' := true) rfl (hok) ?_
  refine to_not rfl rfl ?_
  refine to_mv rfl rfl ?_
  refine to_gt rfl rfl ?_
  refine to_mv rfl rfl ?_
  refine to_gt rfl rfl ?_
  refine to_call0 rfl rfl (fun w s => law_slim t _ _ w) rfl ?_
  refine to_fix (s := 31) (b' := true) rfl (hsl7) ?_
  refine to_gt rfl rfl ?_
  refine to_not rfl rfl ?_
  refine to_pkF rfl rfl rfl ?_
  refine to_mv rfl rfl ?_
  refine to_gt rfl rfl ?_
  first | refine to_lda rfl rfl rfl ?_ | refine to_ldea rfl (by assumption) rfl rfl ?_
  refine to_gt rfl rfl ?_
  refine to_mv rfl rfl ?_
  refine to_gt rfl rfl ?_
  refine to_mv rfl rfl ?_
  refine to_gt rfl rfl ?_
  refine to_call0 rfl rfl (fun w s => ref_Truth sh pt k e t _ _ w (rdw s) (rdw s) hs he (rdw s)) rfl ?_
  refine to_fix (s := 38) (b' := true) rfl (htr) ?_
  refine to_gt rfl rfl ?_
  refine to_not rfl rfl ?_
  refine to_pkF rfl rfl rfl ?_
  refine to_mv rfl rfl ?_
  refine to_gt rfl rfl ?_
  first | refine to_lda rfl rfl rfl ?_ | refine to_ldea rfl (by assumption) rfl rfl ?_
  refine to_gt rfl rfl ?_
  refine to_mv rfl rfl ?_
  refine to_gt rfl rfl ?_
  refine to_call0 rfl rfl (fun w s => ref_Row sh pt _ w (by omega)) rfl ?_
  refine to_fix (s := 44) (b' := true) rfl (hrt) ?_
  refine to_gt rfl rfl ?_
  refine to_not rfl rfl ?_
  refine to_pkF rfl rfl rfl ?_
  refine to_nil ?_
  refine tn_code ?_
  refine t_ifF rfl ?_
  refine t_skip ?_
  refine tn_code ?_
  refine t_seq ?_
  refine t_reg ?_
  first | refine to_lda rfl rfl rfl ?_ | refine to_ldea rfl (by assumption) rfl rfl ?_
  refine to_mv rfl rfl ?_
  refine to_callR rfl rfl (fun w s => r_Bounds_t sh pt k e w (rdw s) (rdw s) hs he) rfl (fun v51 lo51 w51 hlo51 hR51 => ?_)
  obtain ⟨pa51, pc51, rfl, hro51⟩ := hR51
  rw [hbl] at *
  refine to_mv rfl rfl ?_
  refine to_ex rfl rfl rfl ?_
  refine to_ex rfl rfl rfl ?_
  refine to_as rfl rfl ?_
  refine to_as rfl rfl ?_
  refine to_nil ?_
  refine tn_code ?_
  refine t_seq ?_
  refine t_reg ?_
  first | refine to_lda rfl rfl rfl ?_ | refine to_ldea rfl (by assumption) rfl rfl ?_
  refine to_mv rfl rfl ?_
  refine to_callR rfl rfl (fun w s => r_Figures_t sh pt k e w (rdw s) (rdw s) hs he) rfl (fun v57 lo57 w57 hlo57 hR57 => ?_)
  obtain ⟨pa57, pc57, rfl, hro57⟩ := hR57
  rw [hfl] at *
  refine to_mv rfl rfl ?_
  refine to_ex rfl rfl rfl ?_
  refine to_ex rfl rfl rfl ?_
  refine to_as rfl rfl ?_
  refine to_as rfl rfl ?_
  refine to_nil ?_
  refine tn_code ?_
  refine t_seq ?_
  refine t_reg ?_
  first | refine to_lda rfl rfl rfl ?_ | refine to_ldea rfl (by assumption) rfl rfl ?_
  refine to_mv rfl rfl ?_
  refine to_callR rfl rfl (fun w s => r_Sure_t sh pt k e w (rdw s) (rdw s) hs he) rfl (fun v63 lo63 w63 hlo63 hR63 => ?_)
  obtain ⟨pa63, pc63, rfl, hro63⟩ := hR63
  refine to_mv rfl rfl ?_
  refine to_ex rfl rfl rfl ?_
  refine to_ex rfl rfl rfl ?_
  refine to_as rfl rfl ?_
  refine to_as rfl rfl ?_
  refine to_nil ?_
  refine tn_code ?_
  refine t_seq ?_
  refine t_reg ?_
  first | refine to_lda rfl rfl rfl ?_ | refine to_ldea rfl (by assumption) rfl rfl ?_
  refine to_mv rfl rfl ?_
  refine to_mv rfl rfl ?_
  refine to_mv rfl rfl ?_
  refine to_call0 rfl rfl (fun w s => c_Word (rdw s) (rdw s) hs he hr hw) rfl ?_
  refine to_mv rfl rfl ?_
  refine to_ex rfl rfl rfl ?_
  refine to_ex rfl rfl rfl ?_
  refine to_as rfl rfl ?_
  refine to_as rfl rfl ?_
  refine to_nil ?_
  refine tn_code ?_
  refine t_seq ?_
  refine t_regD rfl (by kernel_rfl) (by kernel_rfl) ?_
  first | refine to_lda rfl rfl rfl ?_ | refine to_ldea rfl (by assumption) rfl rfl ?_
  refine to_mv rfl rfl ?_
  refine to_mv rfl rfl ?_
  first | refine to_ix rfl rfl rfl (by first | omega | decide) (by first | omega | decide) rfl ?_ | refine to_ixi rfl rfl rfl (by omega) (by omega) (by omega) rfl ?_
  first | refine to_lds rfl rfl rfl ?_ | refine to_ldes rfl (by assumption) rfl rfl ?_
  refine to_call0 rfl rfl (fun w s => law_to sh pt n w hs (by omega)) rfl ?_
  refine to_mv rfl rfl ?_
  refine to_ex rfl rfl rfl ?_
  refine to_ex rfl rfl rfl ?_
  refine to_fix (s := 82) (b' := true) rfl (rfl) ?_
  refine to_as rfl rfl ?_
  refine to_as rfl rfl ?_
  refine to_nil ?_
  refine tn_code ?_
  refine t_seq ?_
  refine t_seq ?_
  refine t_regD rfl (by kernel_rfl) (by kernel_rfl) ?_
  refine to_mv rfl rfl ?_
  refine to_neq rfl rfl rfl ?_
  refine to_fix (s := 84) (b' := false) rfl (rfl) ?_
  refine to_mv rfl rfl ?_
  refine to_gt rfl rfl ?_
  refine to_mv rfl rfl ?_
  refine to_gt rfl rfl ?_
  refine to_neq rfl rfl rfl ?_
  refine to_fix (s := 87) (b' := false) rfl (rfl) ?_
  refine to_pkF rfl rfl rfl ?_
  refine to_mv rfl rfl ?_
  refine to_gt rfl rfl ?_
  refine to_mv rfl rfl ?_
  refine to_gt rfl rfl ?_
  refine to_neq rfl rfl rfl ?_
  refine to_fix (s := 91) (b' := false) rfl (rfl) ?_
  refine to_pkF rfl rfl rfl ?_
  refine to_mv rfl rfl ?_
  refine to_gt rfl rfl ?_
  refine to_mv rfl rfl ?_
  refine to_gt rfl rfl ?_
  refine to_neq rfl rfl rfl ?_
  refine to_fix (s := 95) (b' := false) rfl (rfl) ?_
  refine to_pkF rfl rfl rfl ?_
  refine to_mv rfl rfl ?_
  refine to_gt rfl rfl ?_
  refine to_mv rfl rfl ?_
  refine to_gt rfl rfl ?_
  refine to_not rfl rfl ?_
  refine to_pkF rfl rfl rfl ?_
  refine to_mv rfl rfl ?_
  refine to_gt rfl rfl ?_
  refine to_mv rfl rfl ?_
  refine to_gt rfl rfl ?_
  refine to_lenS rfl rfl ?_
  refine to_gt rfl rfl ?_
  refine to_mv rfl rfl ?_
  refine to_gt rfl rfl ?_
  refine to_lenS rfl rfl ?_
  refine to_gt rfl rfl ?_
  refine to_neq rfl rfl rfl ?_
  refine to_fix (s := 106) (b' := false) rfl (by simp; omega) ?_
  refine to_pkF rfl rfl rfl ?_
  refine to_mv rfl rfl ?_
  refine to_gt rfl rfl ?_
  refine to_mv rfl rfl ?_
  refine to_gt rfl rfl ?_
  refine to_lenS rfl rfl ?_
  refine to_gt rfl rfl ?_
  refine to_mv rfl rfl ?_
  refine to_gt rfl rfl ?_
  refine to_lenS rfl rfl ?_
  refine to_gt rfl rfl ?_
  refine to_neq rfl rfl rfl ?_
  refine to_fix (s := 113) (b' := false) rfl (by simp; omega) ?_
  refine to_pkF rfl rfl rfl ?_
  refine to_mv rfl rfl ?_
  refine to_gt rfl rfl ?_
  refine to_mv rfl rfl ?_
  refine to_gt rfl rfl ?_
  refine to_mv rfl rfl ?_
  refine to_gt rfl rfl ?_
  first | refine to_ix rfl rfl rfl (by first | omega | decide) (by first | omega | decide) rfl ?_ | refine to_ixi rfl rfl rfl (by omega) (by omega) (by omega) rfl ?_
  refine to_gt rfl rfl ?_
  first | refine to_lds rfl rfl rfl ?_ | refine to_ldes rfl (by assumption) rfl rfl ?_
  refine to_gt rfl rfl ?_
  refine to_mv rfl rfl ?_
  refine to_gt rfl rfl ?_
  refine to_mv rfl rfl ?_
  refine to_gt rfl rfl ?_
  first | refine to_ix rfl rfl rfl (by first | omega | decide) (by first | omega | decide) rfl ?_ | refine to_ixi rfl rfl rfl (by omega) (by omega) (by omega) rfl ?_
  refine to_gt rfl rfl ?_
  first | refine to_fa rfl rfl rfl (by simp only [Nat.reduceAdd]; rfl) rfl ?_ | refine to_fae rfl rfl rfl (by simp only [Nat.reduceAdd]; rfl) rfl ?_
  refine to_gt rfl rfl ?_
  first | refine to_lds rfl rfl rfl ?_ | refine to_ldes rfl (by assumption) rfl rfl ?_
  refine to_gt rfl rfl ?_
  refine to_lss rfl rfl rfl ?_
  refine to_fix (s := 125) (b' := false) rfl (decide_eq_false (by omega)) ?_
  refine to_pkF rfl rfl rfl ?_
  refine to_mv rfl rfl ?_
  refine to_gt rfl rfl ?_
  refine to_mv rfl rfl ?_
  refine to_gt rfl rfl ?_
  refine to_mv rfl rfl ?_
  refine to_gt rfl rfl ?_
  first | refine to_ix rfl rfl rfl (by first | omega | decide) (by first | omega | decide) rfl ?_ | refine to_ixi rfl rfl rfl (by omega) (by omega) (by omega) rfl ?_
  refine to_gt rfl rfl ?_
  first | refine to_lds rfl rfl rfl ?_ | refine to_ldes rfl (by assumption) rfl rfl ?_
  refine to_gt rfl rfl ?_
  refine to_mv rfl rfl ?_
  refine to_gt rfl rfl ?_
  refine to_mv rfl rfl ?_
  refine to_gt rfl rfl ?_
  first | refine to_ix rfl rfl rfl (by first | omega | decide) (by first | omega | decide) rfl ?_ | refine to_ixi rfl rfl rfl (by omega) (by omega) (by omega) rfl ?_
  refine to_gt rfl rfl ?_
  first | refine to_fa rfl rfl rfl (by simp only [Nat.reduceAdd]; rfl) rfl ?_ | refine to_fae rfl rfl rfl (by simp only [Nat.reduceAdd]; rfl) rfl ?_
  refine to_gt rfl rfl ?_
  first | refine to_lds rfl rfl rfl ?_ | refine to_ldes rfl (by assumption) rfl rfl ?_
  refine to_gt rfl rfl ?_
  refine to_gtr rfl rfl rfl ?_
  refine to_fix (s := 137) (b' := false) rfl (decide_eq_false (by omega)) ?_
  refine to_pkF rfl rfl rfl ?_
  refine to_mv rfl rfl ?_
  refine to_gt rfl rfl ?_
  refine to_mv rfl rfl ?_
  refine to_gt rfl rfl ?_
  refine to_mv rfl rfl ?_
  refine to_gt rfl rfl ?_
  refine to_mv rfl rfl ?_
  refine to_gt rfl rfl ?_
  first | refine to_ix rfl rfl rfl (by first | omega | decide) (by first | omega | decide) rfl ?_ | refine to_ixi rfl rfl rfl (by omega) (by omega) (by omega) rfl ?_
  refine to_gt rfl rfl ?_
  first | refine to_fa rfl rfl rfl (by simp only [Nat.reduceAdd]; rfl) rfl ?_ | refine to_fae rfl rfl rfl (by simp only [Nat.reduceAdd]; rfl) rfl ?_
  refine to_gt rfl rfl ?_
  first | refine to_lds rfl rfl rfl ?_ | refine to_ldes rfl (by assumption) rfl rfl ?_
  refine to_gt rfl rfl ?_
  refine to_lss rfl rfl rfl ?_
  refine to_fix (s := 146) (b' := false) rfl (decide_eq_false (by omega)) ?_
  refine to_pkF rfl rfl rfl ?_
  refine to_mv rfl rfl ?_
  refine to_gt rfl rfl ?_
  refine to_mv rfl rfl ?_
  refine to_gt rfl rfl ?_
  refine to_mv rfl rfl ?_
  refine to_gt rfl rfl ?_
  refine to_mv rfl rfl ?_
  refine to_gt rfl rfl ?_
  first | refine to_ix rfl rfl rfl (by first | omega | decide) (by first | omega | decide) rfl ?_ | refine to_ixi rfl rfl rfl (by omega) (by omega) (by omega) rfl ?_
  refine to_gt rfl rfl ?_
  first | refine to_fa rfl rfl rfl (by simp only [Nat.reduceAdd]; rfl) rfl ?_ | refine to_fae rfl rfl rfl (by simp only [Nat.reduceAdd]; rfl) rfl ?_
  refine to_gt rfl rfl ?_
  first | refine to_lds rfl rfl rfl ?_ | refine to_ldes rfl (by assumption) rfl rfl ?_
  refine to_gt rfl rfl ?_
  refine to_gtr rfl rfl rfl ?_
  refine to_fix (s := 155) (b' := false) rfl (decide_eq_false (by omega)) ?_
  refine to_pkF rfl rfl rfl ?_
  refine to_nil ?_
  refine tn_code ?_
  refine t_ifF rfl ?_
  refine t_skip ?_
  refine tn_code ?_
  refine t_seq ?_
  refine t_seq ?_
  refine t_reg ?_
  refine to_mv rfl rfl ?_
  refine to_mv rfl rfl ?_
  first | refine to_ix rfl rfl rfl (by first | omega | decide) (by first | omega | decide) rfl ?_ | refine to_ixi rfl rfl rfl (by omega) (by omega) (by omega) rfl ?_
  first | refine to_fa rfl rfl rfl (by simp only [Nat.reduceAdd]; rfl) rfl ?_ | refine to_fae rfl rfl rfl (by simp only [Nat.reduceAdd]; rfl) rfl ?_
  first | refine to_lds rfl rfl rfl ?_ | refine to_ldes rfl (by assumption) rfl rfl ?_
  refine to_call0 rfl rfl (fun w s => ref_Value (r - e) w) rfl ?_
  refine to_fix (s := 162) (b' := true) rfl (inB_iff.2 (by omega)) ?_
  refine to_not rfl rfl ?_
  refine to_mv rfl rfl ?_
  refine to_gt rfl rfl ?_
  refine to_mv rfl rfl ?_
  refine to_gt rfl rfl ?_
  refine to_mv rfl rfl ?_
  refine to_gt rfl rfl ?_
  first | refine to_ix rfl rfl rfl (by first | omega | decide) (by first | omega | decide) rfl ?_ | refine to_ixi rfl rfl rfl (by omega) (by omega) (by omega) rfl ?_
  refine to_gt rfl rfl ?_
  first | refine to_fa rfl rfl rfl (by simp only [Nat.reduceAdd]; rfl) rfl ?_ | refine to_fae rfl rfl rfl (by simp only [Nat.reduceAdd]; rfl) rfl ?_
  refine to_gt rfl rfl ?_
  first | refine to_lds rfl rfl rfl ?_ | refine to_ldes rfl (by assumption) rfl rfl ?_
  refine to_gt rfl rfl ?_
  refine to_call0 rfl rfl (fun w s => ref_Value (r + e) w) rfl ?_
  refine to_fix (s := 170) (b' := true) rfl (inB_iff.2 (by omega)) ?_
  refine to_gt rfl rfl ?_
  refine to_not rfl rfl ?_
  refine to_pkF rfl rfl rfl ?_
  refine to_nil ?_
  refine tn_code ?_
  refine t_ifF rfl ?_
  refine t_skip ?_
  refine tn_code ?_
  refine t_seq ?_
  refine t_regD rfl (by kernel_rfl) (by kernel_rfl) ?_
  first | refine to_lda rfl rfl rfl ?_ | refine to_ldea rfl (by assumption) rfl rfl ?_
  refine to_mv rfl rfl ?_
  refine to_mv rfl rfl ?_
  first | refine to_ix rfl rfl rfl (by first | omega | decide) (by first | omega | decide) rfl ?_ | refine to_ixi rfl rfl rfl (by omega) (by omega) (by omega) rfl ?_
  first | refine to_fa rfl rfl rfl (by simp only [Nat.reduceAdd]; rfl) rfl ?_ | refine to_fae rfl rfl rfl (by simp only [Nat.reduceAdd]; rfl) rfl ?_
  first | refine to_lds rfl rfl rfl ?_ | refine to_ldes rfl (by assumption) rfl rfl ?_
  refine to_call0 rfl rfl (fun w s => law_to sh pt (r - e) w hs (by omega)) rfl ?_
  refine to_mv rfl rfl ?_
  refine to_ex rfl rfl rfl ?_
  refine to_ex rfl rfl rfl ?_
  refine to_fix (s := 182) (b' := true) rfl (rfl) ?_
  refine to_as rfl rfl ?_
  refine to_as rfl rfl ?_
  refine to_nil ?_
  refine tn_code ?_
  refine t_seq ?_
  refine t_regD rfl (by kernel_rfl) (by kernel_rfl) ?_
  first | refine to_lda rfl rfl rfl ?_ | refine to_ldea rfl (by assumption) rfl rfl ?_
  refine to_mv rfl rfl ?_
  refine to_mv rfl rfl ?_
  first | refine to_ix rfl rfl rfl (by first | omega | decide) (by first | omega | decide) rfl ?_ | refine to_ixi rfl rfl rfl (by omega) (by omega) (by omega) rfl ?_
  first | refine to_fa rfl rfl rfl (by simp only [Nat.reduceAdd]; rfl) rfl ?_ | refine to_fae rfl rfl rfl (by simp only [Nat.reduceAdd]; rfl) rfl ?_
  first | refine to_lds rfl rfl rfl ?_ | refine to_ldes rfl (by assumption) rfl rfl ?_
  refine to_call0 rfl rfl (fun w s => law_to sh pt (r + e) w hs (by omega)) rfl ?_
  refine to_mv rfl rfl ?_
  refine to_ex rfl rfl rfl ?_
  refine to_ex rfl rfl rfl ?_
  refine to_fix (s := 192) (b' := true) rfl (rfl) ?_
  refine to_as rfl rfl ?_
  refine to_as rfl rfl ?_
  refine to_nil ?_
  refine tn_code ?_
  refine t_seq ?_
  refine t_seq ?_
  refine t_regD rfl (by kernel_rfl) (by kernel_rfl) ?_
  refine to_mv rfl rfl ?_
  refine to_not rfl rfl ?_
  refine to_mv rfl rfl ?_
  refine to_gt rfl rfl ?_
  refine to_mv rfl rfl ?_
  refine to_gt rfl rfl ?_
  refine to_not rfl rfl ?_
  refine to_pkF rfl rfl rfl ?_
  refine to_mv rfl rfl ?_
  refine to_gt rfl rfl ?_
  refine to_mv rfl rfl ?_
  refine to_gt rfl rfl ?_
  refine to_mv rfl rfl ?_
  refine to_gt rfl rfl ?_
  first | refine to_ix rfl rfl rfl (by first | omega | decide) (by first | omega | decide) rfl ?_ | refine to_ixi rfl rfl rfl (by omega) (by omega) (by omega) rfl ?_
  refine to_gt rfl rfl ?_
  first | refine to_lda rfl rfl rfl ?_ | refine to_ldea rfl (by assumption) rfl rfl ?_
  refine to_gt rfl rfl ?_
  refine to_mv rfl rfl ?_
  refine to_gt rfl rfl ?_
  refine to_mv rfl rfl ?_
  refine to_gt rfl rfl ?_
  refine to_call0 rfl rfl (fun w s => law_span _ _ w) rfl ?_
  refine to_gt rfl rfl ?_
  refine to_nes rfl rfl rfl rfl rfl rfl rfl ?_
  refine to_fix (s := 207) (b' := false) rfl (by rw [ieq_refl (isI_span _)]; rfl) ?_
  refine to_pkF rfl rfl rfl ?_
  refine to_mv rfl rfl ?_
  refine to_gt rfl rfl ?_
  refine to_mv rfl rfl ?_
  refine to_gt rfl rfl ?_
  refine to_mv rfl rfl ?_
  refine to_gt rfl rfl ?_
  refine to_call0 rfl rfl (fun w s => ref_Listed (sureL sh e) _ _ _ w (rdw s) (by have h9 := sureK_len sh e sh.rows.length; simp only [sureL]; omega)) rfl ?_
  refine to_gt rfl rfl ?_
  refine to_mv rfl rfl ?_
  refine to_gt rfl rfl ?_
  refine to_mv rfl rfl ?_
  refine to_gt rfl rfl ?_
  refine to_eql rfl rfl rfl ?_
  refine to_gt rfl rfl ?_
  refine to_bne rfl rfl (by kernel_rfl) rfl ?_
  refine to_fix (s := 216) (b' := false) rfl (by rw [sure_has hr]; simp) ?_
  refine to_pkF rfl rfl rfl ?_
  refine to_nil ?_
  refine tn_code ?_
  refine t_ifF rfl ?_
  refine t_skip ?_
  refine tn_code ?_
  refine t_seq ?_
  refine t_seq ?_
  refine t_reg ?_
  refine to_mv rfl rfl ?_
  refine to_lss rfl rfl rfl ?_
  refine to_fix (s := 219) (b' := false) rfl (rfl) ?_
  refine to_mv rfl rfl ?_
  refine to_gt rfl rfl ?_
  refine to_mv rfl rfl ?_
  refine to_gt rfl rfl ?_
  refine to_gtr rfl rfl rfl ?_
  refine to_fix (s := 222) (b' := false) rfl (rfl) ?_
  refine to_pkF rfl rfl rfl ?_
  refine to_mv rfl rfl ?_
  refine to_gt rfl rfl ?_
  refine to_mv rfl rfl ?_
  refine to_gt rfl rfl ?_
  refine to_eql rfl rfl rfl ?_
  refine to_fix (s := 226) (b' := false) rfl (rfl) ?_
  refine to_gt rfl rfl ?_
  refine to_mv rfl rfl ?_
  refine to_gt rfl rfl ?_
  refine to_mv rfl rfl ?_
  refine to_gt rfl rfl ?_
  refine to_lss rfl rfl rfl ?_
  refine to_fix (s := 229) (b' := false) rfl (decide_eq_false (by omega)) ?_
  refine to_gt rfl rfl ?_
  refine to_mv rfl rfl ?_
  refine to_gt rfl rfl ?_
  refine to_mv rfl rfl ?_
  refine to_gt rfl rfl ?_
  refine to_mv rfl rfl ?_
  refine to_gt rfl rfl ?_
  refine to_gtr rfl rfl rfl ?_
  refine to_fix (s := 233) (b' := false) rfl (decide_eq_false (by omega)) ?_
  refine to_gt rfl rfl ?_
  refine to_pkF rfl rfl rfl ?_
  refine to_gt rfl rfl ?_
  refine to_bne rfl rfl (by kernel_rfl) rfl ?_
  refine to_fix (s := 235) (b' := false) rfl (rfl) ?_
  refine to_pkF rfl rfl rfl ?_
  refine to_mv rfl rfl ?_
  refine to_gt rfl rfl ?_
  refine to_mv rfl rfl ?_
  refine to_gt rfl rfl ?_
  refine to_eql rfl rfl rfl ?_
  refine to_fix (s := 239) (b' := false) rfl (rfl) ?_
  refine to_gt rfl rfl ?_
  refine to_mv rfl rfl ?_
  refine to_gt rfl rfl ?_
  refine to_mv rfl rfl ?_
  refine to_gt rfl rfl ?_
  refine to_eql rfl rfl rfl ?_
  refine to_fix (s := 242) (b' := false) rfl (decide_eq_false (by omega)) ?_
  refine to_gt rfl rfl ?_
  refine to_mv rfl rfl ?_
  refine to_gf rfl rfl rfl rfl ?_
  refine to_gf rfl rfl rfl rfl ?_
  refine to_gf rfl rfl rfl rfl ?_
  refine to_gt rfl rfl ?_
  refine to_pkF rfl rfl rfl ?_
  refine to_gt rfl rfl ?_
  refine to_bne rfl rfl (by kernel_rfl) rfl ?_
  refine to_fix (s := 248) (b' := false) rfl (rfl) ?_
  refine to_pkF rfl rfl rfl ?_
  refine to_nil ?_
  refine tn_code ?_
  refine t_ifF rfl ?_
  refine t_skip ?_
  refine tn_code ?_
  refine t_seq ?_
  refine t_reg ?_
  refine to_mv rfl rfl ?_
  refine to_neq rfl rfl rfl ?_
  refine to_fix (s := 251) (b' := true) rfl (rfl) ?_
  refine to_mv rfl rfl ?_
  refine to_gf rfl rfl rfl rfl ?_
  refine to_gf rfl rfl rfl rfl ?_
  refine to_gf rfl rfl rfl rfl ?_
  refine to_pkT rfl rfl rfl ?_
  refine to_mv rfl rfl ?_
  refine to_gt rfl rfl ?_
  refine to_mv rfl rfl ?_
  refine to_gt rfl rfl ?_
  refine to_neq rfl rfl rfl ?_
  refine to_fix (s := 259) (b' := true) rfl (rfl) ?_
  refine to_gt rfl rfl ?_
  refine to_mv rfl rfl ?_
  refine to_gf rfl rfl rfl rfl ?_
  refine to_gf rfl rfl rfl rfl ?_
  refine to_gf rfl rfl rfl rfl ?_
  refine to_gt rfl rfl ?_
  refine to_pkT rfl rfl rfl ?_
  refine to_pkT rfl rfl rfl ?_
  refine to_mv rfl rfl ?_
  refine to_gt rfl rfl ?_
  refine to_call0 rfl rfl (fun w s => law_known w (gl_up hg (belowH_of s))) rfl ?_
  refine to_pkT rfl rfl rfl ?_
  refine to_as rfl rfl ?_
  refine to_nil ?_
  refine tn_code ?_
  refine t_ret1 rfl rfl (res_tmp rfl) (fun w' s => ?_)
  rfl

set_option maxRecDepth 20000 in
theorem w_RoundTrue_w3 (sh : Sh) (pt : Pt) (gd : Int) (t : List Int) (ta : Option Addr) (tc : Nat) (row fg : Int) (w : World) (hre : Ro w 0 w.heap.size pt.ea sh.errs.length pt.ec 1 (ints sh.errs)) (hrr : Ro w 0 w.heap.size pt.ra sh.rows.length pt.rc 1 (ints sh.rows)) (hrl : Ro w 0 w.heap.size ta t.length tc 1 (ints t)) (hs : isSh sh = true) (k : Nat) (e : Int) (hgk : gd = (k : Int)) (he : sh.errs[k]? = some e) (hsl7 : decide (t.length ≤ 7) = true) (htr : truK e sh.rows t = true) (i : Nat) (r : Int) (hri : row = (i : Int)) (hr : sh.rows[i]? = some r) (n : Int) (hn : t[i]? = some n) (hin : inB fg (fig sh (r - e)) (fig sh (r + e)) = true) (hlt : ¬ fig sh (r - e) < fig sh (r + e)) (hg : Gl w) : Calls Tryz.prog 6 #[shV sh pt, (.int .i64 gd), .slice ta t.length tc, (.int .i64 row), (.int .i64 fg)] w (RetV w (.bool true)) := by
  subst hgk
  have heb := errs_b (isSh_e hs) e (List.mem_of_getElem? he)
  have hbb := isSh_b hs
  have hxe := map_get (f := intC) he
  have hke := (List.getElem?_eq_some_iff.1 he).1
  have hok := okG_t hs he
  subst hri
  have hrt := row_ok hr
  have hrb := isSh_r hs (List.mem_of_getElem? hr)
  have hxr := map_get (f := intC) hr
  have hir := (List.getElem?_eq_some_iff.1 hr).1
  have htl := truK_len htr
  have hbl := bnd_len sh e
  have hfl := fig_len sh e
  have hxn := map_get (f := intC) hn
  have hxb := bnd_get (e := e) hr
  have hxf := figL_get (e := e) hr
  have hnr := tru_get htr hn hr
  have hm1 := fig_mono hs hnr.1
  have hm2 := fig_mono hs hnr.2
  have hm3 := fig_mono hs (show r - e ≤ r + e by omega)
  have hw := word_3 (x := (fig sh (r - e), fig sh (r + e))) hin hlt
  have hinb := inB_iff.1 hin
  refine calls_T0 (av := [_, _, _, _, _]) Tryz.func6 rfl rfl rfl ?_
  refine t_seq ?_
  refine t_reg ?_
  refine to_box rfl rfl (fun b5 => ?_)
  refine to_as rfl rfl ?_
  refine to_nil ?_
  refine tn_code ?_
  refine t_seq ?_
  refine t_seq ?_
  refine t_reg ?_
  first | refine to_lda rfl rfl rfl ?_ | refine to_ldea rfl (by assumption) rfl rfl ?_
  refine to_mv rfl rfl ?_
  refine to_call0 rfl rfl (fun w s => law_right sh pt _ w (rdw s) (rdw s)) rfl ?_
  refine to_fix (s := 27) (b' := true) rfl (hok) ?_
  refine to_not rfl rfl ?_
  refine to_mv rfl rfl ?_
  refine to_gt rfl rfl ?_
  refine to_mv rfl rfl ?_
  refine to_gt rfl rfl ?_
  refine to_call0 rfl rfl (fun w s => law_slim t _ _ w) rfl ?_
  refine to_fix (s := 31) (b' := true) rfl (hsl7) ?_
  refine to_gt rfl rfl ?_
  refine to_not rfl rfl ?_
  refine to_pkF rfl rfl rfl ?_
  refine to_mv rfl rfl ?_
  refine to_gt rfl rfl ?_
  first | refine to_lda rfl rfl rfl ?_ | refine to_ldea rfl (by assumption) rfl rfl ?_
  refine to_gt rfl rfl ?_
  refine to_mv rfl rfl ?_
  refine to_gt rfl rfl ?_
  refine to_mv rfl rfl ?_
  refine to_gt rfl rfl ?_
  refine to_call0 rfl rfl (fun w s => ref_Truth sh pt k e t _ _ w (rdw s) (rdw s) hs he (rdw s)) rfl ?_
  refine to_fix (s := 38) (b' := true) rfl (htr) ?_
  refine to_gt rfl rfl ?_
  refine to_not rfl rfl ?_
  refine to_pkF rfl rfl rfl ?_
  refine to_mv rfl rfl ?_
  refine to_gt rfl rfl ?_
  first | refine to_lda rfl rfl rfl ?_ | refine to_ldea rfl (by assumption) rfl rfl ?_
  refine to_gt rfl rfl ?_
  refine to_mv rfl rfl ?_
  refine to_gt rfl rfl ?_
  refine to_call0 rfl rfl (fun w s => ref_Row sh pt _ w (by omega)) rfl ?_
  refine to_fix (s := 44) (b' := true) rfl (hrt) ?_
  refine to_gt rfl rfl ?_
  refine to_not rfl rfl ?_
  refine to_pkF rfl rfl rfl ?_
  refine to_nil ?_
  refine tn_code ?_
  refine t_ifF rfl ?_
  refine t_skip ?_
  refine tn_code ?_
  refine t_seq ?_
  refine t_reg ?_
  first | refine to_lda rfl rfl rfl ?_ | refine to_ldea rfl (by assumption) rfl rfl ?_
  refine to_mv rfl rfl ?_
  refine to_callR rfl rfl (fun w s => r_Bounds_t sh pt k e w (rdw s) (rdw s) hs he) rfl (fun v51 lo51 w51 hlo51 hR51 => ?_)
  obtain ⟨pa51, pc51, rfl, hro51⟩ := hR51
  rw [hbl] at *
  refine to_mv rfl rfl ?_
  refine to_ex rfl rfl rfl ?_
  refine to_ex rfl rfl rfl ?_
  refine to_as rfl rfl ?_
  refine to_as rfl rfl ?_
  refine to_nil ?_
  refine tn_code ?_
  refine t_seq ?_
  refine t_reg ?_
  first | refine to_lda rfl rfl rfl ?_ | refine to_ldea rfl (by assumption) rfl rfl ?_
  refine to_mv rfl rfl ?_
  refine to_callR rfl rfl (fun w s => r_Figures_t sh pt k e w (rdw s) (rdw s) hs he) rfl (fun v57 lo57 w57 hlo57 hR57 => ?_)
  obtain ⟨pa57, pc57, rfl, hro57⟩ := hR57
  rw [hfl] at *
  refine to_mv rfl rfl ?_
  refine to_ex rfl rfl rfl ?_
  refine to_ex rfl rfl rfl ?_
  refine to_as rfl rfl ?_
  refine to_as rfl rfl ?_
  refine to_nil ?_
  refine tn_code ?_
  refine t_seq ?_
  refine t_reg ?_
  first | refine to_lda rfl rfl rfl ?_ | refine to_ldea rfl (by assumption) rfl rfl ?_
  refine to_mv rfl rfl ?_
  refine to_callR rfl rfl (fun w s => r_Sure_t sh pt k e w (rdw s) (rdw s) hs he) rfl (fun v63 lo63 w63 hlo63 hR63 => ?_)
  obtain ⟨pa63, pc63, rfl, hro63⟩ := hR63
  refine to_mv rfl rfl ?_
  refine to_ex rfl rfl rfl ?_
  refine to_ex rfl rfl rfl ?_
  refine to_as rfl rfl ?_
  refine to_as rfl rfl ?_
  refine to_nil ?_
  refine tn_code ?_
  refine t_seq ?_
  refine t_reg ?_
  first | refine to_lda rfl rfl rfl ?_ | refine to_ldea rfl (by assumption) rfl rfl ?_
  refine to_mv rfl rfl ?_
  refine to_mv rfl rfl ?_
  refine to_mv rfl rfl ?_
  refine to_call0 rfl rfl (fun w s => c_Word (rdw s) (rdw s) hs he hr hw) rfl ?_
  refine to_mv rfl rfl ?_
  refine to_ex rfl rfl rfl ?_
  refine to_ex rfl rfl rfl ?_
  refine to_as rfl rfl ?_
  refine to_as rfl rfl ?_
  refine to_nil ?_
  refine tn_code ?_
  refine t_seq ?_
  refine t_regD rfl (by kernel_rfl) (by kernel_rfl) ?_
  first | refine to_lda rfl rfl rfl ?_ | refine to_ldea rfl (by assumption) rfl rfl ?_
  refine to_mv rfl rfl ?_
  refine to_mv rfl rfl ?_
  first | refine to_ix rfl rfl rfl (by first | omega | decide) (by first | omega | decide) rfl ?_ | refine to_ixi rfl rfl rfl (by omega) (by omega) (by omega) rfl ?_
  first | refine to_lds rfl rfl rfl ?_ | refine to_ldes rfl (by assumption) rfl rfl ?_
  refine to_call0 rfl rfl (fun w s => law_to sh pt n w hs (by omega)) rfl ?_
  refine to_mv rfl rfl ?_
  refine to_ex rfl rfl rfl ?_
  refine to_ex rfl rfl rfl ?_
  refine to_fix (s := 82) (b' := true) rfl (rfl) ?_
  refine to_as rfl rfl ?_
  refine to_as rfl rfl ?_
  refine to_nil ?_
  refine tn_code ?_
  refine t_seq ?_
  refine t_seq ?_
  refine t_regD rfl (by kernel_rfl) (by kernel_rfl) ?_
  refine to_mv rfl rfl ?_
  refine to_neq rfl rfl rfl ?_
  refine to_fix (s := 84) (b' := false) rfl (rfl) ?_
  refine to_mv rfl rfl ?_
  refine to_gt rfl rfl ?_
  refine to_mv rfl rfl ?_
  refine to_gt rfl rfl ?_
  refine to_neq rfl rfl rfl ?_
  refine to_fix (s := 87) (b' := false) rfl (rfl) ?_
  refine to_pkF rfl rfl rfl ?_
  refine to_mv rfl rfl ?_
  refine to_gt rfl rfl ?_
  refine to_mv rfl rfl ?_
  refine to_gt rfl rfl ?_
  refine to_neq rfl rfl rfl ?_
  refine to_fix (s := 91) (b' := false) rfl (rfl) ?_
  refine to_pkF rfl rfl rfl ?_
  refine to_mv rfl rfl ?_
  refine to_gt rfl rfl ?_
  refine to_mv rfl rfl ?_
  refine to_gt rfl rfl ?_
  refine to_neq rfl rfl rfl ?_
  refine to_fix (s := 95) (b' := false) rfl (rfl) ?_
  refine to_pkF rfl rfl rfl ?_
  refine to_mv rfl rfl ?_
  refine to_gt rfl rfl ?_
  refine to_mv rfl rfl ?_
  refine to_gt rfl rfl ?_
  refine to_not rfl rfl ?_
  refine to_pkF rfl rfl rfl ?_
  refine to_mv rfl rfl ?_
  refine to_gt rfl rfl ?_
  refine to_mv rfl rfl ?_
  refine to_gt rfl rfl ?_
  refine to_lenS rfl rfl ?_
  refine to_gt rfl rfl ?_
  refine to_mv rfl rfl ?_
  refine to_gt rfl rfl ?_
  refine to_lenS rfl rfl ?_
  refine to_gt rfl rfl ?_
  refine to_neq rfl rfl rfl ?_
  refine to_fix (s := 106) (b' := false) rfl (by simp; omega) ?_
  refine to_pkF rfl rfl rfl ?_
  refine to_mv rfl rfl ?_
  refine to_gt rfl rfl ?_
  refine to_mv rfl rfl ?_
  refine to_gt rfl rfl ?_
  refine to_lenS rfl rfl ?_
  refine to_gt rfl rfl ?_
  refine to_mv rfl rfl ?_
  refine to_gt rfl rfl ?_
  refine to_lenS rfl rfl ?_
  refine to_gt rfl rfl ?_
  refine to_neq rfl rfl rfl ?_
  refine to_fix (s := 113) (b' := false) rfl (by simp; omega) ?_
  refine to_pkF rfl rfl rfl ?_
  refine to_mv rfl rfl ?_
  refine to_gt rfl rfl ?_
  refine to_mv rfl rfl ?_
  refine to_gt rfl rfl ?_
  refine to_mv rfl rfl ?_
  refine to_gt rfl rfl ?_
  first | refine to_ix rfl rfl rfl (by first | omega | decide) (by first | omega | decide) rfl ?_ | refine to_ixi rfl rfl rfl (by omega) (by omega) (by omega) rfl ?_
  refine to_gt rfl rfl ?_
  first | refine to_lds rfl rfl rfl ?_ | refine to_ldes rfl (by assumption) rfl rfl ?_
  refine to_gt rfl rfl ?_
  refine to_mv rfl rfl ?_
  refine to_gt rfl rfl ?_
  refine to_mv rfl rfl ?_
  refine to_gt rfl rfl ?_
  first | refine to_ix rfl rfl rfl (by first | omega | decide) (by first | omega | decide) rfl ?_ | refine to_ixi rfl rfl rfl (by omega) (by omega) (by omega) rfl ?_
  refine to_gt rfl rfl ?_
  first | refine to_fa rfl rfl rfl (by simp only [Nat.reduceAdd]; rfl) rfl ?_ | refine to_fae rfl rfl rfl (by simp only [Nat.reduceAdd]; rfl) rfl ?_
  refine to_gt rfl rfl ?_
  first | refine to_lds rfl rfl rfl ?_ | refine to_ldes rfl (by assumption) rfl rfl ?_
  refine to_gt rfl rfl ?_
  refine to_lss rfl rfl rfl ?_
  refine to_fix (s := 125) (b' := false) rfl (decide_eq_false (by omega)) ?_
  refine to_pkF rfl rfl rfl ?_
  refine to_mv rfl rfl ?_
  refine to_gt rfl rfl ?_
  refine to_mv rfl rfl ?_
  refine to_gt rfl rfl ?_
  refine to_mv rfl rfl ?_
  refine to_gt rfl rfl ?_
  first | refine to_ix rfl rfl rfl (by first | omega | decide) (by first | omega | decide) rfl ?_ | refine to_ixi rfl rfl rfl (by omega) (by omega) (by omega) rfl ?_
  refine to_gt rfl rfl ?_
  first | refine to_lds rfl rfl rfl ?_ | refine to_ldes rfl (by assumption) rfl rfl ?_
  refine to_gt rfl rfl ?_
  refine to_mv rfl rfl ?_
  refine to_gt rfl rfl ?_
  refine to_mv rfl rfl ?_
  refine to_gt rfl rfl ?_
  first | refine to_ix rfl rfl rfl (by first | omega | decide) (by first | omega | decide) rfl ?_ | refine to_ixi rfl rfl rfl (by omega) (by omega) (by omega) rfl ?_
  refine to_gt rfl rfl ?_
  first | refine to_fa rfl rfl rfl (by simp only [Nat.reduceAdd]; rfl) rfl ?_ | refine to_fae rfl rfl rfl (by simp only [Nat.reduceAdd]; rfl) rfl ?_
  refine to_gt rfl rfl ?_
  first | refine to_lds rfl rfl rfl ?_ | refine to_ldes rfl (by assumption) rfl rfl ?_
  refine to_gt rfl rfl ?_
  refine to_gtr rfl rfl rfl ?_
  refine to_fix (s := 137) (b' := false) rfl (decide_eq_false (by omega)) ?_
  refine to_pkF rfl rfl rfl ?_
  refine to_mv rfl rfl ?_
  refine to_gt rfl rfl ?_
  refine to_mv rfl rfl ?_
  refine to_gt rfl rfl ?_
  refine to_mv rfl rfl ?_
  refine to_gt rfl rfl ?_
  refine to_mv rfl rfl ?_
  refine to_gt rfl rfl ?_
  first | refine to_ix rfl rfl rfl (by first | omega | decide) (by first | omega | decide) rfl ?_ | refine to_ixi rfl rfl rfl (by omega) (by omega) (by omega) rfl ?_
  refine to_gt rfl rfl ?_
  first | refine to_fa rfl rfl rfl (by simp only [Nat.reduceAdd]; rfl) rfl ?_ | refine to_fae rfl rfl rfl (by simp only [Nat.reduceAdd]; rfl) rfl ?_
  refine to_gt rfl rfl ?_
  first | refine to_lds rfl rfl rfl ?_ | refine to_ldes rfl (by assumption) rfl rfl ?_
  refine to_gt rfl rfl ?_
  refine to_lss rfl rfl rfl ?_
  refine to_fix (s := 146) (b' := false) rfl (decide_eq_false (by omega)) ?_
  refine to_pkF rfl rfl rfl ?_
  refine to_mv rfl rfl ?_
  refine to_gt rfl rfl ?_
  refine to_mv rfl rfl ?_
  refine to_gt rfl rfl ?_
  refine to_mv rfl rfl ?_
  refine to_gt rfl rfl ?_
  refine to_mv rfl rfl ?_
  refine to_gt rfl rfl ?_
  first | refine to_ix rfl rfl rfl (by first | omega | decide) (by first | omega | decide) rfl ?_ | refine to_ixi rfl rfl rfl (by omega) (by omega) (by omega) rfl ?_
  refine to_gt rfl rfl ?_
  first | refine to_fa rfl rfl rfl (by simp only [Nat.reduceAdd]; rfl) rfl ?_ | refine to_fae rfl rfl rfl (by simp only [Nat.reduceAdd]; rfl) rfl ?_
  refine to_gt rfl rfl ?_
  first | refine to_lds rfl rfl rfl ?_ | refine to_ldes rfl (by assumption) rfl rfl ?_
  refine to_gt rfl rfl ?_
  refine to_gtr rfl rfl rfl ?_
  refine to_fix (s := 155) (b' := false) rfl (decide_eq_false (by omega)) ?_
  refine to_pkF rfl rfl rfl ?_
  refine to_nil ?_
  refine tn_code ?_
  refine t_ifF rfl ?_
  refine t_skip ?_
  refine tn_code ?_
  refine t_seq ?_
  refine t_seq ?_
  refine t_reg ?_
  refine to_mv rfl rfl ?_
  refine to_mv rfl rfl ?_
  first | refine to_ix rfl rfl rfl (by first | omega | decide) (by first | omega | decide) rfl ?_ | refine to_ixi rfl rfl rfl (by omega) (by omega) (by omega) rfl ?_
  first | refine to_fa rfl rfl rfl (by simp only [Nat.reduceAdd]; rfl) rfl ?_ | refine to_fae rfl rfl rfl (by simp only [Nat.reduceAdd]; rfl) rfl ?_
  first | refine to_lds rfl rfl rfl ?_ | refine to_ldes rfl (by assumption) rfl rfl ?_
  refine to_call0 rfl rfl (fun w s => ref_Value (r - e) w) rfl ?_
  refine to_fix (s := 162) (b' := true) rfl (inB_iff.2 (by omega)) ?_
  refine to_not rfl rfl ?_
  refine to_mv rfl rfl ?_
  refine to_gt rfl rfl ?_
  refine to_mv rfl rfl ?_
  refine to_gt rfl rfl ?_
  refine to_mv rfl rfl ?_
  refine to_gt rfl rfl ?_
  first | refine to_ix rfl rfl rfl (by first | omega | decide) (by first | omega | decide) rfl ?_ | refine to_ixi rfl rfl rfl (by omega) (by omega) (by omega) rfl ?_
  refine to_gt rfl rfl ?_
  first | refine to_fa rfl rfl rfl (by simp only [Nat.reduceAdd]; rfl) rfl ?_ | refine to_fae rfl rfl rfl (by simp only [Nat.reduceAdd]; rfl) rfl ?_
  refine to_gt rfl rfl ?_
  first | refine to_lds rfl rfl rfl ?_ | refine to_ldes rfl (by assumption) rfl rfl ?_
  refine to_gt rfl rfl ?_
  refine to_call0 rfl rfl (fun w s => ref_Value (r + e) w) rfl ?_
  refine to_fix (s := 170) (b' := true) rfl (inB_iff.2 (by omega)) ?_
  refine to_gt rfl rfl ?_
  refine to_not rfl rfl ?_
  refine to_pkF rfl rfl rfl ?_
  refine to_nil ?_
  refine tn_code ?_
  refine t_ifF rfl ?_
  refine t_skip ?_
  refine tn_code ?_
  refine t_seq ?_
  refine t_regD rfl (by kernel_rfl) (by kernel_rfl) ?_
  first | refine to_lda rfl rfl rfl ?_ | refine to_ldea rfl (by assumption) rfl rfl ?_
  refine to_mv rfl rfl ?_
  refine to_mv rfl rfl ?_
  first | refine to_ix rfl rfl rfl (by first | omega | decide) (by first | omega | decide) rfl ?_ | refine to_ixi rfl rfl rfl (by omega) (by omega) (by omega) rfl ?_
  first | refine to_fa rfl rfl rfl (by simp only [Nat.reduceAdd]; rfl) rfl ?_ | refine to_fae rfl rfl rfl (by simp only [Nat.reduceAdd]; rfl) rfl ?_
  first | refine to_lds rfl rfl rfl ?_ | refine to_ldes rfl (by assumption) rfl rfl ?_
  refine to_call0 rfl rfl (fun w s => law_to sh pt (r - e) w hs (by omega)) rfl ?_
  refine to_mv rfl rfl ?_
  refine to_ex rfl rfl rfl ?_
  refine to_ex rfl rfl rfl ?_
  refine to_fix (s := 182) (b' := true) rfl (rfl) ?_
  refine to_as rfl rfl ?_
  refine to_as rfl rfl ?_
  refine to_nil ?_
  refine tn_code ?_
  refine t_seq ?_
  refine t_regD rfl (by kernel_rfl) (by kernel_rfl) ?_
  first | refine to_lda rfl rfl rfl ?_ | refine to_ldea rfl (by assumption) rfl rfl ?_
  refine to_mv rfl rfl ?_
  refine to_mv rfl rfl ?_
  first | refine to_ix rfl rfl rfl (by first | omega | decide) (by first | omega | decide) rfl ?_ | refine to_ixi rfl rfl rfl (by omega) (by omega) (by omega) rfl ?_
  first | refine to_fa rfl rfl rfl (by simp only [Nat.reduceAdd]; rfl) rfl ?_ | refine to_fae rfl rfl rfl (by simp only [Nat.reduceAdd]; rfl) rfl ?_
  first | refine to_lds rfl rfl rfl ?_ | refine to_ldes rfl (by assumption) rfl rfl ?_
  refine to_call0 rfl rfl (fun w s => law_to sh pt (r + e) w hs (by omega)) rfl ?_
  refine to_mv rfl rfl ?_
  refine to_ex rfl rfl rfl ?_
  refine to_ex rfl rfl rfl ?_
  refine to_fix (s := 192) (b' := true) rfl (rfl) ?_
  refine to_as rfl rfl ?_
  refine to_as rfl rfl ?_
  refine to_nil ?_
  refine tn_code ?_
  refine t_seq ?_
  refine t_seq ?_
  refine t_regD rfl (by kernel_rfl) (by kernel_rfl) ?_
  refine to_mv rfl rfl ?_
  refine to_not rfl rfl ?_
  refine to_mv rfl rfl ?_
  refine to_gt rfl rfl ?_
  refine to_mv rfl rfl ?_
  refine to_gt rfl rfl ?_
  refine to_not rfl rfl ?_
  refine to_pkF rfl rfl rfl ?_
  refine to_mv rfl rfl ?_
  refine to_gt rfl rfl ?_
  refine to_mv rfl rfl ?_
  refine to_gt rfl rfl ?_
  refine to_mv rfl rfl ?_
  refine to_gt rfl rfl ?_
  first | refine to_ix rfl rfl rfl (by first | omega | decide) (by first | omega | decide) rfl ?_ | refine to_ixi rfl rfl rfl (by omega) (by omega) (by omega) rfl ?_
  refine to_gt rfl rfl ?_
  first | refine to_lda rfl rfl rfl ?_ | refine to_ldea rfl (by assumption) rfl rfl ?_
  refine to_gt rfl rfl ?_
  refine to_mv rfl rfl ?_
  refine to_gt rfl rfl ?_
  refine to_mv rfl rfl ?_
  refine to_gt rfl rfl ?_
  refine to_call0 rfl rfl (fun w s => law_span _ _ w) rfl ?_
  refine to_gt rfl rfl ?_
  refine to_nes rfl rfl rfl rfl rfl rfl rfl ?_
  refine to_fix (s := 207) (b' := false) rfl (by rw [ieq_refl (isI_span _)]; rfl) ?_
  refine to_pkF rfl rfl rfl ?_
  refine to_mv rfl rfl ?_
  refine to_gt rfl rfl ?_
  refine to_mv rfl rfl ?_
  refine to_gt rfl rfl ?_
  refine to_mv rfl rfl ?_
  refine to_gt rfl rfl ?_
  refine to_call0 rfl rfl (fun w s => ref_Listed (sureL sh e) _ _ _ w (rdw s) (by have h9 := sureK_len sh e sh.rows.length; simp only [sureL]; omega)) rfl ?_
  refine to_gt rfl rfl ?_
  refine to_mv rfl rfl ?_
  refine to_gt rfl rfl ?_
  refine to_mv rfl rfl ?_
  refine to_gt rfl rfl ?_
  refine to_eql rfl rfl rfl ?_
  refine to_gt rfl rfl ?_
  refine to_bne rfl rfl (by kernel_rfl) rfl ?_
  refine to_fix (s := 216) (b' := false) rfl (by rw [sure_has hr]; simp) ?_
  refine to_pkF rfl rfl rfl ?_
  refine to_nil ?_
  refine tn_code ?_
  refine t_ifF rfl ?_
  refine t_skip ?_
  refine tn_code ?_
  refine t_seq ?_
  refine t_seq ?_
  refine t_reg ?_
  refine to_mv rfl rfl ?_
  refine to_lss rfl rfl rfl ?_
  refine to_fix (s := 219) (b' := false) rfl (rfl) ?_
  refine to_mv rfl rfl ?_
  refine to_gt rfl rfl ?_
  refine to_mv rfl rfl ?_
  refine to_gt rfl rfl ?_
  refine to_gtr rfl rfl rfl ?_
  refine to_fix (s := 222) (b' := false) rfl (rfl) ?_
  refine to_pkF rfl rfl rfl ?_
  refine to_mv rfl rfl ?_
  refine to_gt rfl rfl ?_
  refine to_mv rfl rfl ?_
  refine to_gt rfl rfl ?_
  refine to_eql rfl rfl rfl ?_
  refine to_fix (s := 226) (b' := false) rfl (rfl) ?_
  refine to_gt rfl rfl ?_
  refine to_mv rfl rfl ?_
  refine to_gt rfl rfl ?_
  refine to_mv rfl rfl ?_
  refine to_gt rfl rfl ?_
  refine to_lss rfl rfl rfl ?_
  refine to_fix (s := 229) (b' := false) rfl (decide_eq_false (by omega)) ?_
  refine to_gt rfl rfl ?_
  refine to_mv rfl rfl ?_
  refine to_gt rfl rfl ?_
  refine to_mv rfl rfl ?_
  refine to_gt rfl rfl ?_
  refine to_mv rfl rfl ?_
  refine to_gt rfl rfl ?_
  refine to_gtr rfl rfl rfl ?_
  refine to_fix (s := 233) (b' := false) rfl (decide_eq_false (by omega)) ?_
  refine to_gt rfl rfl ?_
  refine to_pkF rfl rfl rfl ?_
  refine to_gt rfl rfl ?_
  refine to_bne rfl rfl (by kernel_rfl) rfl ?_
  refine to_fix (s := 235) (b' := false) rfl (rfl) ?_
  refine to_pkF rfl rfl rfl ?_
  refine to_mv rfl rfl ?_
  refine to_gt rfl rfl ?_
  refine to_mv rfl rfl ?_
  refine to_gt rfl rfl ?_
  refine to_eql rfl rfl rfl ?_
  refine to_fix (s := 239) (b' := true) rfl (rfl) ?_
  refine to_gt rfl rfl ?_
  refine to_mv rfl rfl ?_
  refine to_gt rfl rfl ?_
  refine to_mv rfl rfl ?_
  refine to_gt rfl rfl ?_
  refine to_eql rfl rfl rfl ?_
  refine to_fix (s := 242) (b' := true) rfl (decide_eq_true (by omega)) ?_
  refine to_gt rfl rfl ?_
  refine to_mv rfl rfl ?_
  refine to_gt rfl rfl ?_
  refine to_mv rfl rfl ?_
  refine to_gt rfl rfl ?_
  refine to_mv rfl rfl ?_
  refine to_gt rfl rfl ?_
  refine to_eql rfl rfl rfl ?_
  refine to_fix (s := 246) (b' := true) rfl (decide_eq_true (by omega)) ?_
  refine to_gt rfl rfl ?_
  refine to_pkT rfl rfl rfl ?_
  refine to_gt rfl rfl ?_
  refine to_bne rfl rfl (by kernel_rfl) rfl ?_
  refine to_fix (s := 248) (b' := false) rfl (rfl) ?_
  refine to_pkF rfl rfl rfl ?_
  refine to_nil ?_
  refine tn_code ?_
  refine t_ifF rfl ?_
  refine t_skip ?_
  refine tn_code ?_
  refine t_seq ?_
  refine t_reg ?_
  refine to_mv rfl rfl ?_
  refine to_neq rfl rfl rfl ?_
  refine to_fix (s := 251) (b' := true) rfl (rfl) ?_
  refine to_mv rfl rfl ?_
  refine to_gf rfl rfl rfl rfl ?_
  refine to_gf rfl rfl rfl rfl ?_
  refine to_gf rfl rfl rfl rfl ?_
  refine to_pkT rfl rfl rfl ?_
  refine to_mv rfl rfl ?_
  refine to_gt rfl rfl ?_
  refine to_mv rfl rfl ?_
  refine to_gt rfl rfl ?_
  refine to_neq rfl rfl rfl ?_
  refine to_fix (s := 259) (b' := false) rfl (rfl) ?_
  refine to_gt rfl rfl ?_
  refine to_mv rfl rfl ?_
  refine to_gt rfl rfl ?_
  refine to_mv rfl rfl ?_
  refine to_gt rfl rfl ?_
  refine to_mv rfl rfl ?_
  refine to_gt rfl rfl ?_
  refine to_eql rfl rfl rfl ?_
  refine to_fix (s := 263) (b' := true) rfl (decide_eq_true (by omega)) ?_
  refine to_gt rfl rfl ?_
  refine to_pkF rfl rfl rfl ?_
  refine to_pkT rfl rfl rfl ?_
  refine to_mv rfl rfl ?_
  refine to_gt rfl rfl ?_
  refine to_call0 rfl rfl (fun w s => law_known w (gl_up hg (belowH_of s))) rfl ?_
  refine to_pkT rfl rfl rfl ?_
  refine to_as rfl rfl ?_
  refine to_nil ?_
  refine tn_code ?_
  refine t_ret1 rfl rfl (res_tmp rfl) (fun w' s => ?_)
  rfl

theorem w_RoundTrue (sh : Sh) (pt : Pt) (gd : Int) (t : List Int) (ta : Option Addr) (tc : Nat) (row fg : Int) (w : World) (hre : Ro w 0 w.heap.size pt.ea sh.errs.length pt.ec 1 (ints sh.errs)) (hrr : Ro w 0 w.heap.size pt.ra sh.rows.length pt.rc 1 (ints sh.rows)) (hrl : Ro w 0 w.heap.size ta t.length tc 1 (ints t)) (hg : Gl w) : Calls Tryz.prog 6 #[shV sh pt, .int .i64 gd, .slice ta t.length tc, .int .i64 row, .int .i64 fg] w (RetV w (.bool true)) := by
  rcases bool_tf (okG sh gd) with ho | ho
  · obtain ⟨hs, k, e, hk, he⟩ := okG_b ho
    rcases bool_tf (decide (t.length ≤ 7)) with h7 | h7
    · rcases bool_tf (truK e sh.rows t) with htr | htr
      · rcases bool_tf (inB row 0 (sh.rows.length - 1)) with hrn | hrn
        · obtain ⟨i, r, hi, hr⟩ := row_ex hrn
          have hlen := truK_len htr
          obtain ⟨n, hn⟩ := some_get (xs := t) (k := i) (by have := (List.getElem?_eq_some_iff.1 hr).1; omega)
          rcases bool_tf (inB fg (fig sh (r - e)) (fig sh (r + e))) with hin | hin
          · by_cases hlt : fig sh (r - e) < fig sh (r + e)
            · exact w_RoundTrue_w2 sh pt gd t ta tc row fg w hre hrr hrl hs k e hk he h7 htr i r hi hr n hn hin hlt hg
            · exact w_RoundTrue_w3 sh pt gd t ta tc row fg w hre hrr hrl hs k e hk he h7 htr i r hi hr n hn hin hlt hg
          · exact w_RoundTrue_w1 sh pt gd t ta tc row fg w hre hrr hrl hs k e hk he h7 htr i r hi hr n hn hin hg
        · exact w_RoundTrue_rN sh pt gd t ta tc row fg w hre hrr hrl hs k e hk he h7 htr hrn hg
      · exact w_RoundTrue_tr sh pt gd t ta tc row fg w hre hrr hrl hs k e hk he h7 htr hg
    · exact w_RoundTrue_sl sh pt gd t ta tc row fg w hre hrr hrl hs k e hk he h7 hg
  · exact w_RoundTrue_no sh pt gd t ta tc row fg w hre hrr hrl ho hg

end Go.Proofs


namespace Go.Proofs.YtebellbkmioadaaGreatDoor
open Go Go.Sx Go.RowKit Go.WideShapes Go.ChangeShapes

section
variable {H : Type} {enc : TypeId × Value → H}
set_option maxRecDepth 100000 in
theorem roundTrue_law (W : World) (base : Nat) (args : Array Value) (ds : List (DataW H)) (p : List MemPlace) (hval : ∀ (j : Nat) t v, Tryz.f6.params[j]? = some t → args[j]? = some v → Value.okWide Tryz.prog W .any base t v)
    (hA : DataW.TrodAll enc Tryz.prog W 0 (fun _ => true) true Tryz.f6.params.toList args.toList ds p) (hg : Gl W) : Calls Tryz.prog 6 args W (RetV W (.bool true)) := by
  obtain ⟨l⟩ := args
  rw [Tryz.params6] at hA hval
  obtain ⟨v0, l0, d0, e0, p0, q0, hl0, rfl, h0, hA0⟩ := trodAll_cons hA
  have hl0' : l = v0 :: l0 := hl0
  subst hl0'
  obtain ⟨v1, l1, d1, e1, p1, q1, hl1, rfl, h1, hA1⟩ := trodAll_cons hA0
  subst hl1
  obtain ⟨v2, l2, d2, e2, p2, q2, hl2, rfl, h2, hA2⟩ := trodAll_cons hA1
  subst hl2
  obtain ⟨v3, l3, d3, e3, p3, q3, hl3, rfl, h3, hA3⟩ := trodAll_cons hA2
  subst hl3
  obtain ⟨v4, l4, d4, e4, p4, q4, hl4, rfl, h4, hA4⟩ := trodAll_cons hA3
  subst hl4
  obtain rfl := trodAll_nil hA4
  obtain ⟨sh0, pt0, rfl, hre0, hrr0⟩ := open_sh (hval 0 33 v0 rfl rfl) h0
  obtain ⟨n1, rfl, _⟩ := open_i u3 (hval 1 3 v1 rfl rfl) h1
  obtain ⟨t2, a2, c2, rfl, hr2⟩ := open_ints36 (hval 2 30 v2 rfl rfl) h2
  obtain ⟨n3, rfl, _⟩ := open_i u3 (hval 3 3 v3 rfl rfl) h3
  obtain ⟨n4, rfl, _⟩ := open_i u3 (hval 4 3 v4 rfl rfl) h4
  exact w_RoundTrue sh0 pt0 n1 t2 a2 c2 n3 n4 W hre0 hrr0 hr2 hg
end

set_option maxRecDepth 100000 in
theorem roundTrue_lifted (os : Os) (started : os.Started) (H : Type) (enc : TypeId × Value → H) :
    ReturnsInHanded {} Tryz.checked os 6 .any (fun w args => (Rows.roundTrueSpec.pre enc Tryz.prog Tryz.f6 [] false w args ∧ laidMetH Tryz.prog laidL w) ∧ sizedMet enc Tryz.prog Tryz.f6 (OpenSpec.ofChange Rows.roundTrueSpec) false w args)
      (Rows.roundTrueSpec.post enc Tryz.prog Tryz.f6 false true false false) :=
  law_lifted started (by kernel_rfl) Tryz.func6 rfl rfl (by kernel_rfl) (fun ds h => by
      match ds, h with
      | [_, _, _, _, _], _ => rfl)
    (ChangeSpec.witness_shaped (enc := enc) (C := Tryz.checked) (os := os) (X := fun w _ => laidMetH Tryz.prog laidL w) false (World.laidAll Tryz.prog os laidL) #[.agg #[.int .i64 0, .int .i64 0, .slice none 0 0, .slice none 0 0], .int .i64 0, .slice none 0 0, .int .i64 0, .int .i64 0] 8 (World.laidAll_os _ _ _)
      (World.shaped_of_ZipB (by kernel_rfl) (by kernel_rfl)) (by kernel_rfl) (by kernel_rfl) (by kernel_rfl)
      (by rw [MakeChecks.laidMetH_plain _ _ _ (by kernel_rfl)]; exact laidMet_laidAll _ (by kernel_rfl) (by kernel_rfl)))
    (fun W base args ds p hval hA hg => roundTrue_law W base args ds p hval hA hg)

theorem roundTrue_holds : Rows.RoundTrueSaid :=
  OpenClaim.holds_of_wide 6 Tryz.f6 rfl rfl rfl rfl rfl rfl rfl ⟨rfl, rfl, rfl, rfl, rfl⟩ rfl rfl rfl rfl rfl (by kernel_rfl) Tryz.func6 (by kernel_rfl)
    (of_decide_eq_true (by kernel_rfl)) (by unfold Func.isWrapper; first | (rw [if_pos (by decide +kernel)]; kernel_rfl) | (rw [if_neg (by decide +kernel)]; exact ⟨rfl, rfl⟩))
    (fun os started H enc _ => roundTrue_lifted os started H enc)

theorem roundTrue_card : Rows.RoundTrueCardSaid :=
  Claim7.holds_tied_plain_at .later [] [.data, .data, .data, .data, .pinned] true (true, "96da020e9171284ac76ac3c82595ce7ceccbab9aed8a1f73712d8b3a4229c7e5") true
    roundTrue_holds (fun _ h => by cases h) (by kernel_rfl) (fun _ h => by cases h) roundTrue_row_tie rfl ⟨rfl, rfl⟩ (by kernel_rfl) rfl
    (fun f fn hf hfn => by
      obtain rfl : f = 6 := Option.some.inj ((show Tryz.prog.funcNamed "ephemerist/ephemeristlaw04.RoundTrue" = some 6 by kernel_rfl).symm.trans hf) |>.symm
      obtain rfl : fn = Tryz.f6 := (Option.some.inj (Tryz.func6.symm.trans hfn)).symm
      exact ⟨by kernel_rfl, fun j t ht => by
        rw [Tryz.params6] at ht
        have hm : t ∈ [33, 3, 30, 3, 3] := by simpa using Array.mem_of_getElem? ht
        have hall : ([33, 3, 30, 3, 3].all fun u => !Tryz.prog.wantsStandIn u) = true := by kernel_rfl
        exact (show Tryz.prog.wantsStandIn t = false by simpa using List.all_eq_true.1 hall t hm)⟩)
    (by kernel_rfl)
end Go.Proofs.YtebellbkmioadaaGreatDoor

