/- RoundFigures: for every input the law returns true, and each argument reads behind the call as it read before. Conditions: the package-level variables that the row lists hold what the program's text lays (tied by the card). -/
import Derived.Test.YtebellbkmioadabGreatDoorOwnC
import Derived.Test.YtebellbkmioadabGreatDoorOwnE
import Derived.Test.YtebellbkmioadabGreatDoorOwnF
import Derived.LaidOnce
import Derived.SevenTiedAt
import Derived.Test.YtebellbkmioadabGreatDoorTie
import Derived.Test.YtebellbkmioadabGreatDoorCards
set_option linter.unusedVariables false
set_option linter.unusedSimpArgs false
namespace Go.Proofs
open Go Go.Sx

/-! # Plain laws of round: rounding -/

/-! ## Numbers behind a figure -/

theorem fig_mono {sh : Sh} {v w : Int} (hs : isSh sh = true) (h : v ≤ w) : fig sh v ≤ fig sh w := toF_mono (isSh_b hs).1.1 h
/-! ## Lists that lie on a map from one place on -/

end Go.Proofs


namespace Go.Proofs
open Go Go.Sx

/-! # Plain laws of round: what is sure -/

/-! ## More guard figures -/

/-! ## Totals of truths -/

/-! ## The other sign -/

end Go.Proofs


namespace Go.Proofs
open Go Go.Sx Go.RowKit

theorem toF_q {u v q : Int} (hu : 1 ≤ u) (h1 : q * u ≤ v) (h2 : v < q * u + u) : toF u 1 v = q ∧ (toF u 2 v = if v - q * u > 0 then q + 1 else q) ∧ (toF u 3 v = if 2 * (v - q * u) ≥ u then q + 1 else q) ∧ (toF u 4 v = if 2 * (v - q * u) > u ∨ 2 * (v - q * u) = u ∧ q % 2 ≠ 0 then q + 1 else q) := by
  have e1 : v / u = q := ediv_uniq (by omega) h1 h2
  have e2 := near_eq v (u := u) (by omega)
  rw [e1] at e2
  refine ⟨?_, ?_, ?_, ?_⟩
  · simp only [toF, if_true]; exact e1
  · simp only [toF, show ¬ ((2 : Int) = 1) from by decide, if_false, if_true]
    split
    · have : (-v) / u = -(q + 1) := ediv_uniq (by omega) (by rw [Int.neg_mul, Int.add_mul, Int.one_mul]; omega) (by rw [Int.neg_mul, Int.add_mul, Int.one_mul]; omega)
      omega
    · have : (-v) / u = -q := ediv_uniq (by omega) (by rw [Int.neg_mul]; omega) (by rw [Int.neg_mul]; omega)
      omega
  · simp only [toF, show ¬ ((3 : Int) = 1) from by decide, show ¬ ((3 : Int) = 2) from by decide, if_false, if_true]
    exact e2
  · simp only [toF, show ¬ ((4 : Int) = 1) from by decide, show ¬ ((4 : Int) = 2) from by decide, show ¬ ((4 : Int) = 3) from by decide, if_false]
    have e3 : 2 * u * q = 2 * (q * u) := by rw [Int.mul_assoc, Int.mul_comm u q]
    have e4 : 2 * u * (q + 1) = 2 * (q * u) + 2 * u := by rw [Int.mul_add, e3, Int.mul_one]
    by_cases hc : u ≤ 2 * (v - q * u)
    · rw [if_pos hc] at e2
      rw [e2, e4]
      split <;> split <;> omega
    · rw [if_neg hc] at e2
      rw [e2, e3]
      split <;> split <;> omega

set_option maxRecDepth 20000 in
theorem ref_To1 (v u : Int) (w : World) (hu : 1 ≤ u ∧ u ≤ 1048576) (hv : -1099511627776 ≤ v ∧ v ≤ 1099511627776) : Calls Tryz.prog 84 #[(.int .i64 v), (.int .i64 u), (.int .i64 1)] w (RetV w (.int .i64 (toF u 1 v))) := by
  have hu0 : 0 < u := by omega
  have hb := tdiv_bd v (B := 1099511627776) hu0 (by omega) (by omega)
  have hc := tdiv_cases v hu0
  have he := ediv_bd v hu0
  have hm : (v.tdiv u - 1) * u = v.tdiv u * u - u := by rw [Int.sub_mul, Int.one_mul]
  refine calls_T0 (av := [_, _, _]) Tryz.func84 rfl rfl rfl ?_
  refine t_seq ?_
  refine t_reg ?_
  refine to_as rfl rfl ?_
  refine to_nil ?_
  refine tn_code ?_
  refine t_seq ?_
  refine t_reg ?_
  refine to_mv rfl rfl ?_
  refine to_mv rfl rfl ?_
  refine to_quoE rfl rfl (by omega) (wrap_id (by omega)) rfl ?_
  refine to_as rfl rfl ?_
  refine to_nil ?_
  refine tn_code ?_
  refine t_seq ?_
  refine t_seq ?_
  refine t_reg ?_
  refine to_mv rfl rfl ?_
  refine to_mv rfl rfl ?_
  refine to_mv rfl rfl ?_
  refine to_mul rfl rfl (by first | omega | exact mul_ok (by omega) (by omega) (by omega) (by omega)) rfl ?_
  refine to_lss rfl rfl rfl ?_
  refine to_nil ?_
  refine tn_code ?_
  refine t_if rfl (fun h1 => ?_) (fun h1 => ?_)
  · try simp only [decide_eq_true_eq, decide_eq_false_iff_not, Bool.not_eq_true', Bool.not_eq_false', Int.not_lt, Int.not_le, ne_eq, Decidable.not_not] at h1
    try have h1b := inB_iff.1 h1
    rcases hc with ⟨e, hx⟩ | ⟨e, hx⟩
    · exfalso; omega
    rw [← e] at he
    have hq := toF_q hu.1 he.1 he.2
    refine t_reg ?_
    refine to_mv rfl rfl ?_
    refine to_sub rfl rfl (by omega) rfl ?_
    refine to_as rfl rfl ?_
    refine to_nil ?_
    refine tn_code ?_
    refine t_seq ?_
    refine t_reg ?_
    refine to_mv rfl rfl ?_
    refine to_mv rfl rfl ?_
    refine to_mv rfl rfl ?_
    refine to_mul rfl rfl (by first | omega | exact mul_ok (by omega) (by omega) (by omega) (by omega)) rfl ?_
    refine to_sub rfl rfl (by omega) rfl ?_
    refine to_as rfl rfl ?_
    refine to_nil ?_
    refine tn_code ?_
    refine t_seq ?_
    refine t_reg ?_
    refine to_as rfl rfl ?_
    refine to_nil ?_
    refine tn_code ?_
    refine t_seq ?_
    refine t_seq ?_
    refine t_reg ?_
    refine to_mv rfl rfl ?_
    refine to_nil ?_
    refine tn_code ?_
    refine t_blk ?_
    refine t_seq ?_
    refine t_reg ?_
    refine to_eql rfl rfl rfl ?_
    refine to_fix (s := 27) (b' := false) rfl (rfl) ?_
    refine to_as rfl rfl ?_
    refine to_nil ?_
    refine tn_code ?_
    refine t_ifF rfl ?_
    refine t_seq ?_
    refine t_reg ?_
    refine to_eql rfl rfl rfl ?_
    refine to_fix (s := 31) (b' := false) rfl (rfl) ?_
    refine to_as rfl rfl ?_
    refine to_nil ?_
    refine tn_code ?_
    refine t_ifF rfl ?_
    refine t_seq ?_
    refine t_reg ?_
    refine to_eql rfl rfl rfl ?_
    refine to_fix (s := 37) (b' := false) rfl (rfl) ?_
    refine to_as rfl rfl ?_
    refine to_nil ?_
    refine tn_code ?_
    refine t_ifF rfl ?_
    refine t_skip ?_
    refine tn_blk ?_
    refine tn_code ?_
    refine t_seq ?_
    refine t_seq ?_
    refine t_reg ?_
    refine to_mv rfl rfl ?_
    refine to_nil ?_
    refine tn_code ?_
    refine t_ifF rfl ?_
    refine t_skip ?_
    refine tn_code ?_
    refine t_seq ?_
    refine t_reg ?_
    refine to_mv rfl rfl ?_
    refine to_as rfl rfl ?_
    refine to_nil ?_
    refine tn_code ?_
    refine t_ret1 rfl rfl (res_tmp rfl) (fun w' s => ?_)
    refine congrArg (Value.int .i64) ?_
    exact hq.1.symm
  · try simp only [decide_eq_true_eq, decide_eq_false_iff_not, Bool.not_eq_true', Bool.not_eq_false', Int.not_lt, Int.not_le, ne_eq, Decidable.not_not] at h1
    try have h1b := inB_iff.1 h1
    rcases hc with ⟨e, hx⟩ | ⟨e, hx⟩
    rotate_left
    · exfalso; omega
    rw [← e] at he
    have hq := toF_q hu.1 he.1 he.2
    refine t_skip ?_
    refine tn_code ?_
    refine t_seq ?_
    refine t_reg ?_
    refine to_mv rfl rfl ?_
    refine to_mv rfl rfl ?_
    refine to_mv rfl rfl ?_
    refine to_mul rfl rfl (by first | omega | exact mul_ok (by omega) (by omega) (by omega) (by omega)) rfl ?_
    refine to_sub rfl rfl (by omega) rfl ?_
    refine to_as rfl rfl ?_
    refine to_nil ?_
    refine tn_code ?_
    refine t_seq ?_
    refine t_reg ?_
    refine to_as rfl rfl ?_
    refine to_nil ?_
    refine tn_code ?_
    refine t_seq ?_
    refine t_seq ?_
    refine t_reg ?_
    refine to_mv rfl rfl ?_
    refine to_nil ?_
    refine tn_code ?_
    refine t_blk ?_
    refine t_seq ?_
    refine t_reg ?_
    refine to_eql rfl rfl rfl ?_
    refine to_fix (s := 27) (b' := false) rfl (rfl) ?_
    refine to_as rfl rfl ?_
    refine to_nil ?_
    refine tn_code ?_
    refine t_ifF rfl ?_
    refine t_seq ?_
    refine t_reg ?_
    refine to_eql rfl rfl rfl ?_
    refine to_fix (s := 31) (b' := false) rfl (rfl) ?_
    refine to_as rfl rfl ?_
    refine to_nil ?_
    refine tn_code ?_
    refine t_ifF rfl ?_
    refine t_seq ?_
    refine t_reg ?_
    refine to_eql rfl rfl rfl ?_
    refine to_fix (s := 37) (b' := false) rfl (rfl) ?_
    refine to_as rfl rfl ?_
    refine to_nil ?_
    refine tn_code ?_
    refine t_ifF rfl ?_
    refine t_skip ?_
    refine tn_blk ?_
    refine tn_code ?_
    refine t_seq ?_
    refine t_seq ?_
    refine t_reg ?_
    refine to_mv rfl rfl ?_
    refine to_nil ?_
    refine tn_code ?_
    refine t_ifF rfl ?_
    refine t_skip ?_
    refine tn_code ?_
    refine t_seq ?_
    refine t_reg ?_
    refine to_mv rfl rfl ?_
    refine to_as rfl rfl ?_
    refine to_nil ?_
    refine tn_code ?_
    refine t_ret1 rfl rfl (res_tmp rfl) (fun w' s => ?_)
    refine congrArg (Value.int .i64) ?_
    exact hq.1.symm

set_option maxRecDepth 20000 in
theorem ref_To2 (v u : Int) (w : World) (hu : 1 ≤ u ∧ u ≤ 1048576) (hv : -1099511627776 ≤ v ∧ v ≤ 1099511627776) : Calls Tryz.prog 84 #[(.int .i64 v), (.int .i64 u), (.int .i64 2)] w (RetV w (.int .i64 (toF u 2 v))) := by
  have hu0 : 0 < u := by omega
  have hb := tdiv_bd v (B := 1099511627776) hu0 (by omega) (by omega)
  have hc := tdiv_cases v hu0
  have he := ediv_bd v hu0
  have hm : (v.tdiv u - 1) * u = v.tdiv u * u - u := by rw [Int.sub_mul, Int.one_mul]
  refine calls_T0 (av := [_, _, _]) Tryz.func84 rfl rfl rfl ?_
  refine t_seq ?_
  refine t_reg ?_
  refine to_as rfl rfl ?_
  refine to_nil ?_
  refine tn_code ?_
  refine t_seq ?_
  refine t_reg ?_
  refine to_mv rfl rfl ?_
  refine to_mv rfl rfl ?_
  refine to_quoE rfl rfl (by omega) (wrap_id (by omega)) rfl ?_
  refine to_as rfl rfl ?_
  refine to_nil ?_
  refine tn_code ?_
  refine t_seq ?_
  refine t_seq ?_
  refine t_reg ?_
  refine to_mv rfl rfl ?_
  refine to_mv rfl rfl ?_
  refine to_mv rfl rfl ?_
  refine to_mul rfl rfl (by first | omega | exact mul_ok (by omega) (by omega) (by omega) (by omega)) rfl ?_
  refine to_lss rfl rfl rfl ?_
  refine to_nil ?_
  refine tn_code ?_
  refine t_if rfl (fun h1 => ?_) (fun h1 => ?_)
  · try simp only [decide_eq_true_eq, decide_eq_false_iff_not, Bool.not_eq_true', Bool.not_eq_false', Int.not_lt, Int.not_le, ne_eq, Decidable.not_not] at h1
    try have h1b := inB_iff.1 h1
    rcases hc with ⟨e, hx⟩ | ⟨e, hx⟩
    · exfalso; omega
    rw [← e] at he
    have hq := toF_q hu.1 he.1 he.2
    refine t_reg ?_
    refine to_mv rfl rfl ?_
    refine to_sub rfl rfl (by omega) rfl ?_
    refine to_as rfl rfl ?_
    refine to_nil ?_
    refine tn_code ?_
    refine t_seq ?_
    refine t_reg ?_
    refine to_mv rfl rfl ?_
    refine to_mv rfl rfl ?_
    refine to_mv rfl rfl ?_
    refine to_mul rfl rfl (by first | omega | exact mul_ok (by omega) (by omega) (by omega) (by omega)) rfl ?_
    refine to_sub rfl rfl (by omega) rfl ?_
    refine to_as rfl rfl ?_
    refine to_nil ?_
    refine tn_code ?_
    refine t_seq ?_
    refine t_reg ?_
    refine to_as rfl rfl ?_
    refine to_nil ?_
    refine tn_code ?_
    refine t_seq ?_
    refine t_seq ?_
    refine t_reg ?_
    refine to_mv rfl rfl ?_
    refine to_nil ?_
    refine tn_code ?_
    refine t_blk ?_
    refine t_seq ?_
    refine t_reg ?_
    refine to_eql rfl rfl rfl ?_
    refine to_fix (s := 27) (b' := true) rfl (rfl) ?_
    refine to_as rfl rfl ?_
    refine to_nil ?_
    refine tn_code ?_
    refine t_ifT rfl ?_
    refine t_reg ?_
    refine to_mv rfl rfl ?_
    refine to_gtr rfl rfl rfl ?_
    refine to_as rfl rfl ?_
    refine to_nil ?_
    refine tn_blk ?_
    refine tn_code ?_
    refine t_seq ?_
    refine t_seq ?_
    refine t_reg ?_
    refine to_mv rfl rfl ?_
    refine to_nil ?_
    refine tn_code ?_
    refine t_if rfl (fun h2 => ?_) (fun h2 => ?_)
    · try simp only [decide_eq_true_eq, decide_eq_false_iff_not, Bool.not_eq_true', Bool.not_eq_false', Int.not_lt, Int.not_le, ne_eq, Decidable.not_not] at h2
      try have h2b := inB_iff.1 h2
      refine t_reg ?_
      refine to_mv rfl rfl ?_
      refine to_add rfl rfl (by omega) rfl ?_
      refine to_as rfl rfl ?_
      refine to_nil ?_
      refine tn_code ?_
      refine t_seq ?_
      refine t_reg ?_
      refine to_mv rfl rfl ?_
      refine to_as rfl rfl ?_
      refine to_nil ?_
      refine tn_code ?_
      refine t_ret1 rfl rfl (res_tmp rfl) (fun w' s => ?_)
      refine congrArg (Value.int .i64) ?_
      rw [hq.2.1]; split <;> omega
    · try simp only [decide_eq_true_eq, decide_eq_false_iff_not, Bool.not_eq_true', Bool.not_eq_false', Int.not_lt, Int.not_le, ne_eq, Decidable.not_not] at h2
      try have h2b := inB_iff.1 h2
      refine t_skip ?_
      refine tn_code ?_
      refine t_seq ?_
      refine t_reg ?_
      refine to_mv rfl rfl ?_
      refine to_as rfl rfl ?_
      refine to_nil ?_
      refine tn_code ?_
      refine t_ret1 rfl rfl (res_tmp rfl) (fun w' s => ?_)
      refine congrArg (Value.int .i64) ?_
      rw [hq.2.1]; split <;> omega
  · try simp only [decide_eq_true_eq, decide_eq_false_iff_not, Bool.not_eq_true', Bool.not_eq_false', Int.not_lt, Int.not_le, ne_eq, Decidable.not_not] at h1
    try have h1b := inB_iff.1 h1
    rcases hc with ⟨e, hx⟩ | ⟨e, hx⟩
    rotate_left
    · exfalso; omega
    rw [← e] at he
    have hq := toF_q hu.1 he.1 he.2
    refine t_skip ?_
    refine tn_code ?_
    refine t_seq ?_
    refine t_reg ?_
    refine to_mv rfl rfl ?_
    refine to_mv rfl rfl ?_
    refine to_mv rfl rfl ?_
    refine to_mul rfl rfl (by first | omega | exact mul_ok (by omega) (by omega) (by omega) (by omega)) rfl ?_
    refine to_sub rfl rfl (by omega) rfl ?_
    refine to_as rfl rfl ?_
    refine to_nil ?_
    refine tn_code ?_
    refine t_seq ?_
    refine t_reg ?_
    refine to_as rfl rfl ?_
    refine to_nil ?_
    refine tn_code ?_
    refine t_seq ?_
    refine t_seq ?_
    refine t_reg ?_
    refine to_mv rfl rfl ?_
    refine to_nil ?_
    refine tn_code ?_
    refine t_blk ?_
    refine t_seq ?_
    refine t_reg ?_
    refine to_eql rfl rfl rfl ?_
    refine to_fix (s := 27) (b' := true) rfl (rfl) ?_
    refine to_as rfl rfl ?_
    refine to_nil ?_
    refine tn_code ?_
    refine t_ifT rfl ?_
    refine t_reg ?_
    refine to_mv rfl rfl ?_
    refine to_gtr rfl rfl rfl ?_
    refine to_as rfl rfl ?_
    refine to_nil ?_
    refine tn_blk ?_
    refine tn_code ?_
    refine t_seq ?_
    refine t_seq ?_
    refine t_reg ?_
    refine to_mv rfl rfl ?_
    refine to_nil ?_
    refine tn_code ?_
    refine t_if rfl (fun h3 => ?_) (fun h3 => ?_)
    · try simp only [decide_eq_true_eq, decide_eq_false_iff_not, Bool.not_eq_true', Bool.not_eq_false', Int.not_lt, Int.not_le, ne_eq, Decidable.not_not] at h3
      try have h3b := inB_iff.1 h3
      refine t_reg ?_
      refine to_mv rfl rfl ?_
      refine to_add rfl rfl (by omega) rfl ?_
      refine to_as rfl rfl ?_
      refine to_nil ?_
      refine tn_code ?_
      refine t_seq ?_
      refine t_reg ?_
      refine to_mv rfl rfl ?_
      refine to_as rfl rfl ?_
      refine to_nil ?_
      refine tn_code ?_
      refine t_ret1 rfl rfl (res_tmp rfl) (fun w' s => ?_)
      refine congrArg (Value.int .i64) ?_
      rw [hq.2.1]; split <;> omega
    · try simp only [decide_eq_true_eq, decide_eq_false_iff_not, Bool.not_eq_true', Bool.not_eq_false', Int.not_lt, Int.not_le, ne_eq, Decidable.not_not] at h3
      try have h3b := inB_iff.1 h3
      refine t_skip ?_
      refine tn_code ?_
      refine t_seq ?_
      refine t_reg ?_
      refine to_mv rfl rfl ?_
      refine to_as rfl rfl ?_
      refine to_nil ?_
      refine tn_code ?_
      refine t_ret1 rfl rfl (res_tmp rfl) (fun w' s => ?_)
      refine congrArg (Value.int .i64) ?_
      rw [hq.2.1]; split <;> omega

set_option maxRecDepth 20000 in
theorem ref_To3 (v u : Int) (w : World) (hu : 1 ≤ u ∧ u ≤ 1048576) (hv : -1099511627776 ≤ v ∧ v ≤ 1099511627776) : Calls Tryz.prog 84 #[(.int .i64 v), (.int .i64 u), (.int .i64 3)] w (RetV w (.int .i64 (toF u 3 v))) := by
  have hu0 : 0 < u := by omega
  have hb := tdiv_bd v (B := 1099511627776) hu0 (by omega) (by omega)
  have hc := tdiv_cases v hu0
  have he := ediv_bd v hu0
  have hm : (v.tdiv u - 1) * u = v.tdiv u * u - u := by rw [Int.sub_mul, Int.one_mul]
  refine calls_T0 (av := [_, _, _]) Tryz.func84 rfl rfl rfl ?_
  refine t_seq ?_
  refine t_reg ?_
  refine to_as rfl rfl ?_
  refine to_nil ?_
  refine tn_code ?_
  refine t_seq ?_
  refine t_reg ?_
  refine to_mv rfl rfl ?_
  refine to_mv rfl rfl ?_
  refine to_quoE rfl rfl (by omega) (wrap_id (by omega)) rfl ?_
  refine to_as rfl rfl ?_
  refine to_nil ?_
  refine tn_code ?_
  refine t_seq ?_
  refine t_seq ?_
  refine t_reg ?_
  refine to_mv rfl rfl ?_
  refine to_mv rfl rfl ?_
  refine to_mv rfl rfl ?_
  refine to_mul rfl rfl (by first | omega | exact mul_ok (by omega) (by omega) (by omega) (by omega)) rfl ?_
  refine to_lss rfl rfl rfl ?_
  refine to_nil ?_
  refine tn_code ?_
  refine t_if rfl (fun h1 => ?_) (fun h1 => ?_)
  · try simp only [decide_eq_true_eq, decide_eq_false_iff_not, Bool.not_eq_true', Bool.not_eq_false', Int.not_lt, Int.not_le, ne_eq, Decidable.not_not] at h1
    try have h1b := inB_iff.1 h1
    rcases hc with ⟨e, hx⟩ | ⟨e, hx⟩
    · exfalso; omega
    rw [← e] at he
    have hq := toF_q hu.1 he.1 he.2
    refine t_reg ?_
    refine to_mv rfl rfl ?_
    refine to_sub rfl rfl (by omega) rfl ?_
    refine to_as rfl rfl ?_
    refine to_nil ?_
    refine tn_code ?_
    refine t_seq ?_
    refine t_reg ?_
    refine to_mv rfl rfl ?_
    refine to_mv rfl rfl ?_
    refine to_mv rfl rfl ?_
    refine to_mul rfl rfl (by first | omega | exact mul_ok (by omega) (by omega) (by omega) (by omega)) rfl ?_
    refine to_sub rfl rfl (by omega) rfl ?_
    refine to_as rfl rfl ?_
    refine to_nil ?_
    refine tn_code ?_
    refine t_seq ?_
    refine t_reg ?_
    refine to_as rfl rfl ?_
    refine to_nil ?_
    refine tn_code ?_
    refine t_seq ?_
    refine t_seq ?_
    refine t_reg ?_
    refine to_mv rfl rfl ?_
    refine to_nil ?_
    refine tn_code ?_
    refine t_blk ?_
    refine t_seq ?_
    refine t_reg ?_
    refine to_eql rfl rfl rfl ?_
    refine to_fix (s := 27) (b' := false) rfl (rfl) ?_
    refine to_as rfl rfl ?_
    refine to_nil ?_
    refine tn_code ?_
    refine t_ifF rfl ?_
    refine t_seq ?_
    refine t_reg ?_
    refine to_eql rfl rfl rfl ?_
    refine to_fix (s := 31) (b' := true) rfl (rfl) ?_
    refine to_as rfl rfl ?_
    refine to_nil ?_
    refine tn_code ?_
    refine t_ifT rfl ?_
    refine t_reg ?_
    refine to_mv rfl rfl ?_
    refine to_mul rfl rfl (by first | omega | exact mul_ok (by omega) (by omega) (by omega) (by omega)) rfl ?_
    refine to_mv rfl rfl ?_
    refine to_geq rfl rfl rfl ?_
    refine to_as rfl rfl ?_
    refine to_nil ?_
    refine tn_blk ?_
    refine tn_code ?_
    refine t_seq ?_
    refine t_seq ?_
    refine t_reg ?_
    refine to_mv rfl rfl ?_
    refine to_nil ?_
    refine tn_code ?_
    refine t_if rfl (fun h2 => ?_) (fun h2 => ?_)
    · try simp only [decide_eq_true_eq, decide_eq_false_iff_not, Bool.not_eq_true', Bool.not_eq_false', Int.not_lt, Int.not_le, ne_eq, Decidable.not_not] at h2
      try have h2b := inB_iff.1 h2
      refine t_reg ?_
      refine to_mv rfl rfl ?_
      refine to_add rfl rfl (by omega) rfl ?_
      refine to_as rfl rfl ?_
      refine to_nil ?_
      refine tn_code ?_
      refine t_seq ?_
      refine t_reg ?_
      refine to_mv rfl rfl ?_
      refine to_as rfl rfl ?_
      refine to_nil ?_
      refine tn_code ?_
      refine t_ret1 rfl rfl (res_tmp rfl) (fun w' s => ?_)
      refine congrArg (Value.int .i64) ?_
      rw [hq.2.2.1]; split <;> omega
    · try simp only [decide_eq_true_eq, decide_eq_false_iff_not, Bool.not_eq_true', Bool.not_eq_false', Int.not_lt, Int.not_le, ne_eq, Decidable.not_not] at h2
      try have h2b := inB_iff.1 h2
      refine t_skip ?_
      refine tn_code ?_
      refine t_seq ?_
      refine t_reg ?_
      refine to_mv rfl rfl ?_
      refine to_as rfl rfl ?_
      refine to_nil ?_
      refine tn_code ?_
      refine t_ret1 rfl rfl (res_tmp rfl) (fun w' s => ?_)
      refine congrArg (Value.int .i64) ?_
      rw [hq.2.2.1]; split <;> omega
  · try simp only [decide_eq_true_eq, decide_eq_false_iff_not, Bool.not_eq_true', Bool.not_eq_false', Int.not_lt, Int.not_le, ne_eq, Decidable.not_not] at h1
    try have h1b := inB_iff.1 h1
    rcases hc with ⟨e, hx⟩ | ⟨e, hx⟩
    rotate_left
    · exfalso; omega
    rw [← e] at he
    have hq := toF_q hu.1 he.1 he.2
    refine t_skip ?_
    refine tn_code ?_
    refine t_seq ?_
    refine t_reg ?_
    refine to_mv rfl rfl ?_
    refine to_mv rfl rfl ?_
    refine to_mv rfl rfl ?_
    refine to_mul rfl rfl (by first | omega | exact mul_ok (by omega) (by omega) (by omega) (by omega)) rfl ?_
    refine to_sub rfl rfl (by omega) rfl ?_
    refine to_as rfl rfl ?_
    refine to_nil ?_
    refine tn_code ?_
    refine t_seq ?_
    refine t_reg ?_
    refine to_as rfl rfl ?_
    refine to_nil ?_
    refine tn_code ?_
    refine t_seq ?_
    refine t_seq ?_
    refine t_reg ?_
    refine to_mv rfl rfl ?_
    refine to_nil ?_
    refine tn_code ?_
    refine t_blk ?_
    refine t_seq ?_
    refine t_reg ?_
    refine to_eql rfl rfl rfl ?_
    refine to_fix (s := 27) (b' := false) rfl (rfl) ?_
    refine to_as rfl rfl ?_
    refine to_nil ?_
    refine tn_code ?_
    refine t_ifF rfl ?_
    refine t_seq ?_
    refine t_reg ?_
    refine to_eql rfl rfl rfl ?_
    refine to_fix (s := 31) (b' := true) rfl (rfl) ?_
    refine to_as rfl rfl ?_
    refine to_nil ?_
    refine tn_code ?_
    refine t_ifT rfl ?_
    refine t_reg ?_
    refine to_mv rfl rfl ?_
    refine to_mul rfl rfl (by first | omega | exact mul_ok (by omega) (by omega) (by omega) (by omega)) rfl ?_
    refine to_mv rfl rfl ?_
    refine to_geq rfl rfl rfl ?_
    refine to_as rfl rfl ?_
    refine to_nil ?_
    refine tn_blk ?_
    refine tn_code ?_
    refine t_seq ?_
    refine t_seq ?_
    refine t_reg ?_
    refine to_mv rfl rfl ?_
    refine to_nil ?_
    refine tn_code ?_
    refine t_if rfl (fun h3 => ?_) (fun h3 => ?_)
    · try simp only [decide_eq_true_eq, decide_eq_false_iff_not, Bool.not_eq_true', Bool.not_eq_false', Int.not_lt, Int.not_le, ne_eq, Decidable.not_not] at h3
      try have h3b := inB_iff.1 h3
      refine t_reg ?_
      refine to_mv rfl rfl ?_
      refine to_add rfl rfl (by omega) rfl ?_
      refine to_as rfl rfl ?_
      refine to_nil ?_
      refine tn_code ?_
      refine t_seq ?_
      refine t_reg ?_
      refine to_mv rfl rfl ?_
      refine to_as rfl rfl ?_
      refine to_nil ?_
      refine tn_code ?_
      refine t_ret1 rfl rfl (res_tmp rfl) (fun w' s => ?_)
      refine congrArg (Value.int .i64) ?_
      rw [hq.2.2.1]; split <;> omega
    · try simp only [decide_eq_true_eq, decide_eq_false_iff_not, Bool.not_eq_true', Bool.not_eq_false', Int.not_lt, Int.not_le, ne_eq, Decidable.not_not] at h3
      try have h3b := inB_iff.1 h3
      refine t_skip ?_
      refine tn_code ?_
      refine t_seq ?_
      refine t_reg ?_
      refine to_mv rfl rfl ?_
      refine to_as rfl rfl ?_
      refine to_nil ?_
      refine tn_code ?_
      refine t_ret1 rfl rfl (res_tmp rfl) (fun w' s => ?_)
      refine congrArg (Value.int .i64) ?_
      rw [hq.2.2.1]; split <;> omega

set_option maxRecDepth 20000 in
theorem ref_To4 (v u : Int) (w : World) (hu : 1 ≤ u ∧ u ≤ 1048576) (hv : -1099511627776 ≤ v ∧ v ≤ 1099511627776) : Calls Tryz.prog 84 #[(.int .i64 v), (.int .i64 u), (.int .i64 4)] w (RetV w (.int .i64 (toF u 4 v))) := by
  have hu0 : 0 < u := by omega
  have hb := tdiv_bd v (B := 1099511627776) hu0 (by omega) (by omega)
  have hc := tdiv_cases v hu0
  have he := ediv_bd v hu0
  have hm : (v.tdiv u - 1) * u = v.tdiv u * u - u := by rw [Int.sub_mul, Int.one_mul]
  refine calls_T0 (av := [_, _, _]) Tryz.func84 rfl rfl rfl ?_
  refine t_seq ?_
  refine t_reg ?_
  refine to_as rfl rfl ?_
  refine to_nil ?_
  refine tn_code ?_
  refine t_seq ?_
  refine t_reg ?_
  refine to_mv rfl rfl ?_
  refine to_mv rfl rfl ?_
  refine to_quoE rfl rfl (by omega) (wrap_id (by omega)) rfl ?_
  refine to_as rfl rfl ?_
  refine to_nil ?_
  refine tn_code ?_
  refine t_seq ?_
  refine t_seq ?_
  refine t_reg ?_
  refine to_mv rfl rfl ?_
  refine to_mv rfl rfl ?_
  refine to_mv rfl rfl ?_
  refine to_mul rfl rfl (by first | omega | exact mul_ok (by omega) (by omega) (by omega) (by omega)) rfl ?_
  refine to_lss rfl rfl rfl ?_
  refine to_nil ?_
  refine tn_code ?_
  refine t_if rfl (fun h1 => ?_) (fun h1 => ?_)
  · try simp only [decide_eq_true_eq, decide_eq_false_iff_not, Bool.not_eq_true', Bool.not_eq_false', Int.not_lt, Int.not_le, ne_eq, Decidable.not_not] at h1
    try have h1b := inB_iff.1 h1
    rcases hc with ⟨e, hx⟩ | ⟨e, hx⟩
    · exfalso; omega
    rw [← e] at he
    have hq := toF_q hu.1 he.1 he.2
    refine t_reg ?_
    refine to_mv rfl rfl ?_
    refine to_sub rfl rfl (by omega) rfl ?_
    refine to_as rfl rfl ?_
    refine to_nil ?_
    refine tn_code ?_
    refine t_seq ?_
    refine t_reg ?_
    refine to_mv rfl rfl ?_
    refine to_mv rfl rfl ?_
    refine to_mv rfl rfl ?_
    refine to_mul rfl rfl (by first | omega | exact mul_ok (by omega) (by omega) (by omega) (by omega)) rfl ?_
    refine to_sub rfl rfl (by omega) rfl ?_
    refine to_as rfl rfl ?_
    refine to_nil ?_
    refine tn_code ?_
    refine t_seq ?_
    refine t_reg ?_
    refine to_as rfl rfl ?_
    refine to_nil ?_
    refine tn_code ?_
    refine t_seq ?_
    refine t_seq ?_
    refine t_reg ?_
    refine to_mv rfl rfl ?_
    refine to_nil ?_
    refine tn_code ?_
    refine t_blk ?_
    refine t_seq ?_
    refine t_reg ?_
    refine to_eql rfl rfl rfl ?_
    refine to_fix (s := 27) (b' := false) rfl (rfl) ?_
    refine to_as rfl rfl ?_
    refine to_nil ?_
    refine tn_code ?_
    refine t_ifF rfl ?_
    refine t_seq ?_
    refine t_reg ?_
    refine to_eql rfl rfl rfl ?_
    refine to_fix (s := 31) (b' := false) rfl (rfl) ?_
    refine to_as rfl rfl ?_
    refine to_nil ?_
    refine tn_code ?_
    refine t_ifF rfl ?_
    refine t_seq ?_
    refine t_reg ?_
    refine to_eql rfl rfl rfl ?_
    refine to_fix (s := 37) (b' := true) rfl (rfl) ?_
    refine to_as rfl rfl ?_
    refine to_nil ?_
    refine tn_code ?_
    refine t_ifT rfl ?_
    refine t_reg ?_
    refine to_mv rfl rfl ?_
    refine to_mul rfl rfl (by first | omega | exact mul_ok (by omega) (by omega) (by omega) (by omega)) rfl ?_
    refine to_mv rfl rfl ?_
    refine to_gtr rfl rfl rfl ?_
    refine to_mv rfl rfl ?_
    refine to_gs rfl rfl rfl (fun h2 => ?_) (fun h2 => ?_)
    · try simp only [decide_eq_true_eq, decide_eq_false_iff_not, Bool.not_eq_true', Bool.not_eq_false', Int.not_lt, Int.not_le, ne_eq, Decidable.not_not] at h2
      try have h2b := inB_iff.1 h2
      refine to_gf rfl rfl rfl rfl ?_
      refine to_gf rfl rfl rfl rfl ?_
      refine to_gf rfl rfl rfl rfl ?_
      refine to_gf rfl rfl rfl rfl ?_
      refine to_gf rfl rfl rfl rfl ?_
      refine to_gf rfl rfl rfl rfl ?_
      refine to_gf rfl rfl rfl rfl ?_
      refine to_gf rfl rfl rfl rfl ?_
      refine to_gf rfl rfl rfl rfl ?_
      refine to_pkT rfl rfl rfl ?_
      refine to_as rfl rfl ?_
      refine to_nil ?_
      refine tn_blk ?_
      refine tn_code ?_
      refine t_seq ?_
      refine t_seq ?_
      refine t_reg ?_
      refine to_mv rfl rfl ?_
      refine to_nil ?_
      refine tn_code ?_
      refine t_ifT rfl ?_
      refine t_reg ?_
      refine to_mv rfl rfl ?_
      refine to_add rfl rfl (by omega) rfl ?_
      refine to_as rfl rfl ?_
      refine to_nil ?_
      refine tn_code ?_
      refine t_seq ?_
      refine t_reg ?_
      refine to_mv rfl rfl ?_
      refine to_as rfl rfl ?_
      refine to_nil ?_
      refine tn_code ?_
      refine t_ret1 rfl rfl (res_tmp rfl) (fun w' s => ?_)
      refine congrArg (Value.int .i64) ?_
      have hm1 := tmod2 (v.tdiv u)
      have hm2 := tmod2 (v.tdiv u - 1)
      rw [hq.2.2.2]; split <;> simp_all <;> omega
    · try simp only [decide_eq_true_eq, decide_eq_false_iff_not, Bool.not_eq_true', Bool.not_eq_false', Int.not_lt, Int.not_le, ne_eq, Decidable.not_not] at h2
      try have h2b := inB_iff.1 h2
      refine to_gt rfl rfl ?_
      refine to_mv rfl rfl ?_
      refine to_gt rfl rfl ?_
      refine to_mul rfl rfl (by first | omega | exact mul_ok (by omega) (by omega) (by omega) (by omega)) rfl ?_
      refine to_gt rfl rfl ?_
      refine to_mv rfl rfl ?_
      refine to_gt rfl rfl ?_
      refine to_eql rfl rfl rfl ?_
      refine to_gt rfl rfl ?_
      refine to_mv rfl rfl ?_
      refine to_gs rfl rfl rfl (fun h3 => ?_) (fun h3 => ?_)
      · try simp only [decide_eq_true_eq, decide_eq_false_iff_not, Bool.not_eq_true', Bool.not_eq_false', Int.not_lt, Int.not_le, ne_eq, Decidable.not_not] at h3
        try have h3b := inB_iff.1 h3
        refine to_gt rfl rfl ?_
        refine to_mv rfl rfl ?_
        refine to_gt rfl rfl ?_
        refine to_remw rfl rfl (by decide) rfl ?_
        refine to_gt rfl rfl ?_
        refine to_neq rfl rfl rfl ?_
        refine to_gt rfl rfl ?_
        refine to_pkT rfl rfl rfl ?_
        refine to_pkF rfl rfl rfl ?_
        refine to_as rfl rfl ?_
        refine to_nil ?_
        refine tn_blk ?_
        refine tn_code ?_
        refine t_seq ?_
        refine t_seq ?_
        refine t_reg ?_
        refine to_mv rfl rfl ?_
        refine to_nil ?_
        refine tn_code ?_
        refine t_if rfl (fun h4 => ?_) (fun h4 => ?_)
        · try simp only [decide_eq_true_eq, decide_eq_false_iff_not, Bool.not_eq_true', Bool.not_eq_false', Int.not_lt, Int.not_le, ne_eq, Decidable.not_not] at h4
          try have h4b := inB_iff.1 h4
          refine t_reg ?_
          refine to_mv rfl rfl ?_
          refine to_add rfl rfl (by omega) rfl ?_
          refine to_as rfl rfl ?_
          refine to_nil ?_
          refine tn_code ?_
          refine t_seq ?_
          refine t_reg ?_
          refine to_mv rfl rfl ?_
          refine to_as rfl rfl ?_
          refine to_nil ?_
          refine tn_code ?_
          refine t_ret1 rfl rfl (res_tmp rfl) (fun w' s => ?_)
          refine congrArg (Value.int .i64) ?_
          have hm1 := tmod2 (v.tdiv u)
          have hm2 := tmod2 (v.tdiv u - 1)
          rw [hq.2.2.2]; split <;> simp_all <;> omega
        · try simp only [decide_eq_true_eq, decide_eq_false_iff_not, Bool.not_eq_true', Bool.not_eq_false', Int.not_lt, Int.not_le, ne_eq, Decidable.not_not] at h4
          try have h4b := inB_iff.1 h4
          refine t_skip ?_
          refine tn_code ?_
          refine t_seq ?_
          refine t_reg ?_
          refine to_mv rfl rfl ?_
          refine to_as rfl rfl ?_
          refine to_nil ?_
          refine tn_code ?_
          refine t_ret1 rfl rfl (res_tmp rfl) (fun w' s => ?_)
          refine congrArg (Value.int .i64) ?_
          have hm1 := tmod2 (v.tdiv u)
          have hm2 := tmod2 (v.tdiv u - 1)
          rw [hq.2.2.2]; split <;> simp_all <;> omega
      · try simp only [decide_eq_true_eq, decide_eq_false_iff_not, Bool.not_eq_true', Bool.not_eq_false', Int.not_lt, Int.not_le, ne_eq, Decidable.not_not] at h3
        try have h3b := inB_iff.1 h3
        refine to_gf rfl rfl rfl rfl ?_
        refine to_gf rfl rfl rfl rfl ?_
        refine to_gf rfl rfl rfl rfl ?_
        refine to_gt rfl rfl ?_
        refine to_pkF rfl rfl rfl ?_
        refine to_pkF rfl rfl rfl ?_
        refine to_as rfl rfl ?_
        refine to_nil ?_
        refine tn_blk ?_
        refine tn_code ?_
        refine t_seq ?_
        refine t_seq ?_
        refine t_reg ?_
        refine to_mv rfl rfl ?_
        refine to_nil ?_
        refine tn_code ?_
        refine t_ifF rfl ?_
        refine t_skip ?_
        refine tn_code ?_
        refine t_seq ?_
        refine t_reg ?_
        refine to_mv rfl rfl ?_
        refine to_as rfl rfl ?_
        refine to_nil ?_
        refine tn_code ?_
        refine t_ret1 rfl rfl (res_tmp rfl) (fun w' s => ?_)
        refine congrArg (Value.int .i64) ?_
        have hm1 := tmod2 (v.tdiv u)
        have hm2 := tmod2 (v.tdiv u - 1)
        rw [hq.2.2.2]; split <;> simp_all <;> omega
  · try simp only [decide_eq_true_eq, decide_eq_false_iff_not, Bool.not_eq_true', Bool.not_eq_false', Int.not_lt, Int.not_le, ne_eq, Decidable.not_not] at h1
    try have h1b := inB_iff.1 h1
    rcases hc with ⟨e, hx⟩ | ⟨e, hx⟩
    rotate_left
    · exfalso; omega
    rw [← e] at he
    have hq := toF_q hu.1 he.1 he.2
    refine t_skip ?_
    refine tn_code ?_
    refine t_seq ?_
    refine t_reg ?_
    refine to_mv rfl rfl ?_
    refine to_mv rfl rfl ?_
    refine to_mv rfl rfl ?_
    refine to_mul rfl rfl (by first | omega | exact mul_ok (by omega) (by omega) (by omega) (by omega)) rfl ?_
    refine to_sub rfl rfl (by omega) rfl ?_
    refine to_as rfl rfl ?_
    refine to_nil ?_
    refine tn_code ?_
    refine t_seq ?_
    refine t_reg ?_
    refine to_as rfl rfl ?_
    refine to_nil ?_
    refine tn_code ?_
    refine t_seq ?_
    refine t_seq ?_
    refine t_reg ?_
    refine to_mv rfl rfl ?_
    refine to_nil ?_
    refine tn_code ?_
    refine t_blk ?_
    refine t_seq ?_
    refine t_reg ?_
    refine to_eql rfl rfl rfl ?_
    refine to_fix (s := 27) (b' := false) rfl (rfl) ?_
    refine to_as rfl rfl ?_
    refine to_nil ?_
    refine tn_code ?_
    refine t_ifF rfl ?_
    refine t_seq ?_
    refine t_reg ?_
    refine to_eql rfl rfl rfl ?_
    refine to_fix (s := 31) (b' := false) rfl (rfl) ?_
    refine to_as rfl rfl ?_
    refine to_nil ?_
    refine tn_code ?_
    refine t_ifF rfl ?_
    refine t_seq ?_
    refine t_reg ?_
    refine to_eql rfl rfl rfl ?_
    refine to_fix (s := 37) (b' := true) rfl (rfl) ?_
    refine to_as rfl rfl ?_
    refine to_nil ?_
    refine tn_code ?_
    refine t_ifT rfl ?_
    refine t_reg ?_
    refine to_mv rfl rfl ?_
    refine to_mul rfl rfl (by first | omega | exact mul_ok (by omega) (by omega) (by omega) (by omega)) rfl ?_
    refine to_mv rfl rfl ?_
    refine to_gtr rfl rfl rfl ?_
    refine to_mv rfl rfl ?_
    refine to_gs rfl rfl rfl (fun h5 => ?_) (fun h5 => ?_)
    · try simp only [decide_eq_true_eq, decide_eq_false_iff_not, Bool.not_eq_true', Bool.not_eq_false', Int.not_lt, Int.not_le, ne_eq, Decidable.not_not] at h5
      try have h5b := inB_iff.1 h5
      refine to_gf rfl rfl rfl rfl ?_
      refine to_gf rfl rfl rfl rfl ?_
      refine to_gf rfl rfl rfl rfl ?_
      refine to_gf rfl rfl rfl rfl ?_
      refine to_gf rfl rfl rfl rfl ?_
      refine to_gf rfl rfl rfl rfl ?_
      refine to_gf rfl rfl rfl rfl ?_
      refine to_gf rfl rfl rfl rfl ?_
      refine to_gf rfl rfl rfl rfl ?_
      refine to_pkT rfl rfl rfl ?_
      refine to_as rfl rfl ?_
      refine to_nil ?_
      refine tn_blk ?_
      refine tn_code ?_
      refine t_seq ?_
      refine t_seq ?_
      refine t_reg ?_
      refine to_mv rfl rfl ?_
      refine to_nil ?_
      refine tn_code ?_
      refine t_ifT rfl ?_
      refine t_reg ?_
      refine to_mv rfl rfl ?_
      refine to_add rfl rfl (by omega) rfl ?_
      refine to_as rfl rfl ?_
      refine to_nil ?_
      refine tn_code ?_
      refine t_seq ?_
      refine t_reg ?_
      refine to_mv rfl rfl ?_
      refine to_as rfl rfl ?_
      refine to_nil ?_
      refine tn_code ?_
      refine t_ret1 rfl rfl (res_tmp rfl) (fun w' s => ?_)
      refine congrArg (Value.int .i64) ?_
      have hm1 := tmod2 (v.tdiv u)
      have hm2 := tmod2 (v.tdiv u - 1)
      rw [hq.2.2.2]; split <;> simp_all <;> omega
    · try simp only [decide_eq_true_eq, decide_eq_false_iff_not, Bool.not_eq_true', Bool.not_eq_false', Int.not_lt, Int.not_le, ne_eq, Decidable.not_not] at h5
      try have h5b := inB_iff.1 h5
      refine to_gt rfl rfl ?_
      refine to_mv rfl rfl ?_
      refine to_gt rfl rfl ?_
      refine to_mul rfl rfl (by first | omega | exact mul_ok (by omega) (by omega) (by omega) (by omega)) rfl ?_
      refine to_gt rfl rfl ?_
      refine to_mv rfl rfl ?_
      refine to_gt rfl rfl ?_
      refine to_eql rfl rfl rfl ?_
      refine to_gt rfl rfl ?_
      refine to_mv rfl rfl ?_
      refine to_gs rfl rfl rfl (fun h6 => ?_) (fun h6 => ?_)
      · try simp only [decide_eq_true_eq, decide_eq_false_iff_not, Bool.not_eq_true', Bool.not_eq_false', Int.not_lt, Int.not_le, ne_eq, Decidable.not_not] at h6
        try have h6b := inB_iff.1 h6
        refine to_gt rfl rfl ?_
        refine to_mv rfl rfl ?_
        refine to_gt rfl rfl ?_
        refine to_remw rfl rfl (by decide) rfl ?_
        refine to_gt rfl rfl ?_
        refine to_neq rfl rfl rfl ?_
        refine to_gt rfl rfl ?_
        refine to_pkT rfl rfl rfl ?_
        refine to_pkF rfl rfl rfl ?_
        refine to_as rfl rfl ?_
        refine to_nil ?_
        refine tn_blk ?_
        refine tn_code ?_
        refine t_seq ?_
        refine t_seq ?_
        refine t_reg ?_
        refine to_mv rfl rfl ?_
        refine to_nil ?_
        refine tn_code ?_
        refine t_if rfl (fun h7 => ?_) (fun h7 => ?_)
        · try simp only [decide_eq_true_eq, decide_eq_false_iff_not, Bool.not_eq_true', Bool.not_eq_false', Int.not_lt, Int.not_le, ne_eq, Decidable.not_not] at h7
          try have h7b := inB_iff.1 h7
          refine t_reg ?_
          refine to_mv rfl rfl ?_
          refine to_add rfl rfl (by omega) rfl ?_
          refine to_as rfl rfl ?_
          refine to_nil ?_
          refine tn_code ?_
          refine t_seq ?_
          refine t_reg ?_
          refine to_mv rfl rfl ?_
          refine to_as rfl rfl ?_
          refine to_nil ?_
          refine tn_code ?_
          refine t_ret1 rfl rfl (res_tmp rfl) (fun w' s => ?_)
          refine congrArg (Value.int .i64) ?_
          have hm1 := tmod2 (v.tdiv u)
          have hm2 := tmod2 (v.tdiv u - 1)
          rw [hq.2.2.2]; split <;> simp_all <;> omega
        · try simp only [decide_eq_true_eq, decide_eq_false_iff_not, Bool.not_eq_true', Bool.not_eq_false', Int.not_lt, Int.not_le, ne_eq, Decidable.not_not] at h7
          try have h7b := inB_iff.1 h7
          refine t_skip ?_
          refine tn_code ?_
          refine t_seq ?_
          refine t_reg ?_
          refine to_mv rfl rfl ?_
          refine to_as rfl rfl ?_
          refine to_nil ?_
          refine tn_code ?_
          refine t_ret1 rfl rfl (res_tmp rfl) (fun w' s => ?_)
          refine congrArg (Value.int .i64) ?_
          have hm1 := tmod2 (v.tdiv u)
          have hm2 := tmod2 (v.tdiv u - 1)
          rw [hq.2.2.2]; split <;> simp_all <;> omega
      · try simp only [decide_eq_true_eq, decide_eq_false_iff_not, Bool.not_eq_true', Bool.not_eq_false', Int.not_lt, Int.not_le, ne_eq, Decidable.not_not] at h6
        try have h6b := inB_iff.1 h6
        refine to_gf rfl rfl rfl rfl ?_
        refine to_gf rfl rfl rfl rfl ?_
        refine to_gf rfl rfl rfl rfl ?_
        refine to_gt rfl rfl ?_
        refine to_pkF rfl rfl rfl ?_
        refine to_pkF rfl rfl rfl ?_
        refine to_as rfl rfl ?_
        refine to_nil ?_
        refine tn_blk ?_
        refine tn_code ?_
        refine t_seq ?_
        refine t_seq ?_
        refine t_reg ?_
        refine to_mv rfl rfl ?_
        refine to_nil ?_
        refine tn_code ?_
        refine t_ifF rfl ?_
        refine t_skip ?_
        refine tn_code ?_
        refine t_seq ?_
        refine t_reg ?_
        refine to_mv rfl rfl ?_
        refine to_as rfl rfl ?_
        refine to_nil ?_
        refine tn_code ?_
        refine t_ret1 rfl rfl (res_tmp rfl) (fun w' s => ?_)
        refine congrArg (Value.int .i64) ?_
        have hm1 := tmod2 (v.tdiv u)
        have hm2 := tmod2 (v.tdiv u - 1)
        rw [hq.2.2.2]; split <;> simp_all <;> omega

theorem ref_To (v u r : Int) (w : World) (hu : 1 ≤ u ∧ u ≤ 1048576) (hv : -1099511627776 ≤ v ∧ v ≤ 1099511627776) (hr : 1 ≤ r ∧ r ≤ 4) : Calls Tryz.prog 84 #[.int .i64 v, .int .i64 u, .int .i64 r] w (RetV w (.int .i64 (toF u r v))) := by
  obtain rfl | rfl | rfl | rfl : r = 1 ∨ r = 2 ∨ r = 3 ∨ r = 4 := by omega
  · exact ref_To1 v u w hu hv
  · exact ref_To2 v u w hu hv
  · exact ref_To3 v u w hu hv
  · exact ref_To4 v u w hu hv

end Go.Proofs


namespace Go.Proofs
open Go Go.Sx Go.RowKit

end Go.Proofs


namespace Go.Proofs
open Go Go.Sx Go.RowKit

theorem ref_arg {sh : Sh} (hs : isSh sh = true) : (1 ≤ sh.unit ∧ sh.unit ≤ 1048576) ∧ (1 ≤ sh.rule ∧ sh.rule ≤ 4) := by
  have := isSh_b hs
  omega
def RSpS (xs : List Sp) : Nat → World → Value → Prop := fun lo w1 v => ∃ a1 c1, v = .slice a1 xs.length c1 ∧ Ro w1 lo w1.heap.size a1 xs.length c1 2 (spans xs)
theorem rsps_of {xs : List Sp} {n c lo : Nat} {a : Option Addr} {w : World} (hn : xs.length = n) (h : Ro w lo w.heap.size a n c 2 (spans xs)) : RSpS xs lo w (.slice a n c) := by
  subst hn; exact ⟨a, c, rfl, h⟩

set_option maxRecDepth 20000 in
theorem ref_of (sh : Sh) (pt : Pt) (v : Int) (w : World) (hs : isSh sh = true) (hv : -1099511627776 ≤ v ∧ v ≤ 1099511627776) : Calls Tryz.prog 61 #[shV sh pt, (.int .i64 v)] w (RetV w (.int .i64 (fig sh v))) := by
  refine calls_T0 (av := [_, _]) Tryz.func61 rfl rfl rfl ?_
  refine t_seq ?_
  refine t_reg ?_
  refine to_box rfl rfl (fun b2 => ?_)
  refine to_as rfl rfl ?_
  refine to_nil ?_
  refine tn_code ?_
  refine t_seq ?_
  refine t_reg ?_
  refine to_mv rfl rfl ?_
  first | refine to_fa rfl rfl rfl (by simp only [Nat.reduceAdd]; rfl) rfl ?_ | refine to_fae rfl rfl rfl (by simp only [Nat.reduceAdd]; rfl) rfl ?_
  first | refine to_lds rfl rfl rfl ?_ | refine to_ldes rfl (by assumption) rfl rfl ?_
  first | refine to_fa rfl rfl rfl (by simp only [Nat.reduceAdd]; rfl) rfl ?_ | refine to_fae rfl rfl rfl (by simp only [Nat.reduceAdd]; rfl) rfl ?_
  first | refine to_lds rfl rfl rfl ?_ | refine to_ldes rfl (by assumption) rfl rfl ?_
  refine to_call0 rfl rfl (fun w s => ref_To v sh.unit sh.rule w (ref_arg hs).1 hv (ref_arg hs).2) rfl ?_
  refine to_as rfl rfl ?_
  refine to_nil ?_
  refine tn_code ?_
  refine t_ret1 rfl rfl (res_tmp rfl) (fun w' s => ?_)
  rfl

set_option maxRecDepth 20000 in
theorem ref_Bounds (sh : Sh) (pt : Pt) (k : Nat) (e : Int) (w : World) (hre : Ro w 0 w.heap.size pt.ea sh.errs.length pt.ec 1 (ints sh.errs)) (hrr : Ro w 0 w.heap.size pt.ra sh.rows.length pt.rc 1 (ints sh.rows)) (hs : isSh sh = true) (he : sh.errs[k]? = some e) : Calls Tryz.prog 29 #[shV sh pt, (.int .i64 (k : Int))] w (Ret w (RSpS (bndL sh e))) := by
  have heb := errs_b (isSh_e hs) e (List.mem_of_getElem? he)
  have hbb := isSh_b hs
  have hxe := map_get (f := intC) he
  have hke := (List.getElem?_eq_some_iff.1 he).1
  refine calls_T (av := [_, _]) Tryz.func29 rfl rfl rfl ?_
  refine t_seq ?_
  refine t_reg ?_
  refine to_box rfl rfl (fun b2 => ?_)
  refine to_as rfl rfl ?_
  refine to_nil ?_
  refine tn_code ?_
  refine t_seq ?_
  refine t_reg ?_
  refine to_as rfl rfl ?_
  refine to_nil ?_
  refine tn_code ?_
  refine t_seq ?_
  refine t_seq ?_
  refine t_reg ?_
  refine to_as rfl rfl ?_
  refine to_nil ?_
  refine tn_code ?_
  refine t_blk ?_
  refine t_nilrow 33 2 ?_
  refine t_loop2 (ι := Nat × Option Addr × Nat) (fun ((i, a', c') : Nat × Option Addr × Nat) => i ≤ sh.rows.length) (fun ((i, a', c') : Nat × Option Addr × Nat) => [(1, (.int .i64 (k : Int))), (2, (.pointer (some ⟨b2, 0, none⟩))), (5, .slice a' i c'), (6, (.int .i64 (i : Int)))]) (fun ((i, a', c') : Nat × Option Addr × Nat) => [.row a' i c' 33 2 (spans ((sh.rows.take i).map fun r => (r - e, r + e))), .own b2 (isC (shC sh pt) 25), .snap 0 w.heap.size w]) (fun ((i, a', c') : Nat × Option Addr × Nat) => sh.rows.length - i) ((0, none, 0)) [.row none 0 0 33 2 [], .own b2 (isC (shC sh pt) 25), .snap 0 w.heap.size w] (rfl) (Nat.zero_le _) (⟨rfl, rfl, rfl, rfl, trivial⟩) ?_
  rintro ⟨i, a', c'⟩ hk
  try dsimp only at hk
  show T _ _ _ ⟨_, [(1, (.int .i64 (k : Int))), (2, (.pointer (some ⟨b2, 0, none⟩))), (5, .slice a' i c'), (6, (.int .i64 (i : Int)))], _⟩ [.row a' i c' 33 2 (spans ((sh.rows.take i).map fun r => (r - e, r + e))), .own b2 (isC (shC sh pt) 25), .snap 0 w.heap.size w]
  refine t_seq ?_
  refine t_seq ?_
  refine t_reg ?_
  refine to_mv rfl rfl ?_
  first | refine to_fa rfl rfl rfl (by simp only [Nat.reduceAdd]; rfl) rfl ?_ | refine to_fae rfl rfl rfl (by simp only [Nat.reduceAdd]; rfl) rfl ?_
  first | refine to_lds rfl rfl rfl ?_ | refine to_ldes rfl (by assumption) rfl rfl ?_
  refine to_lenS rfl rfl ?_
  refine to_lss rfl rfl rfl ?_
  refine to_nil ?_
  refine tn_code ?_
  refine t_if rfl (fun h1 => ?_) (fun h1 => ?_)
  · try simp only [decide_eq_true_eq, decide_eq_false_iff_not, Bool.not_eq_true', Bool.not_eq_false', Int.not_lt, Int.not_le, ne_eq, Decidable.not_not] at h1
    try have h1b := inB_iff.1 h1
    obtain ⟨r, hr⟩ := some_get (xs := sh.rows) (k := i) (by omega)
    have hrb := isSh_r hs (List.mem_of_getElem? hr)
    have hxr := map_get (f := intC) hr
    refine t_skip ?_
    refine tn_code ?_
    refine t_seq ?_
    refine t_blk ?_
    refine t_regM [24, 25] [.own b2 (isC (shC sh pt) 25), .snap 0 w.heap.size w] rfl (by kernel_rfl) (by kernel_rfl) ?_
    refine tm_q ?e1 rfl ?q1 ?r1
    case q1 =>
      refine to_mv rfl rfl ?_
      exact tmq_end
    refine tm_q ?e2 rfl ?q2 ?r2
    case q2 =>
      first | refine to_fa rfl rfl rfl (by simp only [Nat.reduceAdd]; rfl) rfl ?_ | refine to_fae rfl rfl rfl (by simp only [Nat.reduceAdd]; rfl) rfl ?_
      exact tmq_end
    refine tm_q ?e3 rfl ?q3 ?r3
    case q3 =>
      first | refine to_lds rfl rfl rfl ?_ | refine to_ldes rfl (by assumption) rfl rfl ?_
      exact tmq_end
    refine tm_q ?e4 rfl ?q4 ?r4
    case q4 =>
      refine to_mv rfl rfl ?_
      exact tmq_end
    refine tm_q ?e5 rfl ?q5 ?r5
    case q5 =>
      first | refine to_ix rfl rfl rfl (by first | omega | decide) (by first | omega | decide) rfl ?_ | refine to_ixi rfl rfl rfl (by omega) (by omega) (by omega) rfl ?_
      exact tmq_end
    refine tm_q ?e6 rfl ?q6 ?r6
    case q6 =>
      first | refine to_lds rfl rfl rfl ?_ | refine to_ldes rfl (by assumption) rfl rfl ?_
      exact tmq_end
    refine tm_q ?e7 rfl ?q7 ?r7
    case q7 =>
      first | refine to_fa rfl rfl rfl (by simp only [Nat.reduceAdd]; rfl) rfl ?_ | refine to_fae rfl rfl rfl (by simp only [Nat.reduceAdd]; rfl) rfl ?_
      exact tmq_end
    refine tm_q ?e8 rfl ?q8 ?r8
    case q8 =>
      first | refine to_lds rfl rfl rfl ?_ | refine to_ldes rfl (by assumption) rfl rfl ?_
      exact tmq_end
    refine tm_q ?e9 rfl ?q9 ?r9
    case q9 =>
      refine to_mv rfl rfl ?_
      exact tmq_end
    refine tm_q ?e10 rfl ?q10 ?r10
    case q10 =>
      first | refine to_ix rfl rfl rfl (by first | omega | decide) (by first | omega | decide) rfl ?_ | refine to_ixi rfl rfl rfl (by omega) (by omega) (by omega) rfl ?_
      exact tmq_end
    refine tm_q ?e11 rfl ?q11 ?r11
    case q11 =>
      first | refine to_lds rfl rfl rfl ?_ | refine to_ldes rfl (by assumption) rfl rfl ?_
      exact tmq_end
    refine tm_q ?e12 rfl ?q12 ?r12
    case q12 =>
      refine to_sub rfl rfl (by omega) rfl ?_
      exact tmq_end
    refine tm_q ?e13 rfl ?q13 ?r13
    case q13 =>
      first | refine to_fa rfl rfl rfl (by simp only [Nat.reduceAdd]; rfl) rfl ?_ | refine to_fae rfl rfl rfl (by simp only [Nat.reduceAdd]; rfl) rfl ?_
      exact tmq_end
    refine tm_q ?e14 rfl ?q14 ?r14
    case q14 =>
      first | refine to_lds rfl rfl rfl ?_ | refine to_ldes rfl (by assumption) rfl rfl ?_
      exact tmq_end
    refine tm_q ?e15 rfl ?q15 ?r15
    case q15 =>
      refine to_mv rfl rfl ?_
      exact tmq_end
    refine tm_q ?e16 rfl ?q16 ?r16
    case q16 =>
      first | refine to_ix rfl rfl rfl (by first | omega | decide) (by first | omega | decide) rfl ?_ | refine to_ixi rfl rfl rfl (by omega) (by omega) (by omega) rfl ?_
      exact tmq_end
    refine tm_q ?e17 rfl ?q17 ?r17
    case q17 =>
      first | refine to_lds rfl rfl rfl ?_ | refine to_ldes rfl (by assumption) rfl rfl ?_
      exact tmq_end
    refine tm_q ?e18 rfl ?q18 ?r18
    case q18 =>
      first | refine to_fa rfl rfl rfl (by simp only [Nat.reduceAdd]; rfl) rfl ?_ | refine to_fae rfl rfl rfl (by simp only [Nat.reduceAdd]; rfl) rfl ?_
      exact tmq_end
    refine tm_q ?e19 rfl ?q19 ?r19
    case q19 =>
      first | refine to_lds rfl rfl rfl ?_ | refine to_ldes rfl (by assumption) rfl rfl ?_
      exact tmq_end
    refine tm_q ?e20 rfl ?q20 ?r20
    case q20 =>
      refine to_mv rfl rfl ?_
      exact tmq_end
    refine tm_q ?e21 rfl ?q21 ?r21
    case q21 =>
      first | refine to_ix rfl rfl rfl (by first | omega | decide) (by first | omega | decide) rfl ?_ | refine to_ixi rfl rfl rfl (by omega) (by omega) (by omega) rfl ?_
      exact tmq_end
    refine tm_q ?e22 rfl ?q22 ?r22
    case q22 =>
      first | refine to_lds rfl rfl rfl ?_ | refine to_ldes rfl (by assumption) rfl rfl ?_
      exact tmq_end
    refine tm_q ?e23 rfl ?q23 ?r23
    case q23 =>
      refine to_add rfl rfl (by omega) rfl ?_
      exact tmq_end
    refine tm_q ?e24 rfl ?q24 ?r24
    case q24 =>
      refine to_bs rfl rfl ?_
      exact tmq_end
    refine tm_s rfl ?_ (fun _ h => by cases h) rfl
    refine to_bsl rfl rfl rfl rfl (fun a38 => ?_)
    refine tm_se rfl ?_
    refine tm_s rfl ?_ (fun _ h => by cases h) rfl
    refine to_app rfl rfl rfl (by simp [scals, scal]) (by decide) (by omega) (by decide) rfl (fun a39 c39 => ?_)
    refine tm_se rfl ?_
    refine tm_q ?e25 rfl ?q25 ?r25
    case q25 =>
      refine to_as rfl rfl ?_
      exact tmq_end
    refine tm_nil ?_
    refine tn_blk ?_
    refine tn_code ?_
    refine t_reg ?_
    refine to_mv rfl rfl ?_
    refine to_add rfl rfl (by omega) rfl ?_
    refine to_as rfl rfl ?_
    refine to_nil ?_
    exact tn_loop2 ((i + 1, a39, c39)) [.row a39 (i + 1) c39 33 2 (spans ((sh.rows.take i).map fun r => (r - e, r + e)) ++ [[Value.int .i64 (r - e), Value.int .i64 (r + e)]]), .own b2 (isC (shC sh pt) 25), .snap 0 w.heap.size w] (by dsimp only; rw [mapk_succ hr]) (by dsimp only; omega) (by dsimp only; omega) (⟨rfl, rfl, rfl, rfl, trivial⟩)
  · try simp only [decide_eq_true_eq, decide_eq_false_iff_not, Bool.not_eq_true', Bool.not_eq_false', Int.not_lt, Int.not_le, ne_eq, Decidable.not_not] at h1
    try have h1b := inB_iff.1 h1
    have hk2 : i = sh.rows.length := by omega
    subst hk2
    refine t_exit ?_
    refine tx_code ?_
    refine tx_inv ?_
    refine tx_blk ?_
    refine tn_code ?_
    refine t_seq ?_
    refine t_reg ?_
    refine to_mv rfl rfl ?_
    refine to_as rfl rfl ?_
    refine to_nil ?_
    refine tn_code ?_
    refine t_ret1 rfl rfl (res_tmp rfl) (fun w' s => ?_)
    rw [List.take_length] at s; exact rsps_of (by simp [bndL]) (ro_row s)

theorem bnd_len (sh : Sh) (e : Int) : (bndL sh e).length = sh.rows.length := by simp [bndL]
theorem fig_len (sh : Sh) (e : Int) : (figL sh e).length = sh.rows.length := by simp [figL]
theorem bnd_get {sh : Sh} {e r : Int} {i : Nat} (hr : sh.rows[i]? = some r) : (spans (bndL sh e))[i]? = some (spanC (r - e, r + e)) := by
  have : (bndL sh e)[i]? = some (r - e, r + e) := by simp [bndL, hr]
  exact map_get (f := spanC) this
/-- The greatest figure up to one of the exact numbers. -/
def upF (sh : Sh) (lo : Int) (j : Nat) : Int := fig sh (lo + ((j - 1 : Nat) : Int))
theorem upF_0 (sh : Sh) (lo : Int) : upF sh lo 0 = fig sh lo := by simp [upF]
theorem upF_step {sh : Sh} (hs : isSh sh = true) (lo : Int) (j : Nat) : max (upF sh lo j) (fig sh (lo + j)) = upF sh lo (j + 1) := by
  have h1 : upF sh lo (j + 1) = fig sh (lo + j) := by simp [upF]
  have h2 := fig_mono hs (show lo + ((j - 1 : Nat) : Int) ≤ lo + j by omega)
  rw [h1]
  simp only [upF]; omega
theorem loF_step {sh : Sh} (hs : isSh sh = true) (lo : Int) (j : Nat) : min (fig sh lo) (fig sh (lo + j)) = fig sh lo := by
  have h2 := fig_mono hs (show lo ≤ lo + j by omega)
  omega
theorem upF_end {sh : Sh} {r e : Int} {j : Nat} (h : (j : Int) = 2 * e + 1) : upF sh (r - e) j = fig sh (r + e) := by
  simp only [upF]; congr 1; omega

set_option maxRecDepth 20000 in
theorem ref_Figures (sh : Sh) (pt : Pt) (k : Nat) (e : Int) (w : World) (hre : Ro w 0 w.heap.size pt.ea sh.errs.length pt.ec 1 (ints sh.errs)) (hrr : Ro w 0 w.heap.size pt.ra sh.rows.length pt.rc 1 (ints sh.rows)) (hs : isSh sh = true) (he : sh.errs[k]? = some e) : Calls Tryz.prog 30 #[shV sh pt, (.int .i64 (k : Int))] w (Ret w (RSpS (figL sh e))) := by
  have heb := errs_b (isSh_e hs) e (List.mem_of_getElem? he)
  have hbb := isSh_b hs
  have hxe := map_get (f := intC) he
  have hke := (List.getElem?_eq_some_iff.1 he).1
  have hbl := bnd_len sh e
  refine calls_T (av := [_, _]) Tryz.func30 rfl rfl rfl ?_
  refine t_seq ?_
  refine t_reg ?_
  refine to_box rfl rfl (fun b2 => ?_)
  refine to_as rfl rfl ?_
  refine to_nil ?_
  refine tn_code ?_
  refine t_seq ?_
  refine t_reg ?_
  first | refine to_lda rfl rfl rfl ?_ | refine to_ldea rfl (by assumption) rfl rfl ?_
  refine to_mv rfl rfl ?_
  refine to_callR rfl rfl (fun w s => ref_Bounds sh pt k e w (rdw s) (rdw s) hs he) rfl (fun v12 lo12 w12 hlo12 hR12 => ?_)
  obtain ⟨pa12, pc12, rfl, hro12⟩ := hR12
  rw [hbl] at *
  refine to_as rfl rfl ?_
  refine to_nil ?_
  refine tn_code ?_
  refine t_seq ?_
  refine t_reg ?_
  refine to_as rfl rfl ?_
  refine to_nil ?_
  refine tn_code ?_
  refine t_seq ?_
  refine t_seq ?_
  refine t_reg ?_
  refine to_as rfl rfl ?_
  refine to_nil ?_
  refine tn_code ?_
  refine t_blk ?_
  refine t_nilrow 33 2 ?_
  refine t_loop2 (ι := Nat × Option Addr × Nat) (fun ((i, a', c') : Nat × Option Addr × Nat) => i ≤ sh.rows.length) (fun ((i, a', c') : Nat × Option Addr × Nat) => [(2, (.pointer (some ⟨b2, 0, none⟩))), (5, .slice pa12 sh.rows.length pc12), (6, .slice a' i c'), (7, (.int .i64 (i : Int)))]) (fun ((i, a', c') : Nat × Option Addr × Nat) => [.row a' i c' 33 2 (spans ((sh.rows.take i).map fun r => (fig sh (r - e), fig sh (r + e)))), .snap lo12 w12.heap.size w12, .own b2 (isC (shC sh pt) 25), .snap 0 w.heap.size w]) (fun ((i, a', c') : Nat × Option Addr × Nat) => sh.rows.length - i) ((0, none, 0)) [.row none 0 0 33 2 [], .snap lo12 w12.heap.size w12, .own b2 (isC (shC sh pt) 25), .snap 0 w.heap.size w] (rfl) (Nat.zero_le _) (⟨rfl, rfl, rfl, rfl, trivial⟩) ?_
  rintro ⟨i, a', c'⟩ hk
  try dsimp only at hk
  show T _ _ _ ⟨_, [(2, (.pointer (some ⟨b2, 0, none⟩))), (5, .slice pa12 sh.rows.length pc12), (6, .slice a' i c'), (7, (.int .i64 (i : Int)))], _⟩ [.row a' i c' 33 2 (spans ((sh.rows.take i).map fun r => (fig sh (r - e), fig sh (r + e)))), .snap lo12 w12.heap.size w12, .own b2 (isC (shC sh pt) 25), .snap 0 w.heap.size w]
  refine t_seq ?_
  refine t_seq ?_
  refine t_reg ?_
  refine to_mv rfl rfl ?_
  refine to_mv rfl rfl ?_
  refine to_lenS rfl rfl ?_
  refine to_lss rfl rfl rfl ?_
  refine to_nil ?_
  refine tn_code ?_
  refine t_if rfl (fun h1 => ?_) (fun h1 => ?_)
  · try simp only [decide_eq_true_eq, decide_eq_false_iff_not, Bool.not_eq_true', Bool.not_eq_false', Int.not_lt, Int.not_le, ne_eq, Decidable.not_not] at h1
    try have h1b := inB_iff.1 h1
    obtain ⟨r, hr⟩ := some_get (xs := sh.rows) (k := i) (by omega)
    have hrb := isSh_r hs (List.mem_of_getElem? hr)
    have hxr := bnd_get (e := e) hr
    refine t_skip ?_
    refine tn_code ?_
    refine t_seq ?_
    refine t_blk ?_
    refine t_seq ?_
    refine t_regM [15, 16] [.snap lo12 w12.heap.size w12, .own b2 (isC (shC sh pt) 25), .snap 0 w.heap.size w] rfl (by kernel_rfl) (by kernel_rfl) ?_
    refine tm_q ?e1 rfl ?q1 ?r1
    case q1 =>
      first | refine to_lda rfl rfl rfl ?_ | refine to_ldea rfl (by assumption) rfl rfl ?_
      exact tmq_end
    refine tm_q ?e2 rfl ?q2 ?r2
    case q2 =>
      refine to_mv rfl rfl ?_
      exact tmq_end
    refine tm_q ?e3 rfl ?q3 ?r3
    case q3 =>
      refine to_mv rfl rfl ?_
      exact tmq_end
    refine tm_q ?e4 rfl ?q4 ?r4
    case q4 =>
      first | refine to_ix rfl rfl rfl (by first | omega | decide) (by first | omega | decide) rfl ?_ | refine to_ixi rfl rfl rfl (by omega) (by omega) (by omega) rfl ?_
      exact tmq_end
    refine tm_q ?e5 rfl ?q5 ?r5
    case q5 =>
      first | refine to_fa rfl rfl rfl (by simp only [Nat.reduceAdd]; rfl) rfl ?_ | refine to_fae rfl rfl rfl (by simp only [Nat.reduceAdd]; rfl) rfl ?_
      exact tmq_end
    refine tm_q ?e6 rfl ?q6 ?r6
    case q6 =>
      first | refine to_lds rfl rfl rfl ?_ | refine to_ldes rfl (by assumption) rfl rfl ?_
      exact tmq_end
    refine tm_q ?e7 rfl ?q7 ?r7
    case q7 =>
      refine to_call0 rfl rfl (fun w s => ref_of sh pt _ w hs (by omega)) rfl ?_
      exact tmq_end
    refine tm_q ?e8 rfl ?q8 ?r8
    case q8 =>
      first | refine to_lda rfl rfl rfl ?_ | refine to_ldea rfl (by assumption) rfl rfl ?_
      exact tmq_end
    refine tm_q ?e9 rfl ?q9 ?r9
    case q9 =>
      refine to_mv rfl rfl ?_
      exact tmq_end
    refine tm_q ?e10 rfl ?q10 ?r10
    case q10 =>
      refine to_mv rfl rfl ?_
      exact tmq_end
    refine tm_q ?e11 rfl ?q11 ?r11
    case q11 =>
      first | refine to_ix rfl rfl rfl (by first | omega | decide) (by first | omega | decide) rfl ?_ | refine to_ixi rfl rfl rfl (by omega) (by omega) (by omega) rfl ?_
      exact tmq_end
    refine tm_q ?e12 rfl ?q12 ?r12
    case q12 =>
      first | refine to_fa rfl rfl rfl (by simp only [Nat.reduceAdd]; rfl) rfl ?_ | refine to_fae rfl rfl rfl (by simp only [Nat.reduceAdd]; rfl) rfl ?_
      exact tmq_end
    refine tm_q ?e13 rfl ?q13 ?r13
    case q13 =>
      first | refine to_lds rfl rfl rfl ?_ | refine to_ldes rfl (by assumption) rfl rfl ?_
      exact tmq_end
    refine tm_q ?e14 rfl ?q14 ?r14
    case q14 =>
      refine to_call0 rfl rfl (fun w s => ref_of sh pt _ w hs (by omega)) rfl ?_
      exact tmq_end
    refine tm_q ?e15 rfl ?q15 ?r15
    case q15 =>
      refine to_bs rfl rfl ?_
      exact tmq_end
    refine tm_s rfl ?_ (fun _ h => by cases h) rfl
    refine to_alloc rfl (fun b8 => ?_)
    refine tm_se rfl ?_
    refine tm_s rfl ?_ (fun _ h => by cases h) rfl
    first | refine to_st rfl rfl rfl rfl ?_ | refine to_ste rfl rfl (by assumption) rfl rfl ?_
    refine tm_se rfl ?_
    refine tm_nil ?_
    refine tn_code ?_
    refine t_seq ?_
    refine t_seq ?_
    refine t_reg ?_
    refine to_mv rfl rfl ?_
    refine to_mv rfl rfl ?_
    first | refine to_ix rfl rfl rfl (by first | omega | decide) (by first | omega | decide) rfl ?_ | refine to_ixi rfl rfl rfl (by omega) (by omega) (by omega) rfl ?_
    first | refine to_fa rfl rfl rfl (by simp only [Nat.reduceAdd]; rfl) rfl ?_ | refine to_fae rfl rfl rfl (by simp only [Nat.reduceAdd]; rfl) rfl ?_
    first | refine to_lds rfl rfl rfl ?_ | refine to_ldes rfl (by assumption) rfl rfl ?_
    refine to_as rfl rfl ?_
    refine to_nil ?_
    refine tn_code ?_
    refine t_blk ?_
    refine t_loop2 (ι := Nat) (fun j => (j : Int) ≤ 2 * e + 1) (fun j => [(2, (.pointer (some ⟨b2, 0, none⟩))), (5, .slice pa12 sh.rows.length pc12), (6, .slice a' i c'), (7, (.int .i64 (i : Int))), (8, (.pointer (some ⟨b8, 0, none⟩))), (9, (.int .i64 (r - e + (j : Int))))]) (fun j => [.own b8 (isC (spanC (fig sh (r - e), upF sh (r - e) j)) 33), .row a' i c' 33 2 (spans ((sh.rows.take i).map fun r => (fig sh (r - e), fig sh (r + e)))), .snap lo12 w12.heap.size w12, .own b2 (isC (shC sh pt) 25), .snap 0 w.heap.size w]) (fun j => (2 * e + 1).toNat - j) (0) [.own b8 (isC (spanC (fig sh (r - e), fig sh (r - e))) 33), .row a' i c' 33 2 (spans ((sh.rows.take i).map fun r => (fig sh (r - e), fig sh (r + e)))), .snap lo12 w12.heap.size w12, .own b2 (isC (shC sh pt) 25), .snap 0 w.heap.size w] (by rw [upF_0]) (by omega) (⟨rfl, rfl, rfl, rfl, rfl, congrArg (fun z => some (Value.int .i64 z)) (Int.add_zero (r - e)).symm, trivial⟩) ?_
    rintro j hk
    show T _ _ _ ⟨_, [(2, (.pointer (some ⟨b2, 0, none⟩))), (5, .slice pa12 sh.rows.length pc12), (6, .slice a' i c'), (7, (.int .i64 (i : Int))), (8, (.pointer (some ⟨b8, 0, none⟩))), (9, (.int .i64 (r - e + (j : Int))))], _⟩ [.own b8 (isC (spanC (fig sh (r - e), upF sh (r - e) j)) 33), .row a' i c' 33 2 (spans ((sh.rows.take i).map fun r => (fig sh (r - e), fig sh (r + e)))), .snap lo12 w12.heap.size w12, .own b2 (isC (shC sh pt) 25), .snap 0 w.heap.size w]
    refine t_seq ?_
    refine t_seq ?_
    refine t_reg ?_
    refine to_mv rfl rfl ?_
    refine to_mv rfl rfl ?_
    refine to_mv rfl rfl ?_
    first | refine to_ix rfl rfl rfl (by first | omega | decide) (by first | omega | decide) rfl ?_ | refine to_ixi rfl rfl rfl (by omega) (by omega) (by omega) rfl ?_
    first | refine to_fa rfl rfl rfl (by simp only [Nat.reduceAdd]; rfl) rfl ?_ | refine to_fae rfl rfl rfl (by simp only [Nat.reduceAdd]; rfl) rfl ?_
    first | refine to_lds rfl rfl rfl ?_ | refine to_ldes rfl (by assumption) rfl rfl ?_
    refine to_leq rfl rfl rfl ?_
    refine to_nil ?_
    refine tn_code ?_
    refine t_if rfl (fun h2 => ?_) (fun h2 => ?_)
    · try simp only [decide_eq_true_eq, decide_eq_false_iff_not, Bool.not_eq_true', Bool.not_eq_false', Int.not_lt, Int.not_le, ne_eq, Decidable.not_not] at h2
      try have h2b := inB_iff.1 h2
      refine t_skip ?_
      refine tn_code ?_
      refine t_seq ?_
      refine t_blk ?_
      refine t_regM [13] [.own b8 (isC (spanC (fig sh (r - e), upF sh (r - e) j)) 33), .snap lo12 w12.heap.size w12, .own b2 (isC (shC sh pt) 25), .snap 0 w.heap.size w] rfl (by kernel_rfl) (by kernel_rfl) ?_
      refine tm_q ?e16 rfl ?q16 ?r16
      case q16 =>
        first | refine to_fa rfl rfl rfl (by simp only [Nat.reduceAdd]; rfl) rfl ?_ | refine to_fae rfl rfl rfl (by simp only [Nat.reduceAdd]; rfl) rfl ?_
        exact tmq_end
      refine tm_q ?e17 rfl ?q17 ?r17
      case q17 =>
        first | refine to_lds rfl rfl rfl ?_ | refine to_ldes rfl (by assumption) rfl rfl ?_
        exact tmq_end
      refine tm_q ?e18 rfl ?q18 ?r18
      case q18 =>
        first | refine to_lda rfl rfl rfl ?_ | refine to_ldea rfl (by assumption) rfl rfl ?_
        exact tmq_end
      refine tm_q ?e19 rfl ?q19 ?r19
      case q19 =>
        refine to_mv rfl rfl ?_
        exact tmq_end
      refine tm_q ?e20 rfl ?q20 ?r20
      case q20 =>
        refine to_call0 rfl rfl (fun w s => ref_of sh pt _ w hs (by omega)) rfl ?_
        exact tmq_end
      refine tm_q ?e21 rfl ?q21 ?r21
      case q21 =>
        refine to_min rfl rfl rfl ?_
        exact tmq_end
      refine tm_q ?e22 rfl ?q22 ?r22
      case q22 =>
        first | refine to_fa rfl rfl rfl (by simp only [Nat.reduceAdd]; rfl) rfl ?_ | refine to_fae rfl rfl rfl (by simp only [Nat.reduceAdd]; rfl) rfl ?_
        exact tmq_end
      refine tm_q ?e23 rfl ?q23 ?r23
      case q23 =>
        first | refine to_lds rfl rfl rfl ?_ | refine to_ldes rfl (by assumption) rfl rfl ?_
        exact tmq_end
      refine tm_q ?e24 rfl ?q24 ?r24
      case q24 =>
        first | refine to_lda rfl rfl rfl ?_ | refine to_ldea rfl (by assumption) rfl rfl ?_
        exact tmq_end
      refine tm_q ?e25 rfl ?q25 ?r25
      case q25 =>
        refine to_mv rfl rfl ?_
        exact tmq_end
      refine tm_q ?e26 rfl ?q26 ?r26
      case q26 =>
        refine to_call0 rfl rfl (fun w s => ref_of sh pt _ w hs (by omega)) rfl ?_
        exact tmq_end
      refine tm_q ?e27 rfl ?q27 ?r27
      case q27 =>
        refine to_max rfl rfl rfl ?_
        exact tmq_end
      refine tm_q ?e28 rfl ?q28 ?r28
      case q28 =>
        refine to_bs rfl rfl ?_
        exact tmq_end
      refine tm_s rfl ?_ (fun _ h => by cases h) rfl
      first | refine to_st rfl rfl rfl rfl ?_ | refine to_ste rfl rfl (by assumption) rfl rfl ?_
      refine tm_sl (by kernel_rfl) rfl rfl ?_
      refine tn_blk ?_
      refine tn_code ?_
      refine t_reg ?_
      refine to_mv rfl rfl ?_
      refine to_add rfl rfl (by omega) rfl ?_
      refine to_as rfl rfl ?_
      refine to_nil ?_
      exact tn_loop2 (j + 1) [.own b8 (isC [.int .i64 (min (fig sh (r - e)) (fig sh (r - e + (j : Int)))), .int .i64 (max (upF sh (r - e) j) (fig sh (r - e + (j : Int))))] 33), .row a' i c' 33 2 (spans ((sh.rows.take i).map fun r => (fig sh (r - e), fig sh (r + e)))), .snap lo12 w12.heap.size w12, .own b2 (isC (shC sh pt) 25), .snap 0 w.heap.size w] (by rw [upF_step hs, loF_step hs]) (by omega) (by omega) (⟨rfl, rfl, rfl, rfl, rfl, congrArg (fun z => some (Value.int .i64 z)) (Int.add_assoc (r - e) j 1), trivial⟩)
    · try simp only [decide_eq_true_eq, decide_eq_false_iff_not, Bool.not_eq_true', Bool.not_eq_false', Int.not_lt, Int.not_le, ne_eq, Decidable.not_not] at h2
      try have h2b := inB_iff.1 h2
      have hje : (j : Int) = 2 * e + 1 := by omega
      rw [upF_end hje]
      refine t_exit ?_
      refine tx_code ?_
      refine tx_inv ?_
      refine tx_blk ?_
      refine tn_code ?_
      refine t_reg ?_
      refine to_mv rfl rfl ?_
      first | refine to_lda rfl rfl rfl ?_ | refine to_ldea rfl (by assumption) rfl rfl ?_
      refine to_bsl rfl rfl rfl rfl (fun a63 => ?_)
      refine to_app rfl rfl rfl (by simp [scals, scal]) (by decide) (by omega) (by decide) rfl (fun a64 c64 => ?_)
      refine to_as rfl rfl ?_
      refine to_nil ?_
      refine tn_blk ?_
      refine tn_code ?_
      refine t_reg ?_
      refine to_mv rfl rfl ?_
      refine to_add rfl rfl (by omega) rfl ?_
      refine to_as rfl rfl ?_
      refine to_nil ?_
      exact tn_loop2 ((i + 1, a64, c64)) [.row a64 (i + 1) c64 33 2 (spans ((sh.rows.take i).map fun r => (fig sh (r - e), fig sh (r + e))) ++ [[Value.int .i64 (fig sh (r - e)), Value.int .i64 (fig sh (r + e))]]), .snap lo12 w12.heap.size w12, .own b2 (isC (shC sh pt) 25), .snap 0 w.heap.size w] (by dsimp only; rw [mapk_succ (F := fun r => (fig sh (r - e), fig sh (r + e))) hr]) (by dsimp only; omega) (by dsimp only; omega) (⟨rfl, rfl, rfl, rfl, trivial⟩)
  · try simp only [decide_eq_true_eq, decide_eq_false_iff_not, Bool.not_eq_true', Bool.not_eq_false', Int.not_lt, Int.not_le, ne_eq, Decidable.not_not] at h1
    try have h1b := inB_iff.1 h1
    have hk2 : i = sh.rows.length := by omega
    subst hk2
    refine t_exit ?_
    refine tx_code ?_
    refine tx_inv ?_
    refine tx_blk ?_
    refine tn_code ?_
    refine t_seq ?_
    refine t_reg ?_
    refine to_mv rfl rfl ?_
    refine to_as rfl rfl ?_
    refine to_nil ?_
    refine tn_code ?_
    refine t_ret1 rfl rfl (res_tmp rfl) (fun w' s => ?_)
    rw [List.take_length] at s; exact rsps_of (by simp [figL]) (ro_row s)

end Go.Proofs


namespace Go.Proofs
open Go Go.Sx Go.RowKit

end Go.Proofs


namespace Go.Proofs
open Go Go.Sx Go.RowKit

def shortB (sh : Sh) : Bool := decide (sh.errs.length ≤ 7) && decide (sh.rows.length ≤ 7)
theorem short_b {sh : Sh} (h : shortB sh = true) : sh.errs.length ≤ 7 ∧ sh.rows.length ≤ 7 := by simpa [shortB] using h
theorem c_short (sh : Sh) (pt : Pt) (w : World) : Calls Tryz.prog 24 #[shV sh pt] w (RetV w (.bool (shortB sh))) := law_short sh pt w
theorem okG_no {sh : Sh} (h : isSh sh = false) (gd : Int) : okG sh gd = false := by simp [okG, h]
theorem okG_ng {sh : Sh} {gd : Int} (h : inB gd 0 (sh.errs.length - 1) = false) : okG sh gd = false := by simp [okG, h]
theorem grd_ok {sh : Sh} {k : Nat} {e : Int} (h : sh.errs[k]? = some e) : inB (k : Int) 0 (sh.errs.length - 1) = true := by
  have := (List.getElem?_eq_some_iff.1 h).1
  exact inB_iff.2 (by omega)
theorem grd_ex {sh : Sh} {gd : Int} (h : inB gd 0 (sh.errs.length - 1) = true) : ∃ (k : Nat) (e : Int), gd = (k : Int) ∧ sh.errs[k]? = some e := by
  have hb := inB_iff.1 h
  obtain ⟨k, rfl⟩ := Int.eq_ofNat_of_zero_le hb.1
  obtain ⟨e, he⟩ := some_get (xs := sh.errs) (k := k) (by omega)
  exact ⟨k, e, rfl, he⟩
set_option maxRecDepth 20000 in
theorem r_Check (sh : Sh) (pt : Pt) (w : World) (hre : Ro w 0 w.heap.size pt.ea sh.errs.length pt.ec 1 (ints sh.errs)) (hrr : Ro w 0 w.heap.size pt.ra sh.rows.length pt.rc 1 (ints sh.rows)) : Calls Tryz.prog 25 #[shV sh pt] w (RetV w (.int .i64 (if isSh sh then 0 else 2))) := by
  refine calls_T0 (av := [_]) Tryz.func25 rfl rfl rfl ?_
  refine t_seq ?_
  refine t_reg ?_
  refine to_box rfl rfl (fun b1 => ?_)
  refine to_as rfl rfl ?_
  refine to_nil ?_
  refine tn_code ?_
  refine t_seq ?_
  refine t_seq ?_
  refine t_reg ?_
  first | refine to_lda rfl rfl rfl ?_ | refine to_ldea rfl (by assumption) rfl rfl ?_
  refine to_call0 rfl rfl (fun w s => r_isSheet sh pt w (rdw s) (rdw s)) rfl ?_
  refine to_not rfl rfl ?_
  refine to_nil ?_
  refine tn_code ?_
  refine t_if rfl (fun h1 => ?_) (fun h1 => ?_)
  · try simp only [decide_eq_true_eq, decide_eq_false_iff_not, Bool.not_eq_true', Bool.not_eq_false', Int.not_lt, Int.not_le, ne_eq, Decidable.not_not] at h1
    try have h1b := inB_iff.1 h1
    refine t_seq ?_
    refine t_reg ?_
    refine to_as rfl rfl ?_
    refine to_nil ?_
    refine tn_code ?_
    refine t_ret1 rfl rfl (res_tmp rfl) (fun w' s => ?_)
    simp_all
  · try simp only [decide_eq_true_eq, decide_eq_false_iff_not, Bool.not_eq_true', Bool.not_eq_false', Int.not_lt, Int.not_le, ne_eq, Decidable.not_not] at h1
    try have h1b := inB_iff.1 h1
    refine t_skip ?_
    refine tn_code ?_
    refine t_seq ?_
    refine t_reg ?_
    refine to_as rfl rfl ?_
    refine to_nil ?_
    refine tn_code ?_
    refine t_ret1 rfl rfl (res_tmp rfl) (fun w' s => ?_)
    simp_all

theorem c_Check_t {sh : Sh} {pt : Pt} {w : World} (hre : Ro w 0 w.heap.size pt.ea sh.errs.length pt.ec 1 (ints sh.errs)) (hrr : Ro w 0 w.heap.size pt.ra sh.rows.length pt.rc 1 (ints sh.rows)) (hs : isSh sh = true) : Calls Tryz.prog 25 #[shV sh pt] w (RetV w (.int .i64 0)) := by
  have h9 := r_Check sh pt w hre hrr
  rw [hs] at h9; exact h9
theorem c_Check_f {sh : Sh} {pt : Pt} {w : World} (hre : Ro w 0 w.heap.size pt.ea sh.errs.length pt.ec 1 (ints sh.errs)) (hrr : Ro w 0 w.heap.size pt.ra sh.rows.length pt.rc 1 (ints sh.rows)) (hs : isSh sh = false) : Calls Tryz.prog 25 #[shV sh pt] w (RetV w (.int .i64 2)) := by
  have h9 := r_Check sh pt w hre hrr
  rw [hs] at h9; exact h9

set_option maxRecDepth 20000 in
theorem w_RoundFigures_sF (sh : Sh) (pt : Pt) (gd : Int) (w : World) (hre : Ro w 0 w.heap.size pt.ea sh.errs.length pt.ec 1 (ints sh.errs)) (hrr : Ro w 0 w.heap.size pt.ra sh.rows.length pt.rc 1 (ints sh.rows)) (hsh : shortB sh = false) (hg : Gl w) : Calls Tryz.prog 5 #[shV sh pt, (.int .i64 gd)] w (RetV w (.bool true)) := by
  refine calls_T0 (av := [_, _]) Tryz.func5 rfl rfl rfl ?_
  refine t_seq ?_
  refine t_reg ?_
  refine to_box rfl rfl (fun b2 => ?_)
  refine to_as rfl rfl ?_
  refine to_nil ?_
  refine tn_code ?_
  refine t_seq ?_
  refine t_seq ?_
  refine t_reg ?_
  first | refine to_lda rfl rfl rfl ?_ | refine to_ldea rfl (by assumption) rfl rfl ?_
  refine to_call0 rfl rfl (fun w s => c_short sh pt w) rfl ?_
  refine to_fix (s := 11) (b' := false) rfl (hsh) ?_
  refine to_not rfl rfl ?_
  refine to_nil ?_
  refine tn_code ?_
  refine t_ifT rfl ?_
  refine t_seq ?_
  refine t_reg ?_
  refine to_call0 rfl rfl (fun w s => law_known w (gl_up hg (belowH_of s))) rfl ?_
  refine to_as rfl rfl ?_
  refine to_nil ?_
  refine tn_code ?_
  refine t_ret1 rfl rfl (res_tmp rfl) (fun w' s => ?_)
  rfl

set_option maxRecDepth 20000 in
theorem w_RoundFigures_nS (sh : Sh) (pt : Pt) (gd : Int) (w : World) (hre : Ro w 0 w.heap.size pt.ea sh.errs.length pt.ec 1 (ints sh.errs)) (hrr : Ro w 0 w.heap.size pt.ra sh.rows.length pt.rc 1 (ints sh.rows)) (hsh : shortB sh = true) (hs : isSh sh = false) (hg : Gl w) : Calls Tryz.prog 5 #[shV sh pt, (.int .i64 gd)] w (RetV w (.bool true)) := by
  have hsl := short_b hsh
  have ho := okG_no hs gd
  have hl : sh.errs.length ≤ 1000000 := by omega
  refine calls_T0 (av := [_, _]) Tryz.func5 rfl rfl rfl ?_
  refine t_seq ?_
  refine t_reg ?_
  refine to_box rfl rfl (fun b2 => ?_)
  refine to_as rfl rfl ?_
  refine to_nil ?_
  refine tn_code ?_
  refine t_seq ?_
  refine t_seq ?_
  refine t_reg ?_
  first | refine to_lda rfl rfl rfl ?_ | refine to_ldea rfl (by assumption) rfl rfl ?_
  refine to_call0 rfl rfl (fun w s => c_short sh pt w) rfl ?_
  refine to_fix (s := 11) (b' := true) rfl (hsh) ?_
  refine to_not rfl rfl ?_
  refine to_nil ?_
  refine tn_code ?_
  refine t_ifF rfl ?_
  refine t_skip ?_
  refine tn_code ?_
  refine t_seq ?_
  refine t_reg ?_
  first | refine to_lda rfl rfl rfl ?_ | refine to_ldea rfl (by assumption) rfl rfl ?_
  refine to_call0 rfl rfl (fun w s => c_Check_f (rdw s) (rdw s) hs) rfl ?_
  refine to_as rfl rfl ?_
  refine to_nil ?_
  refine tn_code ?_
  refine t_seq ?_
  refine t_reg ?_
  first | refine to_lda rfl rfl rfl ?_ | refine to_ldea rfl (by assumption) rfl rfl ?_
  refine to_mv rfl rfl ?_
  refine to_callR rfl rfl (fun w s => r_Bounds_f sh pt gd w (rdw s) (rdw s) hl ho) rfl (fun v19 lo19 w19 hlo19 hR19 => ?_)
  obtain ⟨pa19, pc19, rfl, hro19⟩ := hR19
  refine to_mv rfl rfl ?_
  refine to_ex rfl rfl rfl ?_
  refine to_ex rfl rfl rfl ?_
  refine to_as rfl rfl ?_
  refine to_as rfl rfl ?_
  refine to_nil ?_
  refine tn_code ?_
  refine t_seq ?_
  refine t_reg ?_
  first | refine to_lda rfl rfl rfl ?_ | refine to_ldea rfl (by assumption) rfl rfl ?_
  refine to_mv rfl rfl ?_
  refine to_callR rfl rfl (fun w s => r_Figures_f sh pt gd w (rdw s) (rdw s) hl ho) rfl (fun v25 lo25 w25 hlo25 hR25 => ?_)
  obtain ⟨pa25, pc25, rfl, hro25⟩ := hR25
  refine to_mv rfl rfl ?_
  refine to_ex rfl rfl rfl ?_
  refine to_ex rfl rfl rfl ?_
  refine to_as rfl rfl ?_
  refine to_as rfl rfl ?_
  refine to_nil ?_
  refine tn_code ?_
  refine t_seq ?_
  refine t_seq ?_
  refine t_reg ?_
  first | refine to_lda rfl rfl rfl ?_ | refine to_ldea rfl (by assumption) rfl rfl ?_
  refine to_call0 rfl rfl (fun w s => ref_Sheet sh pt w (rdw s) (rdw s)) rfl ?_
  refine to_fix (s := 29) (b' := false) rfl (hs) ?_
  refine to_not rfl rfl ?_
  refine to_nil ?_
  refine tn_code ?_
  refine t_ifT rfl ?_
  refine t_seq ?_
  refine t_reg ?_
  refine to_mv rfl rfl ?_
  refine to_eql rfl rfl rfl ?_
  refine to_fix (s := 32) (b' := true) rfl (rfl) ?_
  refine to_mv rfl rfl ?_
  refine to_gt rfl rfl ?_
  refine to_mv rfl rfl ?_
  refine to_gt rfl rfl ?_
  refine to_eql rfl rfl rfl ?_
  refine to_fix (s := 35) (b' := true) rfl (rfl) ?_
  refine to_pkT rfl rfl rfl ?_
  refine to_mv rfl rfl ?_
  refine to_gt rfl rfl ?_
  refine to_mv rfl rfl ?_
  refine to_gt rfl rfl ?_
  refine to_lenS rfl rfl ?_
  refine to_gt rfl rfl ?_
  refine to_eql rfl rfl rfl ?_
  refine to_fix (s := 40) (b' := true) rfl (rfl) ?_
  refine to_pkT rfl rfl rfl ?_
  refine to_mv rfl rfl ?_
  refine to_gt rfl rfl ?_
  refine to_mv rfl rfl ?_
  refine to_gt rfl rfl ?_
  refine to_eql rfl rfl rfl ?_
  refine to_fix (s := 44) (b' := true) rfl (rfl) ?_
  refine to_pkT rfl rfl rfl ?_
  refine to_mv rfl rfl ?_
  refine to_gt rfl rfl ?_
  refine to_mv rfl rfl ?_
  refine to_gt rfl rfl ?_
  refine to_lenS rfl rfl ?_
  refine to_gt rfl rfl ?_
  refine to_eql rfl rfl rfl ?_
  refine to_fix (s := 49) (b' := true) rfl (rfl) ?_
  refine to_pkT rfl rfl rfl ?_
  refine to_mv rfl rfl ?_
  refine to_gt rfl rfl ?_
  refine to_call0 rfl rfl (fun w s => law_known w (gl_up hg (belowH_of s))) rfl ?_
  refine to_pkT rfl rfl rfl ?_
  refine to_as rfl rfl ?_
  refine to_nil ?_
  refine tn_code ?_
  refine t_ret1 rfl rfl (res_tmp rfl) (fun w' s => ?_)
  rfl

set_option maxRecDepth 20000 in
theorem w_RoundFigures_nG (sh : Sh) (pt : Pt) (gd : Int) (w : World) (hre : Ro w 0 w.heap.size pt.ea sh.errs.length pt.ec 1 (ints sh.errs)) (hrr : Ro w 0 w.heap.size pt.ra sh.rows.length pt.rc 1 (ints sh.rows)) (hsh : shortB sh = true) (hs : isSh sh = true) (hgn : inB gd 0 (sh.errs.length - 1) = false) (hg : Gl w) : Calls Tryz.prog 5 #[shV sh pt, (.int .i64 gd)] w (RetV w (.bool true)) := by
  have hsl := short_b hsh
  have ho := okG_ng hgn
  have hl : sh.errs.length ≤ 1000000 := by omega
  refine calls_T0 (av := [_, _]) Tryz.func5 rfl rfl rfl ?_
  refine t_seq ?_
  refine t_reg ?_
  refine to_box rfl rfl (fun b2 => ?_)
  refine to_as rfl rfl ?_
  refine to_nil ?_
  refine tn_code ?_
  refine t_seq ?_
  refine t_seq ?_
  refine t_reg ?_
  first | refine to_lda rfl rfl rfl ?_ | refine to_ldea rfl (by assumption) rfl rfl ?_
  refine to_call0 rfl rfl (fun w s => c_short sh pt w) rfl ?_
  refine to_fix (s := 11) (b' := true) rfl (hsh) ?_
  refine to_not rfl rfl ?_
  refine to_nil ?_
  refine tn_code ?_
  refine t_ifF rfl ?_
  refine t_skip ?_
  refine tn_code ?_
  refine t_seq ?_
  refine t_reg ?_
  first | refine to_lda rfl rfl rfl ?_ | refine to_ldea rfl (by assumption) rfl rfl ?_
  refine to_call0 rfl rfl (fun w s => c_Check_t (rdw s) (rdw s) hs) rfl ?_
  refine to_as rfl rfl ?_
  refine to_nil ?_
  refine tn_code ?_
  refine t_seq ?_
  refine t_reg ?_
  first | refine to_lda rfl rfl rfl ?_ | refine to_ldea rfl (by assumption) rfl rfl ?_
  refine to_mv rfl rfl ?_
  refine to_callR rfl rfl (fun w s => r_Bounds_f sh pt gd w (rdw s) (rdw s) hl ho) rfl (fun v19 lo19 w19 hlo19 hR19 => ?_)
  obtain ⟨pa19, pc19, rfl, hro19⟩ := hR19
  refine to_mv rfl rfl ?_
  refine to_ex rfl rfl rfl ?_
  refine to_ex rfl rfl rfl ?_
  refine to_as rfl rfl ?_
  refine to_as rfl rfl ?_
  refine to_nil ?_
  refine tn_code ?_
  refine t_seq ?_
  refine t_reg ?_
  first | refine to_lda rfl rfl rfl ?_ | refine to_ldea rfl (by assumption) rfl rfl ?_
  refine to_mv rfl rfl ?_
  refine to_callR rfl rfl (fun w s => r_Figures_f sh pt gd w (rdw s) (rdw s) hl ho) rfl (fun v25 lo25 w25 hlo25 hR25 => ?_)
  obtain ⟨pa25, pc25, rfl, hro25⟩ := hR25
  refine to_mv rfl rfl ?_
  refine to_ex rfl rfl rfl ?_
  refine to_ex rfl rfl rfl ?_
  refine to_as rfl rfl ?_
  refine to_as rfl rfl ?_
  refine to_nil ?_
  refine tn_code ?_
  refine t_seq ?_
  refine t_seq ?_
  refine t_reg ?_
  first | refine to_lda rfl rfl rfl ?_ | refine to_ldea rfl (by assumption) rfl rfl ?_
  refine to_call0 rfl rfl (fun w s => ref_Sheet sh pt w (rdw s) (rdw s)) rfl ?_
  refine to_fix (s := 29) (b' := true) rfl (hs) ?_
  refine to_not rfl rfl ?_
  refine to_nil ?_
  refine tn_code ?_
  refine t_ifF rfl ?_
  refine t_skip ?_
  refine tn_code ?_
  refine t_seq ?_
  refine t_seq ?_
  refine t_reg ?_
  first | refine to_lda rfl rfl rfl ?_ | refine to_ldea rfl (by assumption) rfl rfl ?_
  refine to_mv rfl rfl ?_
  refine to_call0 rfl rfl (fun w s => ref_Guard sh pt _ w (by omega)) rfl ?_
  refine to_fix (s := 56) (b' := false) rfl (hgn) ?_
  refine to_not rfl rfl ?_
  refine to_nil ?_
  refine tn_code ?_
  refine t_ifT rfl ?_
  refine t_seq ?_
  refine t_reg ?_
  refine to_mv rfl rfl ?_
  refine to_eql rfl rfl rfl ?_
  refine to_fix (s := 59) (b' := true) rfl (rfl) ?_
  refine to_mv rfl rfl ?_
  refine to_gt rfl rfl ?_
  refine to_mv rfl rfl ?_
  refine to_gt rfl rfl ?_
  refine to_eql rfl rfl rfl ?_
  refine to_fix (s := 62) (b' := true) rfl (rfl) ?_
  refine to_pkT rfl rfl rfl ?_
  refine to_mv rfl rfl ?_
  refine to_gt rfl rfl ?_
  refine to_mv rfl rfl ?_
  refine to_gt rfl rfl ?_
  refine to_lenS rfl rfl ?_
  refine to_gt rfl rfl ?_
  refine to_eql rfl rfl rfl ?_
  refine to_fix (s := 67) (b' := true) rfl (rfl) ?_
  refine to_pkT rfl rfl rfl ?_
  refine to_mv rfl rfl ?_
  refine to_gt rfl rfl ?_
  refine to_mv rfl rfl ?_
  refine to_gt rfl rfl ?_
  refine to_eql rfl rfl rfl ?_
  refine to_fix (s := 71) (b' := true) rfl (rfl) ?_
  refine to_pkT rfl rfl rfl ?_
  refine to_mv rfl rfl ?_
  refine to_gt rfl rfl ?_
  refine to_mv rfl rfl ?_
  refine to_gt rfl rfl ?_
  refine to_lenS rfl rfl ?_
  refine to_gt rfl rfl ?_
  refine to_eql rfl rfl rfl ?_
  refine to_fix (s := 76) (b' := true) rfl (rfl) ?_
  refine to_pkT rfl rfl rfl ?_
  refine to_mv rfl rfl ?_
  refine to_gt rfl rfl ?_
  refine to_call0 rfl rfl (fun w s => law_known w (gl_up hg (belowH_of s))) rfl ?_
  refine to_pkT rfl rfl rfl ?_
  refine to_as rfl rfl ?_
  refine to_nil ?_
  refine tn_code ?_
  refine t_ret1 rfl rfl (res_tmp rfl) (fun w' s => ?_)
  rfl

set_option maxRecDepth 20000 in
theorem w_RoundFigures_ok (sh : Sh) (pt : Pt) (gd : Int) (w : World) (hre : Ro w 0 w.heap.size pt.ea sh.errs.length pt.ec 1 (ints sh.errs)) (hrr : Ro w 0 w.heap.size pt.ra sh.rows.length pt.rc 1 (ints sh.rows)) (hsh : shortB sh = true) (hs : isSh sh = true) (k : Nat) (e : Int) (hgk : gd = (k : Int)) (he : sh.errs[k]? = some e) (hg : Gl w) : Calls Tryz.prog 5 #[shV sh pt, (.int .i64 gd)] w (RetV w (.bool true)) := by
  subst hgk
  have hsl := short_b hsh
  have heb := errs_b (isSh_e hs) e (List.mem_of_getElem? he)
  have hbb := isSh_b hs
  have hxe := map_get (f := intC) he
  have hke := (List.getElem?_eq_some_iff.1 he).1
  have hgt := grd_ok he
  refine calls_T0 (av := [_, _]) Tryz.func5 rfl rfl rfl ?_
  refine t_seq ?_
  refine t_reg ?_
  refine to_box rfl rfl (fun b2 => ?_)
  refine to_as rfl rfl ?_
  refine to_nil ?_
  refine tn_code ?_
  refine t_seq ?_
  refine t_seq ?_
  refine t_reg ?_
  first | refine to_lda rfl rfl rfl ?_ | refine to_ldea rfl (by assumption) rfl rfl ?_
  refine to_call0 rfl rfl (fun w s => c_short sh pt w) rfl ?_
  refine to_fix (s := 11) (b' := true) rfl (hsh) ?_
  refine to_not rfl rfl ?_
  refine to_nil ?_
  refine tn_code ?_
  refine t_ifF rfl ?_
  refine t_skip ?_
  refine tn_code ?_
  refine t_seq ?_
  refine t_reg ?_
  first | refine to_lda rfl rfl rfl ?_ | refine to_ldea rfl (by assumption) rfl rfl ?_
  refine to_call0 rfl rfl (fun w s => c_Check_t (rdw s) (rdw s) hs) rfl ?_
  refine to_as rfl rfl ?_
  refine to_nil ?_
  refine tn_code ?_
  refine t_seq ?_
  refine t_reg ?_
  first | refine to_lda rfl rfl rfl ?_ | refine to_ldea rfl (by assumption) rfl rfl ?_
  refine to_mv rfl rfl ?_
  refine to_callR rfl rfl (fun w s => r_Bounds_t sh pt k e w (rdw s) (rdw s) hs he) rfl (fun v19 lo19 w19 hlo19 hR19 => ?_)
  obtain ⟨pa19, pc19, rfl, hro19⟩ := hR19
  refine to_mv rfl rfl ?_
  refine to_ex rfl rfl rfl ?_
  refine to_ex rfl rfl rfl ?_
  refine to_as rfl rfl ?_
  refine to_as rfl rfl ?_
  refine to_nil ?_
  refine tn_code ?_
  refine t_seq ?_
  refine t_reg ?_
  first | refine to_lda rfl rfl rfl ?_ | refine to_ldea rfl (by assumption) rfl rfl ?_
  refine to_mv rfl rfl ?_
  refine to_callR rfl rfl (fun w s => r_Figures_t sh pt k e w (rdw s) (rdw s) hs he) rfl (fun v25 lo25 w25 hlo25 hR25 => ?_)
  obtain ⟨pa25, pc25, rfl, hro25⟩ := hR25
  refine to_mv rfl rfl ?_
  refine to_ex rfl rfl rfl ?_
  refine to_ex rfl rfl rfl ?_
  refine to_as rfl rfl ?_
  refine to_as rfl rfl ?_
  refine to_nil ?_
  refine tn_code ?_
  refine t_seq ?_
  refine t_seq ?_
  refine t_reg ?_
  first | refine to_lda rfl rfl rfl ?_ | refine to_ldea rfl (by assumption) rfl rfl ?_
  refine to_call0 rfl rfl (fun w s => ref_Sheet sh pt w (rdw s) (rdw s)) rfl ?_
  refine to_fix (s := 29) (b' := true) rfl (hs) ?_
  refine to_not rfl rfl ?_
  refine to_nil ?_
  refine tn_code ?_
  refine t_ifF rfl ?_
  refine t_skip ?_
  refine tn_code ?_
  refine t_seq ?_
  refine t_seq ?_
  refine t_reg ?_
  first | refine to_lda rfl rfl rfl ?_ | refine to_ldea rfl (by assumption) rfl rfl ?_
  refine to_mv rfl rfl ?_
  refine to_call0 rfl rfl (fun w s => ref_Guard sh pt _ w (by omega)) rfl ?_
  refine to_fix (s := 56) (b' := true) rfl (hgt) ?_
  refine to_not rfl rfl ?_
  refine to_nil ?_
  refine tn_code ?_
  refine t_ifF rfl ?_
  refine t_skip ?_
  refine tn_code ?_
  refine t_seq ?_
  refine t_reg ?_
  refine to_mv rfl rfl ?_
  refine to_eql rfl rfl rfl ?_
  refine to_fix (s := 82) (b' := true) rfl (rfl) ?_
  refine to_mv rfl rfl ?_
  refine to_gt rfl rfl ?_
  refine to_mv rfl rfl ?_
  refine to_gt rfl rfl ?_
  refine to_eql rfl rfl rfl ?_
  refine to_fix (s := 85) (b' := true) rfl (rfl) ?_
  refine to_pkT rfl rfl rfl ?_
  refine to_mv rfl rfl ?_
  refine to_gt rfl rfl ?_
  refine to_mv rfl rfl ?_
  refine to_gt rfl rfl ?_
  first | refine to_lda rfl rfl rfl ?_ | refine to_ldea rfl (by assumption) rfl rfl ?_
  refine to_gt rfl rfl ?_
  refine to_mv rfl rfl ?_
  refine to_gt rfl rfl ?_
  refine to_callR rfl rfl (fun w s => ref_Bounds sh pt k e w (rdw s) (rdw s) hs he) rfl (fun v91 lo91 w91 hlo91 hR91 => ?_)
  obtain ⟨pa91, pc91, rfl, hro91⟩ := hR91
  refine to_gt rfl rfl ?_
  refine to_call0 rfl rfl (fun w s => ref_SameSpans (bndL sh e) (bndL sh e) _ _ _ _ w (rdw s) (rdw s) (by rw [bnd_len]; omega)) rfl ?_
  refine to_fix (s := 92) (b' := true) rfl (decide_eq_true rfl) ?_
  refine to_pkT rfl rfl rfl ?_
  refine to_mv rfl rfl ?_
  refine to_gt rfl rfl ?_
  refine to_mv rfl rfl ?_
  refine to_gt rfl rfl ?_
  refine to_eql rfl rfl rfl ?_
  refine to_fix (s := 96) (b' := true) rfl (rfl) ?_
  refine to_pkT rfl rfl rfl ?_
  refine to_mv rfl rfl ?_
  refine to_gt rfl rfl ?_
  refine to_mv rfl rfl ?_
  refine to_gt rfl rfl ?_
  first | refine to_lda rfl rfl rfl ?_ | refine to_ldea rfl (by assumption) rfl rfl ?_
  refine to_gt rfl rfl ?_
  refine to_mv rfl rfl ?_
  refine to_gt rfl rfl ?_
  refine to_callR rfl rfl (fun w s => ref_Figures sh pt k e w (rdw s) (rdw s) hs he) rfl (fun v102 lo102 w102 hlo102 hR102 => ?_)
  obtain ⟨pa102, pc102, rfl, hro102⟩ := hR102
  refine to_gt rfl rfl ?_
  refine to_call0 rfl rfl (fun w s => ref_SameSpans (figL sh e) (figL sh e) _ _ _ _ w (rdw s) (rdw s) (by rw [fig_len]; omega)) rfl ?_
  refine to_fix (s := 103) (b' := true) rfl (decide_eq_true rfl) ?_
  refine to_pkT rfl rfl rfl ?_
  refine to_mv rfl rfl ?_
  refine to_gt rfl rfl ?_
  refine to_call0 rfl rfl (fun w s => law_known w (gl_up hg (belowH_of s))) rfl ?_
  refine to_pkT rfl rfl rfl ?_
  refine to_as rfl rfl ?_
  refine to_nil ?_
  refine tn_code ?_
  refine t_ret1 rfl rfl (res_tmp rfl) (fun w' s => ?_)
  rfl

theorem w_RoundFigures (sh : Sh) (pt : Pt) (gd : Int) (w : World) (hre : Ro w 0 w.heap.size pt.ea sh.errs.length pt.ec 1 (ints sh.errs)) (hrr : Ro w 0 w.heap.size pt.ra sh.rows.length pt.rc 1 (ints sh.rows)) (hg : Gl w) : Calls Tryz.prog 5 #[shV sh pt, .int .i64 gd] w (RetV w (.bool true)) := by
  rcases bool_tf (shortB sh) with hsh | hsh
  · rcases bool_tf (isSh sh) with hs | hs
    · rcases bool_tf (inB gd 0 (sh.errs.length - 1)) with hgn | hgn
      · obtain ⟨k, e, hk, he⟩ := grd_ex hgn
        exact w_RoundFigures_ok sh pt gd w hre hrr hsh hs k e hk he hg
      · exact w_RoundFigures_nG sh pt gd w hre hrr hsh hs hgn hg
    · exact w_RoundFigures_nS sh pt gd w hre hrr hsh hs hg
  · exact w_RoundFigures_sF sh pt gd w hre hrr hsh hg

end Go.Proofs


namespace Go.Proofs.YtebellbkmioadabGreatDoor
open Go Go.Sx Go.RowKit Go.WideShapes Go.ChangeShapes

section
variable {H : Type} {enc : TypeId × Value → H}
set_option maxRecDepth 100000 in
theorem roundFigures_law (W : World) (base : Nat) (args : Array Value) (ds : List (DataW H)) (p : List MemPlace) (hval : ∀ (j : Nat) t v, Tryz.f5.params[j]? = some t → args[j]? = some v → Value.okWide Tryz.prog W .any base t v)
    (hA : DataW.TrodAll enc Tryz.prog W 0 (fun _ => true) true Tryz.f5.params.toList args.toList ds p) (hg : Gl W) : Calls Tryz.prog 5 args W (RetV W (.bool true)) := by
  obtain ⟨l⟩ := args
  rw [Tryz.params5] at hA hval
  obtain ⟨v0, l0, d0, e0, p0, q0, hl0, rfl, h0, hA0⟩ := trodAll_cons hA
  have hl0' : l = v0 :: l0 := hl0
  subst hl0'
  obtain ⟨v1, l1, d1, e1, p1, q1, hl1, rfl, h1, hA1⟩ := trodAll_cons hA0
  subst hl1
  obtain rfl := trodAll_nil hA1
  obtain ⟨sh0, pt0, rfl, hre0, hrr0⟩ := open_sh (hval 0 25 v0 rfl rfl) h0
  obtain ⟨n1, rfl, _⟩ := open_i u3 (hval 1 3 v1 rfl rfl) h1
  exact w_RoundFigures sh0 pt0 n1 W hre0 hrr0 hg
end

set_option maxRecDepth 100000 in
theorem roundFigures_lifted (os : Os) (started : os.Started) (H : Type) (enc : TypeId × Value → H) :
    ReturnsInHanded {} Tryz.checked os 5 .any (fun w args => (Rows.roundFiguresSpec.pre enc Tryz.prog Tryz.f5 [] false w args ∧ laidMetH Tryz.prog laidL w) ∧ sizedMet enc Tryz.prog Tryz.f5 (OpenSpec.ofChange Rows.roundFiguresSpec) false w args)
      (Rows.roundFiguresSpec.post enc Tryz.prog Tryz.f5 false true false false) :=
  law_lifted started (by kernel_rfl) Tryz.func5 rfl rfl (by kernel_rfl) (fun ds h => by
      match ds, h with
      | [_, _], _ => rfl)
    (ChangeSpec.witness_shaped (enc := enc) (C := Tryz.checked) (os := os) (X := fun w _ => laidMetH Tryz.prog laidL w) false (World.laidAll Tryz.prog os laidL) #[.agg #[.int .i64 0, .int .i64 0, .slice none 0 0, .slice none 0 0], .int .i64 0] 8 (World.laidAll_os _ _ _)
      (World.shaped_of_ZipB (by kernel_rfl) (by kernel_rfl)) (by kernel_rfl) (by kernel_rfl) (by kernel_rfl)
      (by rw [MakeChecks.laidMetH_plain _ _ _ (by kernel_rfl)]; exact laidMet_laidAll _ (by kernel_rfl) (by kernel_rfl)))
    (fun W base args ds p hval hA hg => roundFigures_law W base args ds p hval hA hg)

theorem roundFigures_holds : Rows.RoundFiguresSaid :=
  OpenClaim.holds_of_wide 5 Tryz.f5 rfl rfl rfl rfl rfl rfl rfl ⟨rfl, rfl, rfl, rfl, rfl⟩ rfl rfl rfl rfl rfl (by kernel_rfl) Tryz.func5 (by kernel_rfl)
    (of_decide_eq_true (by kernel_rfl)) (by unfold Func.isWrapper; first | (rw [if_pos (by decide +kernel)]; kernel_rfl) | (rw [if_neg (by decide +kernel)]; exact ⟨rfl, rfl⟩))
    (fun os started H enc _ => roundFigures_lifted os started H enc)

theorem roundFigures_card : Rows.RoundFiguresCardSaid :=
  Claim7.holds_tied_plain_at .later [] [.data, .data, .data, .data, .pinned] true (true, "54bc54d732b00ab41745012f143d3a299984cc0782d0007b60a3d798b30a7197") true
    roundFigures_holds (fun _ h => by cases h) (by kernel_rfl) (fun _ h => by cases h) roundFigures_row_tie rfl ⟨rfl, rfl⟩ (by kernel_rfl) rfl
    (fun f fn hf hfn => by
      obtain rfl : f = 5 := Option.some.inj ((show Tryz.prog.funcNamed "ephemerist/ephemeristlaw04.RoundFigures" = some 5 by kernel_rfl).symm.trans hf) |>.symm
      obtain rfl : fn = Tryz.f5 := (Option.some.inj (Tryz.func5.symm.trans hfn)).symm
      exact ⟨by kernel_rfl, fun j t ht => by
        rw [Tryz.params5] at ht
        have hm : t ∈ [25, 3] := by simpa using Array.mem_of_getElem? ht
        have hall : ([25, 3].all fun u => !Tryz.prog.wantsStandIn u) = true := by kernel_rfl
        exact (show Tryz.prog.wantsStandIn t = false by simpa using List.all_eq_true.1 hall t hm)⟩)
    (by kernel_rfl)
end Go.Proofs.YtebellbkmioadabGreatDoor

