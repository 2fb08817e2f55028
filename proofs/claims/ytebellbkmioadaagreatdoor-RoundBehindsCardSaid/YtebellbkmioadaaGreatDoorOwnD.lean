/- Contracts of the program's functions on pay. No condition beyond each theorem's own. -/
import Derived.Test.YtebellbkmioadaaGreatDoorOwnC
set_option linter.unusedVariables false
set_option linter.unusedSimpArgs false
namespace Go.Proofs
open Go Go.Sx Go.RowKit

set_option maxRecDepth 20000 in
theorem r_in (x lo hi : Int) (w : World)  : Calls Tryz.prog 57 #[(.int .i64 x), (.int .i64 lo), (.int .i64 hi)] w (RetV w (.bool (inB x lo hi))) := by
  refine calls_T0 (av := [_, _, _]) Tryz.func57 rfl rfl rfl ?_
  refine t_seq ?_
  refine t_reg ?_
  refine to_as rfl rfl ?_
  refine to_nil ?_
  refine tn_code ?_
  refine t_seq ?_
  refine t_reg ?_
  refine to_mv rfl rfl ?_
  refine to_mv rfl rfl ?_
  refine to_geq rfl rfl rfl ?_
  refine to_mv rfl rfl ?_
  refine to_gs rfl rfl rfl (fun h1 => ?_) (fun h1 => ?_)
  · try simp only [decide_eq_true_eq, decide_eq_false_iff_not, Bool.not_eq_true', Bool.not_eq_false', Int.not_lt, Int.not_le, ne_eq, Decidable.not_not] at h1
    try have h1b := inB_iff.1 h1
    refine to_gt rfl rfl ?_
    refine to_mv rfl rfl ?_
    refine to_gt rfl rfl ?_
    refine to_mv rfl rfl ?_
    refine to_gt rfl rfl ?_
    refine to_leq rfl rfl rfl ?_
    refine to_pkT rfl rfl rfl ?_
    refine to_as rfl rfl ?_
    refine to_nil ?_
    refine tn_code ?_
    refine t_ret1 rfl rfl (res_tmp rfl) (fun w' s => ?_)
    first | (simp_all [inB]; done) | (simp [inB]; omega)
  · try simp only [decide_eq_true_eq, decide_eq_false_iff_not, Bool.not_eq_true', Bool.not_eq_false', Int.not_lt, Int.not_le, ne_eq, Decidable.not_not] at h1
    try have h1b := inB_iff.1 h1
    refine to_gf rfl rfl rfl rfl ?_
    refine to_gf rfl rfl rfl rfl ?_
    refine to_gf rfl rfl rfl rfl ?_
    refine to_pkF rfl rfl rfl ?_
    refine to_as rfl rfl ?_
    refine to_nil ?_
    refine tn_code ?_
    refine t_ret1 rfl rfl (res_tmp rfl) (fun w' s => ?_)
    first | (simp_all [inB]; done) | (simp [inB]; omega)

set_option maxRecDepth 20000 in
theorem ref_in (x lo hi : Int) (w : World)  : Calls Tryz.prog 65 #[(.int .i64 x), (.int .i64 lo), (.int .i64 hi)] w (RetV w (.bool (inB x lo hi))) := by
  refine calls_T0 (av := [_, _, _]) Tryz.func65 rfl rfl rfl ?_
  refine t_seq ?_
  refine t_reg ?_
  refine to_as rfl rfl ?_
  refine to_nil ?_
  refine tn_code ?_
  refine t_seq ?_
  refine t_reg ?_
  refine to_mv rfl rfl ?_
  refine to_mv rfl rfl ?_
  refine to_geq rfl rfl rfl ?_
  refine to_mv rfl rfl ?_
  refine to_gs rfl rfl rfl (fun h1 => ?_) (fun h1 => ?_)
  · try simp only [decide_eq_true_eq, decide_eq_false_iff_not, Bool.not_eq_true', Bool.not_eq_false', Int.not_lt, Int.not_le, ne_eq, Decidable.not_not] at h1
    try have h1b := inB_iff.1 h1
    refine to_gt rfl rfl ?_
    refine to_mv rfl rfl ?_
    refine to_gt rfl rfl ?_
    refine to_mv rfl rfl ?_
    refine to_gt rfl rfl ?_
    refine to_leq rfl rfl rfl ?_
    refine to_pkT rfl rfl rfl ?_
    refine to_as rfl rfl ?_
    refine to_nil ?_
    refine tn_code ?_
    refine t_ret1 rfl rfl (res_tmp rfl) (fun w' s => ?_)
    first | (simp_all [inB]; done) | (simp [inB]; omega)
  · try simp only [decide_eq_true_eq, decide_eq_false_iff_not, Bool.not_eq_true', Bool.not_eq_false', Int.not_lt, Int.not_le, ne_eq, Decidable.not_not] at h1
    try have h1b := inB_iff.1 h1
    refine to_gf rfl rfl rfl rfl ?_
    refine to_gf rfl rfl rfl rfl ?_
    refine to_gf rfl rfl rfl rfl ?_
    refine to_pkF rfl rfl rfl ?_
    refine to_as rfl rfl ?_
    refine to_nil ?_
    refine tn_code ?_
    refine t_ret1 rfl rfl (res_tmp rfl) (fun w' s => ?_)
    first | (simp_all [inB]; done) | (simp [inB]; omega)

set_option maxRecDepth 20000 in
theorem r_isRule (x : Int) (w : World)  : Calls Tryz.prog 58 #[(.int .i64 x)] w (RetV w (.bool (inB x 1 4))) := by
  refine calls_T0 (av := [_]) Tryz.func58 rfl rfl rfl ?_
  refine t_seq ?_
  refine t_reg ?_
  refine to_as rfl rfl ?_
  refine to_nil ?_
  refine tn_code ?_
  refine t_seq ?_
  refine t_reg ?_
  refine to_mv rfl rfl ?_
  refine to_geq rfl rfl rfl ?_
  refine to_mv rfl rfl ?_
  refine to_gs rfl rfl rfl (fun h1 => ?_) (fun h1 => ?_)
  · try simp only [decide_eq_true_eq, decide_eq_false_iff_not, Bool.not_eq_true', Bool.not_eq_false', Int.not_lt, Int.not_le, ne_eq, Decidable.not_not] at h1
    try have h1b := inB_iff.1 h1
    refine to_gt rfl rfl ?_
    refine to_mv rfl rfl ?_
    refine to_gt rfl rfl ?_
    refine to_leq rfl rfl rfl ?_
    refine to_pkT rfl rfl rfl ?_
    refine to_as rfl rfl ?_
    refine to_nil ?_
    refine tn_code ?_
    refine t_ret1 rfl rfl (res_tmp rfl) (fun w' s => ?_)
    first | (simp_all [inB]; done) | (simp [inB]; omega)
  · try simp only [decide_eq_true_eq, decide_eq_false_iff_not, Bool.not_eq_true', Bool.not_eq_false', Int.not_lt, Int.not_le, ne_eq, Decidable.not_not] at h1
    try have h1b := inB_iff.1 h1
    refine to_gf rfl rfl rfl rfl ?_
    refine to_gf rfl rfl rfl rfl ?_
    refine to_pkF rfl rfl rfl ?_
    refine to_as rfl rfl ?_
    refine to_nil ?_
    refine tn_code ?_
    refine t_ret1 rfl rfl (res_tmp rfl) (fun w' s => ?_)
    first | (simp_all [inB]; done) | (simp [inB]; omega)

set_option maxRecDepth 20000 in
theorem ref_Rule (x : Int) (w : World)  : Calls Tryz.prog 61 #[(.int .i64 x)] w (RetV w (.bool (inB x 1 4))) := by
  refine calls_T0 (av := [_]) Tryz.func61 rfl rfl rfl ?_
  refine t_seq ?_
  refine t_reg ?_
  refine to_as rfl rfl ?_
  refine to_nil ?_
  refine tn_code ?_
  refine t_seq ?_
  refine t_reg ?_
  refine to_mv rfl rfl ?_
  refine to_geq rfl rfl rfl ?_
  refine to_mv rfl rfl ?_
  refine to_gs rfl rfl rfl (fun h1 => ?_) (fun h1 => ?_)
  · try simp only [decide_eq_true_eq, decide_eq_false_iff_not, Bool.not_eq_true', Bool.not_eq_false', Int.not_lt, Int.not_le, ne_eq, Decidable.not_not] at h1
    try have h1b := inB_iff.1 h1
    refine to_gt rfl rfl ?_
    refine to_mv rfl rfl ?_
    refine to_gt rfl rfl ?_
    refine to_leq rfl rfl rfl ?_
    refine to_pkT rfl rfl rfl ?_
    refine to_as rfl rfl ?_
    refine to_nil ?_
    refine tn_code ?_
    refine t_ret1 rfl rfl (res_tmp rfl) (fun w' s => ?_)
    first | (simp_all [inB]; done) | (simp [inB]; omega)
  · try simp only [decide_eq_true_eq, decide_eq_false_iff_not, Bool.not_eq_true', Bool.not_eq_false', Int.not_lt, Int.not_le, ne_eq, Decidable.not_not] at h1
    try have h1b := inB_iff.1 h1
    refine to_gf rfl rfl rfl rfl ?_
    refine to_gf rfl rfl rfl rfl ?_
    refine to_pkF rfl rfl rfl ?_
    refine to_as rfl rfl ?_
    refine to_nil ?_
    refine tn_code ?_
    refine t_ret1 rfl rfl (res_tmp rfl) (fun w' s => ?_)
    first | (simp_all [inB]; done) | (simp [inB]; omega)

set_option maxRecDepth 20000 in
theorem ref_Value (x : Int) (w : World)  : Calls Tryz.prog 19 #[(.int .i64 x)] w (RetV w (.bool (inB x (-1099511627776) 1099511627776))) := by
  refine calls_T0 (av := [_]) Tryz.func19 rfl rfl rfl ?_
  refine t_seq ?_
  refine t_reg ?_
  refine to_as rfl rfl ?_
  refine to_nil ?_
  refine tn_code ?_
  refine t_seq ?_
  refine t_reg ?_
  refine to_mv rfl rfl ?_
  refine to_call0 rfl rfl (fun w s => ref_in _ _ _ w) rfl ?_
  refine to_as rfl rfl ?_
  refine to_nil ?_
  refine tn_code ?_
  refine t_ret1 rfl rfl (res_tmp rfl) (fun w' s => ?_)
  rfl

set_option maxRecDepth 20000 in
theorem ref_Unit (x : Int) (w : World)  : Calls Tryz.prog 60 #[(.int .i64 x)] w (RetV w (.bool (inB x 1 1048576))) := by
  refine calls_T0 (av := [_]) Tryz.func60 rfl rfl rfl ?_
  refine t_seq ?_
  refine t_reg ?_
  refine to_as rfl rfl ?_
  refine to_nil ?_
  refine tn_code ?_
  refine t_seq ?_
  refine t_reg ?_
  refine to_mv rfl rfl ?_
  refine to_call0 rfl rfl (fun w s => ref_in _ _ _ w) rfl ?_
  refine to_as rfl rfl ?_
  refine to_nil ?_
  refine tn_code ?_
  refine t_ret1 rfl rfl (res_tmp rfl) (fun w' s => ?_)
  rfl

def fineV (v u r : Int) : Bool := inB v (-1099511627776) 1099511627776 && inB u 1 1048576 && inB r 1 4
abbrev ruV (u : Int) : Value := .agg [.int .i64 u].toArray

set_option maxRecDepth 20000 in
theorem law_fine (v u r : Int) (w : World)  : Calls Tryz.prog 16 #[(.int .i64 v), (.int .i64 u), (.int .i64 r)] w (RetV w (.bool (fineV v u r))) := by
  refine calls_T0 (av := [_, _, _]) Tryz.func16 rfl rfl rfl ?_
  refine t_seq ?_
  refine t_reg ?_
  refine to_as rfl rfl ?_
  refine to_nil ?_
  refine tn_code ?_
  refine t_seq ?_
  refine t_reg ?_
  refine to_mv rfl rfl ?_
  refine to_call0 rfl rfl (fun w s => ref_Value _ w) rfl ?_
  refine to_mv rfl rfl ?_
  refine to_gs rfl rfl rfl (fun h1 => ?_) (fun h1 => ?_)
  · try simp only [decide_eq_true_eq, decide_eq_false_iff_not, Bool.not_eq_true', Bool.not_eq_false', Int.not_lt, Int.not_le, ne_eq, Decidable.not_not] at h1
    try have h1b := inB_iff.1 h1
    refine to_gt rfl rfl ?_
    refine to_mv rfl rfl ?_
    refine to_gt rfl rfl ?_
    refine to_call0 rfl rfl (fun w s => ref_Unit _ w) rfl ?_
    refine to_pkT rfl rfl rfl ?_
    refine to_mv rfl rfl ?_
    refine to_gs rfl rfl rfl (fun h2 => ?_) (fun h2 => ?_)
    · try simp only [decide_eq_true_eq, decide_eq_false_iff_not, Bool.not_eq_true', Bool.not_eq_false', Int.not_lt, Int.not_le, ne_eq, Decidable.not_not] at h2
      try have h2b := inB_iff.1 h2
      refine to_gt rfl rfl ?_
      refine to_mv rfl rfl ?_
      refine to_gt rfl rfl ?_
      refine to_call0 rfl rfl (fun w s => ref_Rule _ w) rfl ?_
      refine to_pkT rfl rfl rfl ?_
      refine to_as rfl rfl ?_
      refine to_nil ?_
      refine tn_code ?_
      refine t_ret1 rfl rfl (res_tmp rfl) (fun w' s => ?_)
      simp_all [fineV]
    · try simp only [decide_eq_true_eq, decide_eq_false_iff_not, Bool.not_eq_true', Bool.not_eq_false', Int.not_lt, Int.not_le, ne_eq, Decidable.not_not] at h2
      try have h2b := inB_iff.1 h2
      refine to_gf rfl rfl rfl rfl ?_
      refine to_gf rfl rfl rfl rfl ?_
      refine to_pkF rfl rfl rfl ?_
      refine to_as rfl rfl ?_
      refine to_nil ?_
      refine tn_code ?_
      refine t_ret1 rfl rfl (res_tmp rfl) (fun w' s => ?_)
      simp_all [fineV]
  · try simp only [decide_eq_true_eq, decide_eq_false_iff_not, Bool.not_eq_true', Bool.not_eq_false', Int.not_lt, Int.not_le, ne_eq, Decidable.not_not] at h1
    try have h1b := inB_iff.1 h1
    refine to_gf rfl rfl rfl rfl ?_
    refine to_gf rfl rfl rfl rfl ?_
    refine to_pkF rfl rfl rfl ?_
    refine to_mv rfl rfl ?_
    refine to_gf rfl rfl rfl rfl ?_
    refine to_gf rfl rfl rfl rfl ?_
    refine to_pkF rfl rfl rfl ?_
    refine to_as rfl rfl ?_
    refine to_nil ?_
    refine tn_code ?_
    refine t_ret1 rfl rfl (res_tmp rfl) (fun w' s => ?_)
    simp_all [fineV]

set_option maxRecDepth 20000 in
theorem r_down (u v : Int) (w : World) (hu : 1 ≤ u ∧ u ≤ 8796093022208) (hv : -8796093022208 ≤ v ∧ v ≤ 8796093022208) : Calls Tryz.prog 95 #[ruV u, (.int .i64 v)] w (RetV w (.int .i64 (v / u))) := by
  have hu0 : 0 < u := by omega
  have hb := tdiv_bd v (B := 8796093022208) hu0 hu.2 hv
  refine calls_T0 (av := [_, _]) Tryz.func95 rfl rfl rfl ?_
  refine t_seq ?_
  refine t_reg ?_
  refine to_box rfl rfl (fun b2 => ?_)
  refine to_as rfl rfl ?_
  refine to_nil ?_
  refine tn_code ?_
  refine t_seq ?_
  refine t_reg ?_
  refine to_mv rfl rfl ?_
  first | refine to_fa rfl rfl rfl (by simp only [Nat.reduceAdd]; rfl) rfl ?_ | refine to_fae rfl rfl rfl (by simp only [Nat.reduceAdd]; rfl) rfl ?_
  first | refine to_lds rfl rfl rfl ?_ | refine to_ldes rfl (by assumption) rfl rfl ?_
  refine to_quoE rfl rfl (by omega) (wrap_id (by omega)) rfl ?_
  refine to_as rfl rfl ?_
  refine to_nil ?_
  refine tn_code ?_
  refine t_seq ?_
  refine t_seq ?_
  refine t_reg ?_
  refine to_mv rfl rfl ?_
  first | refine to_fa rfl rfl rfl (by simp only [Nat.reduceAdd]; rfl) rfl ?_ | refine to_fae rfl rfl rfl (by simp only [Nat.reduceAdd]; rfl) rfl ?_
  first | refine to_lds rfl rfl rfl ?_ | refine to_ldes rfl (by assumption) rfl rfl ?_
  refine to_mul rfl rfl (by first | omega | exact mul_ok (by omega) (by omega) (by omega) (by omega)) rfl ?_
  refine to_mv rfl rfl ?_
  refine to_gtr rfl rfl rfl ?_
  refine to_nil ?_
  refine tn_code ?_
  refine t_if rfl (fun h1 => ?_) (fun h1 => ?_)
  · try simp only [decide_eq_true_eq, decide_eq_false_iff_not, Bool.not_eq_true', Bool.not_eq_false', Int.not_lt, Int.not_le, ne_eq, Decidable.not_not] at h1
    try have h1b := inB_iff.1 h1
    refine t_reg ?_
    refine to_mv rfl rfl ?_
    refine to_sub rfl rfl (by omega) rfl ?_
    refine to_as rfl rfl ?_
    refine to_nil ?_
    refine tn_code ?_
    refine t_seq ?_
    refine t_reg ?_
    refine to_mv rfl rfl ?_
    refine to_as rfl rfl ?_
    refine to_nil ?_
    refine tn_code ?_
    refine t_ret1 rfl rfl (res_tmp rfl) (fun w' s => ?_)
    exact congrArg (Value.int .i64) (by rcases tdiv_cases v hu0 with h | h <;> omega)
  · try simp only [decide_eq_true_eq, decide_eq_false_iff_not, Bool.not_eq_true', Bool.not_eq_false', Int.not_lt, Int.not_le, ne_eq, Decidable.not_not] at h1
    try have h1b := inB_iff.1 h1
    refine t_skip ?_
    refine tn_code ?_
    refine t_seq ?_
    refine t_reg ?_
    refine to_mv rfl rfl ?_
    refine to_as rfl rfl ?_
    refine to_nil ?_
    refine tn_code ?_
    refine t_ret1 rfl rfl (res_tmp rfl) (fun w' s => ?_)
    exact congrArg (Value.int .i64) (by rcases tdiv_cases v hu0 with h | h <;> omega)

set_option maxRecDepth 20000 in
theorem r_up (u v : Int) (w : World) (hu : 1 ≤ u ∧ u ≤ 8796093022208) (hv : -8796093022208 ≤ v ∧ v ≤ 8796093022208) : Calls Tryz.prog 96 #[ruV u, (.int .i64 v)] w (RetV w (.int .i64 (-((-v) / u)))) := by
  have hb := tdiv_bd (-v) (B := 8796093022208) (by omega) hu.2 (by omega)
  have hc := tdiv_cases (-v) (u := u) (by omega)
  refine calls_T0 (av := [_, _]) Tryz.func96 rfl rfl rfl ?_
  refine t_seq ?_
  refine t_reg ?_
  refine to_box rfl rfl (fun b2 => ?_)
  refine to_as rfl rfl ?_
  refine to_nil ?_
  refine tn_code ?_
  refine t_seq ?_
  refine t_reg ?_
  first | refine to_lda rfl rfl rfl ?_ | refine to_ldea rfl (by assumption) rfl rfl ?_
  refine to_mv rfl rfl ?_
  refine to_neg rfl (by omega) rfl ?_
  refine to_call0 rfl rfl (fun w s => r_down _ _ w (by first | assumption | omega) (by first | assumption | omega)) rfl ?_
  refine to_neg rfl (by omega) rfl ?_
  refine to_as rfl rfl ?_
  refine to_nil ?_
  refine tn_code ?_
  refine t_ret1 rfl rfl (res_tmp rfl) (fun w' s => ?_)
  rfl

set_option maxRecDepth 20000 in
theorem r_near (u v : Int) (w : World) (hu : 1 ≤ u ∧ u ≤ 1048576) (hv : -1099511627776 ≤ v ∧ v ≤ 1099511627776) : Calls Tryz.prog 97 #[ruV u, (.int .i64 v)] w (RetV w (.int .i64 ((2 * v + u) / (2 * u)))) := by
  refine calls_T0 (av := [_, _]) Tryz.func97 rfl rfl rfl ?_
  refine t_seq ?_
  refine t_reg ?_
  refine to_box rfl rfl (fun b2 => ?_)
  refine to_as rfl rfl ?_
  refine to_nil ?_
  refine tn_code ?_
  refine t_seq ?_
  refine t_reg ?_
  first | refine to_fa rfl rfl rfl (by simp only [Nat.reduceAdd]; rfl) rfl ?_ | refine to_fae rfl rfl rfl (by simp only [Nat.reduceAdd]; rfl) rfl ?_
  first | refine to_lds rfl rfl rfl ?_ | refine to_ldes rfl (by assumption) rfl rfl ?_
  refine to_mul rfl rfl (by first | omega | exact mul_ok (by omega) (by omega) (by omega) (by omega)) rfl ?_
  refine to_bs rfl rfl ?_
  refine to_mv rfl rfl ?_
  refine to_mul rfl rfl (by first | omega | exact mul_ok (by omega) (by omega) (by omega) (by omega)) rfl ?_
  first | refine to_fa rfl rfl rfl (by simp only [Nat.reduceAdd]; rfl) rfl ?_ | refine to_fae rfl rfl rfl (by simp only [Nat.reduceAdd]; rfl) rfl ?_
  first | refine to_lds rfl rfl rfl ?_ | refine to_ldes rfl (by assumption) rfl rfl ?_
  refine to_add rfl rfl (by omega) rfl ?_
  refine to_call0 rfl rfl (fun w s => r_down _ _ w (by first | assumption | omega) (by first | assumption | omega)) rfl ?_
  refine to_as rfl rfl ?_
  refine to_nil ?_
  refine tn_code ?_
  refine t_ret1 rfl rfl (res_tmp rfl) (fun w' s => ?_)
  rfl

theorem even_bd {u v : Int} (hu : 1 ≤ u ∧ u ≤ 1048576) (hv : -1099511627776 ≤ v ∧ v ≤ 1099511627776) : -1099511627777 ≤ (2 * v + u) / (2 * u) ∧ (2 * v + u) / (2 * u) ≤ 1099511627777 ∧ -4398046511104 ≤ 2 * u * ((2 * v + u) / (2 * u)) ∧ 2 * u * ((2 * v + u) / (2 * u)) ≤ 4398046511104 := by
  have h1 := toF_b (u := u) (r := 3) (v := v) (B := 1099511627776) hu.1 hv
  simp only [toF, show ¬ ((3 : Int) = 1) from by decide, show ¬ ((3 : Int) = 2) from by decide, if_false, if_true] at h1
  have h2 := ediv_bd (2 * v + u) (show 0 < 2 * u by omega)
  rw [Int.mul_comm] at h2
  omega

set_option maxRecDepth 20000 in
theorem r_even (u v : Int) (w : World) (hu : 1 ≤ u ∧ u ≤ 1048576) (hv : -1099511627776 ≤ v ∧ v ≤ 1099511627776) : Calls Tryz.prog 98 #[ruV u, (.int .i64 v)] w (RetV w (.int .i64 (toF u 4 v))) := by
  have hb := even_bd hu hv
  refine calls_T0 (av := [_, _]) Tryz.func98 rfl rfl rfl ?_
  refine t_seq ?_
  refine t_reg ?_
  refine to_box rfl rfl (fun b2 => ?_)
  refine to_as rfl rfl ?_
  refine to_nil ?_
  refine tn_code ?_
  refine t_seq ?_
  refine t_reg ?_
  first | refine to_lda rfl rfl rfl ?_ | refine to_ldea rfl (by assumption) rfl rfl ?_
  refine to_mv rfl rfl ?_
  refine to_call0 rfl rfl (fun w s => r_near _ _ w (by first | assumption | omega) (by first | assumption | omega)) rfl ?_
  refine to_as rfl rfl ?_
  refine to_nil ?_
  refine tn_code ?_
  refine t_seq ?_
  refine t_seq ?_
  refine t_reg ?_
  refine to_mv rfl rfl ?_
  refine to_mul rfl rfl (by first | omega | exact mul_ok (by omega) (by omega) (by omega) (by omega)) rfl ?_
  first | refine to_fa rfl rfl rfl (by simp only [Nat.reduceAdd]; rfl) rfl ?_ | refine to_fae rfl rfl rfl (by simp only [Nat.reduceAdd]; rfl) rfl ?_
  first | refine to_lds rfl rfl rfl ?_ | refine to_ldes rfl (by assumption) rfl rfl ?_
  refine to_add rfl rfl (by omega) rfl ?_
  first | refine to_fa rfl rfl rfl (by simp only [Nat.reduceAdd]; rfl) rfl ?_ | refine to_fae rfl rfl rfl (by simp only [Nat.reduceAdd]; rfl) rfl ?_
  first | refine to_lds rfl rfl rfl ?_ | refine to_ldes rfl (by assumption) rfl rfl ?_
  refine to_mul rfl rfl (by first | omega | exact mul_ok (by omega) (by omega) (by omega) (by omega)) rfl ?_
  refine to_mv rfl rfl ?_
  refine to_mul rfl rfl (by first | omega | exact mul_ok (by omega) (by omega) (by omega) (by omega)) rfl ?_
  refine to_eql rfl rfl rfl ?_
  refine to_mv rfl rfl ?_
  refine to_gs rfl rfl rfl (fun h1 => ?_) (fun h1 => ?_)
  · try simp only [decide_eq_true_eq, decide_eq_false_iff_not, Bool.not_eq_true', Bool.not_eq_false', Int.not_lt, Int.not_le, ne_eq, Decidable.not_not] at h1
    try have h1b := inB_iff.1 h1
    refine to_gt rfl rfl ?_
    refine to_mv rfl rfl ?_
    refine to_gt rfl rfl ?_
    refine to_remw rfl rfl (by decide) rfl ?_
    refine to_gt rfl rfl ?_
    refine to_neq rfl rfl rfl ?_
    refine to_pkT rfl rfl rfl ?_
    refine to_nil ?_
    refine tn_code ?_
    refine t_if rfl (fun h2 => ?_) (fun h2 => ?_)
    · try simp only [decide_eq_true_eq, decide_eq_false_iff_not, Bool.not_eq_true', Bool.not_eq_false', Int.not_lt, Int.not_le, ne_eq, Decidable.not_not] at h2
      try have h2b := inB_iff.1 h2
      refine t_reg ?_
      refine to_mv rfl rfl ?_
      refine to_sub rfl rfl (by omega) rfl ?_
      refine to_as rfl rfl ?_
      refine to_nil ?_
      refine tn_code ?_
      refine t_seq ?_
      refine t_reg ?_
      refine to_mv rfl rfl ?_
      refine to_as rfl rfl ?_
      refine to_nil ?_
      refine tn_code ?_
      refine t_ret1 rfl rfl (res_tmp rfl) (fun w' s => ?_)
      have hm := tmod2 ((2 * v + u) / (2 * u))
      simp only [toF, show ¬ ((4 : Int) = 1) from by decide, show ¬ ((4 : Int) = 2) from by decide, show ¬ ((4 : Int) = 3) from by decide, if_false]
      refine congrArg (Value.int .i64) ?_
      split <;> omega
    · try simp only [decide_eq_true_eq, decide_eq_false_iff_not, Bool.not_eq_true', Bool.not_eq_false', Int.not_lt, Int.not_le, ne_eq, Decidable.not_not] at h2
      try have h2b := inB_iff.1 h2
      refine t_skip ?_
      refine tn_code ?_
      refine t_seq ?_
      refine t_reg ?_
      refine to_mv rfl rfl ?_
      refine to_as rfl rfl ?_
      refine to_nil ?_
      refine tn_code ?_
      refine t_ret1 rfl rfl (res_tmp rfl) (fun w' s => ?_)
      have hm := tmod2 ((2 * v + u) / (2 * u))
      simp only [toF, show ¬ ((4 : Int) = 1) from by decide, show ¬ ((4 : Int) = 2) from by decide, show ¬ ((4 : Int) = 3) from by decide, if_false]
      refine congrArg (Value.int .i64) ?_
      split <;> omega
  · try simp only [decide_eq_true_eq, decide_eq_false_iff_not, Bool.not_eq_true', Bool.not_eq_false', Int.not_lt, Int.not_le, ne_eq, Decidable.not_not] at h1
    try have h1b := inB_iff.1 h1
    refine to_gf rfl rfl rfl rfl ?_
    refine to_gf rfl rfl rfl rfl ?_
    refine to_gf rfl rfl rfl rfl ?_
    refine to_pkF rfl rfl rfl ?_
    refine to_nil ?_
    refine tn_code ?_
    refine t_ifF rfl ?_
    refine t_skip ?_
    refine tn_code ?_
    refine t_seq ?_
    refine t_reg ?_
    refine to_mv rfl rfl ?_
    refine to_as rfl rfl ?_
    refine to_nil ?_
    refine tn_code ?_
    refine t_ret1 rfl rfl (res_tmp rfl) (fun w' s => ?_)
    have hm := tmod2 ((2 * v + u) / (2 * u))
    simp only [toF, show ¬ ((4 : Int) = 1) from by decide, show ¬ ((4 : Int) = 2) from by decide, show ¬ ((4 : Int) = 3) from by decide, if_false]
    refine congrArg (Value.int .i64) ?_
    split <;> omega

abbrev rulesV (u : Int) : Value := .agg [.nilFunc, .func (.func 95) [ruV u].toArray ([] : List Value).toArray, .func (.func 96) [ruV u].toArray ([] : List Value).toArray, .func (.func 97) [ruV u].toArray ([] : List Value).toArray, .func (.func 98) [ruV u].toArray ([] : List Value).toArray].toArray

set_option maxRecDepth 20000 in
theorem r_rules (u : Int) (w : World)  : Calls Tryz.prog 59 #[ruV u] w (RetV w (rulesV u)) := by
  refine calls_T0 (av := [_]) Tryz.func59 rfl rfl rfl ?_
  refine t_seq ?_
  refine t_reg ?_
  refine to_box rfl rfl (fun b1 => ?_)
  refine to_alloc rfl (fun b2 => ?_)
  refine to_nil ?_
  refine tn_code ?_
  refine t_seq ?_
  refine t_reg ?_
  first | refine to_lda rfl rfl rfl ?_ | refine to_ldea rfl (by assumption) rfl rfl ?_
  refine to_mf rfl rfl rfl ?_
  first | refine to_lda rfl rfl rfl ?_ | refine to_ldea rfl (by assumption) rfl rfl ?_
  refine to_mf rfl rfl rfl ?_
  first | refine to_lda rfl rfl rfl ?_ | refine to_ldea rfl (by assumption) rfl rfl ?_
  refine to_mf rfl rfl rfl ?_
  first | refine to_lda rfl rfl rfl ?_ | refine to_ldea rfl (by assumption) rfl rfl ?_
  refine to_mf rfl rfl rfl ?_
  refine to_ba1 rfl rfl rfl ?_
  first | refine to_st rfl rfl rfl rfl ?_ | refine to_ste rfl rfl (by assumption) rfl rfl ?_
  refine to_nil ?_
  refine tn_code ?_
  refine t_ret1 rfl rfl (res_cellA rfl rfl) (fun w' s => ?_)
  rfl

end Go.Proofs


namespace Go.Proofs
open Go Go.Sx Go.RowKit

set_option maxRecDepth 20000 in
theorem idxfI (xs : List Int) (a : Option Addr) (c : Nat) (q : Nat) (cp : List Value) (p : Int → Bool) (w : World) [hf : FnOk Tryz.prog q] (hr : Ro w 0 w.heap.size a xs.length c 1 (xs.map intC)) (hn : xs.length ≤ 1000000) (hq : ∀ w', Below w.heap.size w w' → ∀ y ∈ xs, Calls Tryz.prog q ([] ++ ([Value.int .i64 y] ++ cp)).toArray w' (RetV w' (.bool (p y)))) : Calls Tryz.prog 123 #[.slice a xs.length c, .func (.func q) ([] : List Value).toArray cp.toArray] w (RetV w (.int .i64 (idxI p xs))) := by
  refine calls_T0 (av := [_, _]) Tryz.func123 rfl rfl rfl ?_
  refine t_seq ?_
  refine t_reg ?_
  refine to_as rfl rfl ?_
  refine to_nil ?_
  refine tn_code ?_
  refine t_seq ?_
  refine t_seq ?_
  refine t_reg ?_
  refine to_mv rfl rfl ?_
  refine to_lenS rfl rfl ?_
  refine to_mv rfl rfl ?_
  refine to_nil ?_
  refine tn_code ?_
  refine t_blk ?_
  refine t_loop2 (ι := Nat) (fun k => k ≤ xs.length ∧ ∀ j, j < k → ∀ y, xs[j]? = some y → p y = false) (fun k => [(0, .slice a xs.length c), (1, .func (.func q) ([] : List Value).toArray cp.toArray), (6, .slice a xs.length c), (7, .int .i64 (xs.length : Int)), (8, .int .i64 (k : Int))]) (fun k => [.snap 0 w.heap.size w]) (fun k => xs.length - k) (0) [.snap 0 w.heap.size w] (rfl) (⟨Nat.zero_le _, fun j hj => absurd hj (Nat.not_lt_zero _)⟩) (⟨rfl, rfl, rfl, rfl, rfl, trivial⟩) ?_
  rintro k ⟨hk, hall⟩
  show T _ _ _ ⟨_, [(0, .slice a xs.length c), (1, .func (.func q) ([] : List Value).toArray cp.toArray), (6, .slice a xs.length c), (7, .int .i64 (xs.length : Int)), (8, .int .i64 (k : Int))], _⟩ [.snap 0 w.heap.size w]
  refine t_seq ?_
  refine t_reg ?_
  refine to_lss rfl rfl rfl ?_
  refine to_nil ?_
  refine tn_code ?_
  refine t_seq ?_
  refine t_if rfl (fun h1 => ?_) (fun h1 => ?_)
  · try simp only [decide_eq_true_eq, decide_eq_false_iff_not, Bool.not_eq_true', Bool.not_eq_false', Int.not_lt, Int.not_le, ne_eq, Decidable.not_not] at h1
    try have h1b := inB_iff.1 h1
    obtain ⟨y, hy⟩ := some_get (xs := xs) (k := k) (by omega)
    have hx := map_get (f := intC) hy
    refine t_skip ?_
    refine tn_code ?_
    refine t_seq ?_
    refine t_blk ?_
    refine t_seq ?_
    refine t_reg ?_
    refine to_mv rfl rfl ?_
    refine to_as rfl rfl ?_
    refine to_nil ?_
    refine tn_code ?_
    refine t_seq ?_
    refine t_reg ?_
    refine to_mv rfl rfl ?_
    refine to_mv rfl rfl ?_
    refine to_mv rfl rfl ?_
    first | refine to_ix rfl rfl rfl (by first | omega | decide) (by first | omega | decide) rfl ?_ | refine to_ixi rfl rfl rfl (by omega) (by omega) (by omega) rfl ?_
    first | refine to_lds rfl rfl rfl ?_ | refine to_ldes rfl (by assumption) rfl rfl ?_
    refine to_call0 rfl rfl (fun w s => hq w (s.below0 (List.mem_cons_self ..)) y (List.mem_of_getElem? hy)) rfl ?_
    refine to_nil ?_
    refine tn_code ?_
    refine t_if rfl (fun h2 => ?_) (fun h2 => ?_)
    · try simp only [decide_eq_true_eq, decide_eq_false_iff_not, Bool.not_eq_true', Bool.not_eq_false', Int.not_lt, Int.not_le, ne_eq, Decidable.not_not] at h2
      try have h2b := inB_iff.1 h2
      have hfin := idxI_found hall hy h2
      refine t_seq ?_
      refine t_reg ?_
      refine to_mv rfl rfl ?_
      refine to_as rfl rfl ?_
      refine to_nil ?_
      refine tn_code ?_
      refine t_ret1 rfl rfl (res_tmp rfl) (fun w' s => ?_)
      rw [hfin]
    · try simp only [decide_eq_true_eq, decide_eq_false_iff_not, Bool.not_eq_true', Bool.not_eq_false', Int.not_lt, Int.not_le, ne_eq, Decidable.not_not] at h2
      try have h2b := inB_iff.1 h2
      refine t_skip ?_
      refine tn_blk ?_
      refine tn_code ?_
      refine t_reg ?_
      refine to_add rfl rfl (by omega) rfl ?_
      refine to_mv rfl rfl ?_
      refine to_nil ?_
      exact tn_loop2 (k + 1) [.snap 0 w.heap.size w] (rfl) (⟨by omega, all_succ hall (fun z hz => by rw [hy] at hz; cases hz; assumption)⟩) (by omega) (⟨rfl, rfl, rfl, rfl, rfl, trivial⟩)
  · try simp only [decide_eq_true_eq, decide_eq_false_iff_not, Bool.not_eq_true', Bool.not_eq_false', Int.not_lt, Int.not_le, ne_eq, Decidable.not_not] at h1
    try have h1b := inB_iff.1 h1
    have hk2 : k = xs.length := by omega
    subst hk2
    have hfin := idxI_none hall
    refine t_exit ?_
    refine tx_code ?_
    refine tx_inv ?_
    refine tx_blk ?_
    refine tn_code ?_
    refine t_seq ?_
    refine t_reg ?_
    refine to_as rfl rfl ?_
    refine to_nil ?_
    refine tn_code ?_
    refine t_ret1 rfl rfl (res_tmp rfl) (fun w' s => ?_)
    rw [hfin]

set_option maxRecDepth 20000 in
theorem conI (xs : List Int) (a : Option Addr) (c : Nat) (q : Nat) (cp : List Value) (p : Int → Bool) (w : World) [hf : FnOk Tryz.prog q] (hr : Ro w 0 w.heap.size a xs.length c 1 (xs.map intC)) (hn : xs.length ≤ 1000000) (hq : ∀ w', Below w.heap.size w w' → ∀ y ∈ xs, Calls Tryz.prog q ([] ++ ([Value.int .i64 y] ++ cp)).toArray w' (RetV w' (.bool (p y)))) : Calls Tryz.prog 104 #[.slice a xs.length c, .func (.func q) ([] : List Value).toArray cp.toArray] w (RetV w (.bool (xs.any p))) := by
  refine calls_T0 (av := [_, _]) Tryz.func104 rfl rfl rfl ?_
  refine t_seq ?_
  refine t_reg ?_
  refine to_as rfl rfl ?_
  refine to_nil ?_
  refine tn_code ?_
  refine t_seq ?_
  refine t_reg ?_
  refine to_mv rfl rfl ?_
  refine to_mv rfl rfl ?_
  refine to_call0 rfl rfl (fun w s => idxfI _ _ _ _ _ _ w (rdw s) hn (fun w' hb y hy => hq w' (below_tr (s.below0 (List.mem_cons_self ..)) hb) y hy)) rfl ?_
  refine to_geq rfl rfl rfl ?_
  refine to_as rfl rfl ?_
  refine to_nil ?_
  refine tn_code ?_
  refine t_ret1 rfl rfl (res_tmp rfl) (fun w' s => ?_)
  rw [idxI_any]

set_option maxRecDepth 20000 in
theorem idxV (xs : List Int) (a : Option Addr) (c : Nat) (v : Int) (w : World) (hr : Ro w 0 w.heap.size a xs.length c 1 (ints xs)) (hn : xs.length ≤ 1000000) : Calls Tryz.prog 106 #[.slice a xs.length c, (.int .i64 v)] w (RetV w (.int .i64 (idxI (fun y => v == y) xs))) := by
  refine calls_T0 (av := [_, _]) Tryz.func106 rfl rfl rfl ?_
  refine t_seq ?_
  refine t_reg ?_
  refine to_as rfl rfl ?_
  refine to_nil ?_
  refine tn_code ?_
  refine t_seq ?_
  refine t_seq ?_
  refine t_reg ?_
  refine to_mv rfl rfl ?_
  refine to_lenS rfl rfl ?_
  refine to_mv rfl rfl ?_
  refine to_nil ?_
  refine tn_code ?_
  refine t_blk ?_
  refine t_loop2 (ι := Nat) (fun k => k ≤ xs.length ∧ ∀ j, j < k → ∀ y, xs[j]? = some y → (v == y) = false) (fun k => [(0, .slice a xs.length c), (1, (.int .i64 v)), (6, .slice a xs.length c), (7, .int .i64 (xs.length : Int)), (8, .int .i64 (k : Int))]) (fun k => [.snap 0 w.heap.size w]) (fun k => xs.length - k) (0) [.snap 0 w.heap.size w] (rfl) (⟨Nat.zero_le _, fun j hj => absurd hj (Nat.not_lt_zero _)⟩) (⟨rfl, rfl, rfl, rfl, rfl, trivial⟩) ?_
  rintro k ⟨hk, hall⟩
  show T _ _ _ ⟨_, [(0, .slice a xs.length c), (1, (.int .i64 v)), (6, .slice a xs.length c), (7, .int .i64 (xs.length : Int)), (8, .int .i64 (k : Int))], _⟩ [.snap 0 w.heap.size w]
  refine t_seq ?_
  refine t_reg ?_
  refine to_lss rfl rfl rfl ?_
  refine to_nil ?_
  refine tn_code ?_
  refine t_seq ?_
  refine t_if rfl (fun h1 => ?_) (fun h1 => ?_)
  · try simp only [decide_eq_true_eq, decide_eq_false_iff_not, Bool.not_eq_true', Bool.not_eq_false', Int.not_lt, Int.not_le, ne_eq, Decidable.not_not] at h1
    try have h1b := inB_iff.1 h1
    obtain ⟨y, hy⟩ := some_get (xs := xs) (k := k) (by omega)
    have hx := map_get (f := intC) hy
    refine t_skip ?_
    refine tn_code ?_
    refine t_seq ?_
    refine t_blk ?_
    refine t_seq ?_
    refine t_reg ?_
    refine to_mv rfl rfl ?_
    refine to_as rfl rfl ?_
    refine to_nil ?_
    refine tn_code ?_
    refine t_seq ?_
    refine t_reg ?_
    refine to_mv rfl rfl ?_
    refine to_mv rfl rfl ?_
    refine to_mv rfl rfl ?_
    first | refine to_ix rfl rfl rfl (by first | omega | decide) (by first | omega | decide) rfl ?_ | refine to_ixi rfl rfl rfl (by omega) (by omega) (by omega) rfl ?_
    first | refine to_lds rfl rfl rfl ?_ | refine to_ldes rfl (by assumption) rfl rfl ?_
    refine to_eql rfl rfl rfl ?_
    refine to_nil ?_
    refine tn_code ?_
    refine t_if rfl (fun h2 => ?_) (fun h2 => ?_)
    · try simp only [decide_eq_true_eq, decide_eq_false_iff_not, Bool.not_eq_true', Bool.not_eq_false', Int.not_lt, Int.not_le, ne_eq, Decidable.not_not] at h2
      try have h2b := inB_iff.1 h2
      have hfin := idxI_found (p := fun y => v == y) hall hy (by simpa using h2)
      refine t_seq ?_
      refine t_reg ?_
      refine to_mv rfl rfl ?_
      refine to_as rfl rfl ?_
      refine to_nil ?_
      refine tn_code ?_
      refine t_ret1 rfl rfl (res_tmp rfl) (fun w' s => ?_)
      rw [hfin]
    · try simp only [decide_eq_true_eq, decide_eq_false_iff_not, Bool.not_eq_true', Bool.not_eq_false', Int.not_lt, Int.not_le, ne_eq, Decidable.not_not] at h2
      try have h2b := inB_iff.1 h2
      refine t_skip ?_
      refine tn_blk ?_
      refine tn_code ?_
      refine t_reg ?_
      refine to_add rfl rfl (by omega) rfl ?_
      refine to_mv rfl rfl ?_
      refine to_nil ?_
      exact tn_loop2 (k + 1) [.snap 0 w.heap.size w] (rfl) (⟨by omega, all_succ hall (fun z hz => by rw [hy] at hz; cases hz; simpa using (by assumption : ¬ v = y))⟩) (by omega) (⟨rfl, rfl, rfl, rfl, rfl, trivial⟩)
  · try simp only [decide_eq_true_eq, decide_eq_false_iff_not, Bool.not_eq_true', Bool.not_eq_false', Int.not_lt, Int.not_le, ne_eq, Decidable.not_not] at h1
    try have h1b := inB_iff.1 h1
    have hk2 : k = xs.length := by omega
    subst hk2
    have hfin := idxI_none (p := fun y => v == y) hall
    refine t_exit ?_
    refine tx_code ?_
    refine tx_inv ?_
    refine tx_blk ?_
    refine tn_code ?_
    refine t_seq ?_
    refine t_reg ?_
    refine to_as rfl rfl ?_
    refine to_nil ?_
    refine tn_code ?_
    refine t_ret1 rfl rfl (res_tmp rfl) (fun w' s => ?_)
    rw [hfin]

set_option maxRecDepth 20000 in
theorem conV (xs : List Int) (a : Option Addr) (c : Nat) (v : Int) (w : World) (hr : Ro w 0 w.heap.size a xs.length c 1 (ints xs)) (hn : xs.length ≤ 1000000) : Calls Tryz.prog 77 #[.slice a xs.length c, (.int .i64 v)] w (RetV w (.bool (xs.contains v))) := by
  refine calls_T0 (av := [_, _]) Tryz.func77 rfl rfl rfl ?_
  refine t_seq ?_
  refine t_reg ?_
  refine to_as rfl rfl ?_
  refine to_nil ?_
  refine tn_code ?_
  refine t_seq ?_
  refine t_reg ?_
  refine to_mv rfl rfl ?_
  refine to_mv rfl rfl ?_
  refine to_call0 rfl rfl (fun w s => idxV _ _ _ _ w (rdw s) (by omega)) rfl ?_
  refine to_geq rfl rfl rfl ?_
  refine to_as rfl rfl ?_
  refine to_nil ?_
  refine tn_code ?_
  refine t_ret1 rfl rfl (res_tmp rfl) (fun w' s => ?_)
  rw [idxI_any, List.contains_eq_any_beq]

theorem errsOk_iff2 {es : List Int} : errsOk 8 es = true ↔ ∀ (j : Nat) e, es[j]? = some e → inB e 0 8 = true ∧ (0 < j → e ≤ es.getD (j - 1) 0) := by
  constructor
  · intro h j e he
    have h1 := errs_b h e (List.mem_of_getElem? he)
    refine ⟨inB_iff.2 h1, fun hj => ?_⟩
    have h2 := inB_iff.1 (errsOk_iff.1 h j e he)
    rw [if_neg (by omega)] at h2
    exact h2.2
  · intro h
    refine errsOk_iff.2 fun j e he => ?_
    have h1 := h j e he
    have h2 := inB_iff.1 h1.1
    by_cases hj : j = 0
    · rw [if_pos hj]; exact h1.1
    · rw [if_neg hj]; exact inB_iff.2 ⟨h2.1, h1.2 (by omega)⟩
def mostK (es : List Int) (k : Nat) : Int := if k = 0 then 8 else es.getD (k - 1) 0
theorem mostK_succ {es : List Int} {k : Nat} {e : Int} (h : es[k]? = some e) : e = mostK es (k + 1) := by simp [mostK, h]
theorem errsOk_f {es : List Int} {k : Nat} {e : Int} (h : es[k]? = some e) (hb : inB e 0 (mostK es k) = false) : errsOk 8 es = false := by
  rw [Bool.eq_false_iff]
  intro hh
  have := errsOk_iff.1 hh k e h
  simp only [mostK] at hb
  rw [hb] at this; cases this
theorem errsOk_t {es : List Int} (h : ∀ j, j < es.length → ∀ e, es[j]? = some e → inB e 0 (mostK es j) = true) : errsOk 8 es = true :=
  errsOk_iff.2 fun j e he => h j (List.getElem?_eq_some_iff.1 he).1 e he
theorem isSh_eq (sh : Sh) : isSh sh = (inB sh.unit 1 1000 && inB sh.rule 1 4 && inB sh.errs.length 1 5 && inB sh.rows.length 1 5 && errsOk 8 sh.errs && !sh.rows.any (fun n => !inB n (-100000) 100000)) := by
  simp only [isSh, List.all_eq_not_any_not]

set_option maxRecDepth 20000 in
theorem r_isSheet1 (n : Int) (w : World)  : Calls Tryz.prog 105 #[(.int .i64 n)] w (RetV w (.bool (!inB n (-100000) 100000))) := by
  refine calls_T0 (av := [_]) Tryz.func105 rfl rfl rfl ?_
  refine t_seq ?_
  refine t_reg ?_
  refine to_as rfl rfl ?_
  refine to_nil ?_
  refine tn_code ?_
  refine t_seq ?_
  refine t_reg ?_
  refine to_mv rfl rfl ?_
  refine to_call0 rfl rfl (fun w s => r_in _ _ _ w) rfl ?_
  refine to_not rfl rfl ?_
  refine to_as rfl rfl ?_
  refine to_nil ?_
  refine tn_code ?_
  refine t_ret1 rfl rfl (res_tmp rfl) (fun w' s => ?_)
  rfl

set_option maxRecDepth 20000 in
theorem r_isSheet (sh : Sh) (pt : Pt) (w : World) (hre : Ro w 0 w.heap.size pt.ea sh.errs.length pt.ec 1 (ints sh.errs)) (hrr : Ro w 0 w.heap.size pt.ra sh.rows.length pt.rc 1 (ints sh.rows)) : Calls Tryz.prog 74 #[shV sh pt] w (RetV w (.bool (isSh sh))) := by
  have hsq := isSh_eq sh
  refine calls_T0 (av := [_]) Tryz.func74 rfl rfl rfl ?_
  refine t_seq ?_
  refine t_reg ?_
  refine to_box rfl rfl (fun b1 => ?_)
  refine to_as rfl rfl ?_
  refine to_nil ?_
  refine tn_code ?_
  refine t_seq ?_
  refine t_seq ?_
  refine t_reg ?_
  first | refine to_fa rfl rfl rfl (by simp only [Nat.reduceAdd]; rfl) rfl ?_ | refine to_fae rfl rfl rfl (by simp only [Nat.reduceAdd]; rfl) rfl ?_
  first | refine to_lds rfl rfl rfl ?_ | refine to_ldes rfl (by assumption) rfl rfl ?_
  refine to_call0 rfl rfl (fun w s => r_in _ _ _ w) rfl ?_
  refine to_not rfl rfl ?_
  refine to_mv rfl rfl ?_
  refine to_gs rfl rfl rfl (fun h1 => ?_) (fun h1 => ?_)
  · try simp only [decide_eq_true_eq, decide_eq_false_iff_not, Bool.not_eq_true', Bool.not_eq_false', Int.not_lt, Int.not_le, ne_eq, Decidable.not_not] at h1
    try have h1b := inB_iff.1 h1
    refine to_gf rfl rfl rfl rfl ?_
    refine to_gf rfl rfl rfl rfl ?_
    refine to_gf rfl rfl rfl rfl ?_
    refine to_gf rfl rfl rfl rfl ?_
    refine to_pkT rfl rfl rfl ?_
    refine to_mv rfl rfl ?_
    refine to_gf rfl rfl rfl rfl ?_
    refine to_gf rfl rfl rfl rfl ?_
    refine to_gf rfl rfl rfl rfl ?_
    refine to_gf rfl rfl rfl rfl ?_
    refine to_gf rfl rfl rfl rfl ?_
    refine to_pkT rfl rfl rfl ?_
    refine to_mv rfl rfl ?_
    refine to_gf rfl rfl rfl rfl ?_
    refine to_gf rfl rfl rfl rfl ?_
    refine to_gf rfl rfl rfl rfl ?_
    refine to_gf rfl rfl rfl rfl ?_
    refine to_gf rfl rfl rfl rfl ?_
    refine to_pkT rfl rfl rfl ?_
    refine to_nil ?_
    refine tn_code ?_
    refine t_ifT rfl ?_
    refine t_seq ?_
    refine t_reg ?_
    refine to_as rfl rfl ?_
    refine to_nil ?_
    refine tn_code ?_
    refine t_ret1 rfl rfl (res_tmp rfl) (fun w' s => ?_)
    rw [hsq]; first | (simp_all; done) | (simp [*]; done)
  · try simp only [decide_eq_true_eq, decide_eq_false_iff_not, Bool.not_eq_true', Bool.not_eq_false', Int.not_lt, Int.not_le, ne_eq, Decidable.not_not] at h1
    try have h1b := inB_iff.1 h1
    refine to_gt rfl rfl ?_
    first | refine to_fa rfl rfl rfl (by simp only [Nat.reduceAdd]; rfl) rfl ?_ | refine to_fae rfl rfl rfl (by simp only [Nat.reduceAdd]; rfl) rfl ?_
    refine to_gt rfl rfl ?_
    first | refine to_lds rfl rfl rfl ?_ | refine to_ldes rfl (by assumption) rfl rfl ?_
    refine to_gt rfl rfl ?_
    refine to_call0 rfl rfl (fun w s => r_isRule _ w) rfl ?_
    refine to_gt rfl rfl ?_
    refine to_not rfl rfl ?_
    refine to_pkF rfl rfl rfl ?_
    refine to_mv rfl rfl ?_
    refine to_gs rfl rfl rfl (fun h2 => ?_) (fun h2 => ?_)
    · try simp only [decide_eq_true_eq, decide_eq_false_iff_not, Bool.not_eq_true', Bool.not_eq_false', Int.not_lt, Int.not_le, ne_eq, Decidable.not_not] at h2
      try have h2b := inB_iff.1 h2
      refine to_gf rfl rfl rfl rfl ?_
      refine to_gf rfl rfl rfl rfl ?_
      refine to_gf rfl rfl rfl rfl ?_
      refine to_gf rfl rfl rfl rfl ?_
      refine to_gf rfl rfl rfl rfl ?_
      refine to_pkT rfl rfl rfl ?_
      refine to_mv rfl rfl ?_
      refine to_gf rfl rfl rfl rfl ?_
      refine to_gf rfl rfl rfl rfl ?_
      refine to_gf rfl rfl rfl rfl ?_
      refine to_gf rfl rfl rfl rfl ?_
      refine to_gf rfl rfl rfl rfl ?_
      refine to_pkT rfl rfl rfl ?_
      refine to_nil ?_
      refine tn_code ?_
      refine t_ifT rfl ?_
      refine t_seq ?_
      refine t_reg ?_
      refine to_as rfl rfl ?_
      refine to_nil ?_
      refine tn_code ?_
      refine t_ret1 rfl rfl (res_tmp rfl) (fun w' s => ?_)
      rw [hsq]; first | (simp_all; done) | (simp [*]; done)
    · try simp only [decide_eq_true_eq, decide_eq_false_iff_not, Bool.not_eq_true', Bool.not_eq_false', Int.not_lt, Int.not_le, ne_eq, Decidable.not_not] at h2
      try have h2b := inB_iff.1 h2
      refine to_gt rfl rfl ?_
      first | refine to_fa rfl rfl rfl (by simp only [Nat.reduceAdd]; rfl) rfl ?_ | refine to_fae rfl rfl rfl (by simp only [Nat.reduceAdd]; rfl) rfl ?_
      refine to_gt rfl rfl ?_
      first | refine to_lds rfl rfl rfl ?_ | refine to_ldes rfl (by assumption) rfl rfl ?_
      refine to_gt rfl rfl ?_
      refine to_lenS rfl rfl ?_
      refine to_gt rfl rfl ?_
      refine to_call0 rfl rfl (fun w s => r_in _ _ _ w) rfl ?_
      refine to_gt rfl rfl ?_
      refine to_not rfl rfl ?_
      refine to_pkF rfl rfl rfl ?_
      refine to_mv rfl rfl ?_
      refine to_gs rfl rfl rfl (fun h3 => ?_) (fun h3 => ?_)
      · try simp only [decide_eq_true_eq, decide_eq_false_iff_not, Bool.not_eq_true', Bool.not_eq_false', Int.not_lt, Int.not_le, ne_eq, Decidable.not_not] at h3
        try have h3b := inB_iff.1 h3
        refine to_gf rfl rfl rfl rfl ?_
        refine to_gf rfl rfl rfl rfl ?_
        refine to_gf rfl rfl rfl rfl ?_
        refine to_gf rfl rfl rfl rfl ?_
        refine to_gf rfl rfl rfl rfl ?_
        refine to_pkT rfl rfl rfl ?_
        refine to_nil ?_
        refine tn_code ?_
        refine t_ifT rfl ?_
        refine t_seq ?_
        refine t_reg ?_
        refine to_as rfl rfl ?_
        refine to_nil ?_
        refine tn_code ?_
        refine t_ret1 rfl rfl (res_tmp rfl) (fun w' s => ?_)
        rw [hsq]; first | (simp_all; done) | (simp [*]; done)
      · try simp only [decide_eq_true_eq, decide_eq_false_iff_not, Bool.not_eq_true', Bool.not_eq_false', Int.not_lt, Int.not_le, ne_eq, Decidable.not_not] at h3
        try have h3b := inB_iff.1 h3
        refine to_gt rfl rfl ?_
        first | refine to_fa rfl rfl rfl (by simp only [Nat.reduceAdd]; rfl) rfl ?_ | refine to_fae rfl rfl rfl (by simp only [Nat.reduceAdd]; rfl) rfl ?_
        refine to_gt rfl rfl ?_
        first | refine to_lds rfl rfl rfl ?_ | refine to_ldes rfl (by assumption) rfl rfl ?_
        refine to_gt rfl rfl ?_
        refine to_lenS rfl rfl ?_
        refine to_gt rfl rfl ?_
        refine to_call0 rfl rfl (fun w s => r_in _ _ _ w) rfl ?_
        refine to_gt rfl rfl ?_
        refine to_not rfl rfl ?_
        refine to_pkF rfl rfl rfl ?_
        refine to_nil ?_
        refine tn_code ?_
        refine t_if rfl (fun h4 => ?_) (fun h4 => ?_)
        · try simp only [decide_eq_true_eq, decide_eq_false_iff_not, Bool.not_eq_true', Bool.not_eq_false', Int.not_lt, Int.not_le, ne_eq, Decidable.not_not] at h4
          try have h4b := inB_iff.1 h4
          refine t_seq ?_
          refine t_reg ?_
          refine to_as rfl rfl ?_
          refine to_nil ?_
          refine tn_code ?_
          refine t_ret1 rfl rfl (res_tmp rfl) (fun w' s => ?_)
          rw [hsq]; first | (simp_all; done) | (simp [*]; done)
        · try simp only [decide_eq_true_eq, decide_eq_false_iff_not, Bool.not_eq_true', Bool.not_eq_false', Int.not_lt, Int.not_le, ne_eq, Decidable.not_not] at h4
          try have h4b := inB_iff.1 h4
          refine t_skip ?_
          refine tn_code ?_
          refine t_seq ?_
          refine t_reg ?_
          refine to_as rfl rfl ?_
          refine to_nil ?_
          refine tn_code ?_
          refine t_seq ?_
          refine t_seq ?_
          refine t_reg ?_
          first | refine to_fa rfl rfl rfl (by simp only [Nat.reduceAdd]; rfl) rfl ?_ | refine to_fae rfl rfl rfl (by simp only [Nat.reduceAdd]; rfl) rfl ?_
          first | refine to_lds rfl rfl rfl ?_ | refine to_ldes rfl (by assumption) rfl rfl ?_
          refine to_lenS rfl rfl ?_
          refine to_mv rfl rfl ?_
          refine to_nil ?_
          refine tn_code ?_
          refine t_blk ?_
          refine t_loop2 (ι := Nat) (fun k => k ≤ sh.errs.length ∧ ∀ j, j < k → ∀ e, sh.errs[j]? = some e → inB e 0 (mostK sh.errs j) = true) (fun k => [(1, (.pointer (some ⟨b1, 0, none⟩))), (3, (.int .i64 (mostK sh.errs k))), (31, .slice pt.ea sh.errs.length pt.ec), (32, .int .i64 (sh.errs.length : Int)), (33, .int .i64 (k : Int))]) (fun k => [.own b1 (isC (shC sh pt) 33), .snap 0 w.heap.size w]) (fun k => sh.errs.length - k) (0) [.own b1 (isC (shC sh pt) 33), .snap 0 w.heap.size w] (rfl) (⟨Nat.zero_le _, fun j hj => absurd hj (Nat.not_lt_zero _)⟩) (⟨rfl, rfl, rfl, rfl, rfl, trivial⟩) ?_
          rintro k ⟨hk, hall⟩
          show T _ _ _ ⟨_, [(1, (.pointer (some ⟨b1, 0, none⟩))), (3, (.int .i64 (mostK sh.errs k))), (31, .slice pt.ea sh.errs.length pt.ec), (32, .int .i64 (sh.errs.length : Int)), (33, .int .i64 (k : Int))], _⟩ [.own b1 (isC (shC sh pt) 33), .snap 0 w.heap.size w]
          refine t_seq ?_
          refine t_reg ?_
          refine to_lss rfl rfl rfl ?_
          refine to_nil ?_
          refine tn_code ?_
          refine t_seq ?_
          refine t_if rfl (fun h5 => ?_) (fun h5 => ?_)
          · try simp only [decide_eq_true_eq, decide_eq_false_iff_not, Bool.not_eq_true', Bool.not_eq_false', Int.not_lt, Int.not_le, ne_eq, Decidable.not_not] at h5
            try have h5b := inB_iff.1 h5
            obtain ⟨y, hy⟩ := some_get (xs := sh.errs) (k := k) (by omega)
            have hx := map_get (f := intC) hy
            refine t_skip ?_
            refine tn_code ?_
            refine t_seq ?_
            refine t_blk ?_
            refine t_seq ?_
            refine t_reg ?_
            first | refine to_ix rfl rfl rfl (by first | omega | decide) (by first | omega | decide) rfl ?_ | refine to_ixi rfl rfl rfl (by omega) (by omega) (by omega) rfl ?_
            first | refine to_lds rfl rfl rfl ?_ | refine to_ldes rfl (by assumption) rfl rfl ?_
            refine to_as rfl rfl ?_
            refine to_nil ?_
            refine tn_code ?_
            refine t_seq ?_
            refine t_seq ?_
            refine t_reg ?_
            refine to_mv rfl rfl ?_
            refine to_mv rfl rfl ?_
            refine to_call0 rfl rfl (fun w s => r_in _ _ _ w) rfl ?_
            refine to_not rfl rfl ?_
            refine to_nil ?_
            refine tn_code ?_
            refine t_if rfl (fun h6 => ?_) (fun h6 => ?_)
            · try simp only [decide_eq_true_eq, decide_eq_false_iff_not, Bool.not_eq_true', Bool.not_eq_false', Int.not_lt, Int.not_le, ne_eq, Decidable.not_not] at h6
              try have h6b := inB_iff.1 h6
              have hE := errsOk_f hy h6
              refine t_seq ?_
              refine t_reg ?_
              refine to_as rfl rfl ?_
              refine to_nil ?_
              refine tn_code ?_
              refine t_ret1 rfl rfl (res_tmp rfl) (fun w' s => ?_)
              rw [hsq]; first | (simp_all; done) | (simp [*]; done)
            · try simp only [decide_eq_true_eq, decide_eq_false_iff_not, Bool.not_eq_true', Bool.not_eq_false', Int.not_lt, Int.not_le, ne_eq, Decidable.not_not] at h6
              try have h6b := inB_iff.1 h6
              refine t_skip ?_
              refine tn_code ?_
              refine t_reg ?_
              refine to_mv rfl rfl ?_
              refine to_as rfl rfl ?_
              refine to_nil ?_
              refine tn_blk ?_
              refine tn_code ?_
              refine t_reg ?_
              refine to_add rfl rfl (by omega) rfl ?_
              refine to_mv rfl rfl ?_
              refine to_nil ?_
              exact tn_loop2 (k + 1) [.own b1 (isC (shC sh pt) 33), .snap 0 w.heap.size w] (rfl) (⟨by omega, all_succ hall (fun z hz => by rw [hy] at hz; cases hz; assumption)⟩) (by omega) (⟨rfl, congrArg (fun z => some (Value.int .i64 z)) (mostK_succ hy), rfl, rfl, rfl, trivial⟩)
          · try simp only [decide_eq_true_eq, decide_eq_false_iff_not, Bool.not_eq_true', Bool.not_eq_false', Int.not_lt, Int.not_le, ne_eq, Decidable.not_not] at h5
            try have h5b := inB_iff.1 h5
            have hk2 : k = sh.errs.length := by omega
            subst hk2
            have hE := errsOk_t hall
            refine t_exit ?_
            refine tx_code ?_
            refine tx_inv ?_
            refine tx_blk ?_
            refine tn_code ?_
            refine t_seq ?_
            refine t_reg ?_
            first | refine to_fa rfl rfl rfl (by simp only [Nat.reduceAdd]; rfl) rfl ?_ | refine to_fae rfl rfl rfl (by simp only [Nat.reduceAdd]; rfl) rfl ?_
            first | refine to_lds rfl rfl rfl ?_ | refine to_ldes rfl (by assumption) rfl rfl ?_
            refine to_call0 rfl rfl (fun w s => conI sh.rows _ _ _ _ (fun n => !inB n (-100000) 100000) w (rdw s) (by simp_all [inB]; omega) (fun w' hb y hy => r_isSheet1 y w')) rfl ?_
            refine to_not rfl rfl ?_
            refine to_as rfl rfl ?_
            refine to_nil ?_
            refine tn_code ?_
            refine t_ret1 rfl rfl (res_tmp rfl) (fun w' s => ?_)
            rw [hsq]; first | (simp_all; done) | (simp [*]; done)

set_option maxRecDepth 20000 in
theorem ref_Guard (sh : Sh) (pt : Pt) (n : Int) (w : World) (hn : sh.errs.length ≤ 1000) : Calls Tryz.prog 24 #[shV sh pt, (.int .i64 n)] w (RetV w (.bool (inB n 0 (sh.errs.length - 1)))) := by
  refine calls_T0 (av := [_, _]) Tryz.func24 rfl rfl rfl ?_
  refine t_seq ?_
  refine t_reg ?_
  refine to_box rfl rfl (fun b2 => ?_)
  refine to_as rfl rfl ?_
  refine to_nil ?_
  refine tn_code ?_
  refine t_seq ?_
  refine t_reg ?_
  refine to_mv rfl rfl ?_
  first | refine to_fa rfl rfl rfl (by simp only [Nat.reduceAdd]; rfl) rfl ?_ | refine to_fae rfl rfl rfl (by simp only [Nat.reduceAdd]; rfl) rfl ?_
  first | refine to_lds rfl rfl rfl ?_ | refine to_ldes rfl (by assumption) rfl rfl ?_
  refine to_lenS rfl rfl ?_
  refine to_sub rfl rfl (by omega) rfl ?_
  refine to_call0 rfl rfl (fun w s => ref_in _ _ _ w) rfl ?_
  refine to_as rfl rfl ?_
  refine to_nil ?_
  refine tn_code ?_
  refine t_ret1 rfl rfl (res_tmp rfl) (fun w' s => ?_)
  rfl

set_option maxRecDepth 20000 in
theorem ref_Row (sh : Sh) (pt : Pt) (n : Int) (w : World) (hn : sh.rows.length ≤ 1000) : Calls Tryz.prog 27 #[shV sh pt, (.int .i64 n)] w (RetV w (.bool (inB n 0 (sh.rows.length - 1)))) := by
  refine calls_T0 (av := [_, _]) Tryz.func27 rfl rfl rfl ?_
  refine t_seq ?_
  refine t_reg ?_
  refine to_box rfl rfl (fun b2 => ?_)
  refine to_as rfl rfl ?_
  refine to_nil ?_
  refine tn_code ?_
  refine t_seq ?_
  refine t_reg ?_
  refine to_mv rfl rfl ?_
  first | refine to_fa rfl rfl rfl (by simp only [Nat.reduceAdd]; rfl) rfl ?_ | refine to_fae rfl rfl rfl (by simp only [Nat.reduceAdd]; rfl) rfl ?_
  first | refine to_lds rfl rfl rfl ?_ | refine to_ldes rfl (by assumption) rfl rfl ?_
  refine to_lenS rfl rfl ?_
  refine to_sub rfl rfl (by omega) rfl ?_
  refine to_call0 rfl rfl (fun w s => ref_in _ _ _ w) rfl ?_
  refine to_as rfl rfl ?_
  refine to_nil ?_
  refine tn_code ?_
  refine t_ret1 rfl rfl (res_tmp rfl) (fun w' s => ?_)
  rfl

set_option maxRecDepth 20000 in
theorem ref_Sheet (sh : Sh) (pt : Pt) (w : World) (hre : Ro w 0 w.heap.size pt.ea sh.errs.length pt.ec 1 (ints sh.errs)) (hrr : Ro w 0 w.heap.size pt.ra sh.rows.length pt.rc 1 (ints sh.rows)) : Calls Tryz.prog 23 #[shV sh pt] w (RetV w (.bool (isSh sh))) := by
  have hsq : isSh sh = (inB sh.unit 1 1000 && inB sh.rule 1 4 && inB sh.errs.length 1 5 && inB sh.rows.length 1 5 && errsOk 8 sh.errs && sh.rows.all (fun n => inB n (-100000) 100000)) := rfl
  refine calls_T0 (av := [_]) Tryz.func23 rfl rfl rfl ?_
  refine t_seq ?_
  refine t_reg ?_
  refine to_box rfl rfl (fun b1 => ?_)
  refine to_as rfl rfl ?_
  refine to_nil ?_
  refine tn_code ?_
  refine t_seq ?_
  refine t_seq ?_
  refine t_reg ?_
  first | refine to_fa rfl rfl rfl (by simp only [Nat.reduceAdd]; rfl) rfl ?_ | refine to_fae rfl rfl rfl (by simp only [Nat.reduceAdd]; rfl) rfl ?_
  first | refine to_lds rfl rfl rfl ?_ | refine to_ldes rfl (by assumption) rfl rfl ?_
  refine to_call0 rfl rfl (fun w s => ref_in _ _ _ w) rfl ?_
  refine to_not rfl rfl ?_
  refine to_mv rfl rfl ?_
  refine to_gs rfl rfl rfl (fun h1 => ?_) (fun h1 => ?_)
  · try simp only [decide_eq_true_eq, decide_eq_false_iff_not, Bool.not_eq_true', Bool.not_eq_false', Int.not_lt, Int.not_le, ne_eq, Decidable.not_not] at h1
    try have h1b := inB_iff.1 h1
    refine to_gf rfl rfl rfl rfl ?_
    refine to_gf rfl rfl rfl rfl ?_
    refine to_gf rfl rfl rfl rfl ?_
    refine to_gf rfl rfl rfl rfl ?_
    refine to_pkT rfl rfl rfl ?_
    refine to_mv rfl rfl ?_
    refine to_gf rfl rfl rfl rfl ?_
    refine to_gf rfl rfl rfl rfl ?_
    refine to_gf rfl rfl rfl rfl ?_
    refine to_gf rfl rfl rfl rfl ?_
    refine to_gf rfl rfl rfl rfl ?_
    refine to_pkT rfl rfl rfl ?_
    refine to_mv rfl rfl ?_
    refine to_gf rfl rfl rfl rfl ?_
    refine to_gf rfl rfl rfl rfl ?_
    refine to_gf rfl rfl rfl rfl ?_
    refine to_gf rfl rfl rfl rfl ?_
    refine to_gf rfl rfl rfl rfl ?_
    refine to_pkT rfl rfl rfl ?_
    refine to_nil ?_
    refine tn_code ?_
    refine t_ifT rfl ?_
    refine t_seq ?_
    refine t_reg ?_
    refine to_as rfl rfl ?_
    refine to_nil ?_
    refine tn_code ?_
    refine t_ret1 rfl rfl (res_tmp rfl) (fun w' s => ?_)
    rw [hsq]; first | (simp_all; done) | (simp [*]; done) | (have hE : errsOk 8 sh.errs = false := (by rw [Bool.eq_false_iff]; intro hh; have hh2 := errsOk_iff2.1 hh _ _ hy; simp_all; try omega); simp [hE])
  · try simp only [decide_eq_true_eq, decide_eq_false_iff_not, Bool.not_eq_true', Bool.not_eq_false', Int.not_lt, Int.not_le, ne_eq, Decidable.not_not] at h1
    try have h1b := inB_iff.1 h1
    refine to_gt rfl rfl ?_
    first | refine to_fa rfl rfl rfl (by simp only [Nat.reduceAdd]; rfl) rfl ?_ | refine to_fae rfl rfl rfl (by simp only [Nat.reduceAdd]; rfl) rfl ?_
    refine to_gt rfl rfl ?_
    first | refine to_lds rfl rfl rfl ?_ | refine to_ldes rfl (by assumption) rfl rfl ?_
    refine to_gt rfl rfl ?_
    refine to_call0 rfl rfl (fun w s => ref_Rule _ w) rfl ?_
    refine to_gt rfl rfl ?_
    refine to_not rfl rfl ?_
    refine to_pkF rfl rfl rfl ?_
    refine to_mv rfl rfl ?_
    refine to_gs rfl rfl rfl (fun h2 => ?_) (fun h2 => ?_)
    · try simp only [decide_eq_true_eq, decide_eq_false_iff_not, Bool.not_eq_true', Bool.not_eq_false', Int.not_lt, Int.not_le, ne_eq, Decidable.not_not] at h2
      try have h2b := inB_iff.1 h2
      refine to_gf rfl rfl rfl rfl ?_
      refine to_gf rfl rfl rfl rfl ?_
      refine to_gf rfl rfl rfl rfl ?_
      refine to_gf rfl rfl rfl rfl ?_
      refine to_gf rfl rfl rfl rfl ?_
      refine to_pkT rfl rfl rfl ?_
      refine to_mv rfl rfl ?_
      refine to_gf rfl rfl rfl rfl ?_
      refine to_gf rfl rfl rfl rfl ?_
      refine to_gf rfl rfl rfl rfl ?_
      refine to_gf rfl rfl rfl rfl ?_
      refine to_gf rfl rfl rfl rfl ?_
      refine to_pkT rfl rfl rfl ?_
      refine to_nil ?_
      refine tn_code ?_
      refine t_ifT rfl ?_
      refine t_seq ?_
      refine t_reg ?_
      refine to_as rfl rfl ?_
      refine to_nil ?_
      refine tn_code ?_
      refine t_ret1 rfl rfl (res_tmp rfl) (fun w' s => ?_)
      rw [hsq]; first | (simp_all; done) | (simp [*]; done) | (have hE : errsOk 8 sh.errs = false := (by rw [Bool.eq_false_iff]; intro hh; have hh2 := errsOk_iff2.1 hh _ _ hy; simp_all; try omega); simp [hE])
    · try simp only [decide_eq_true_eq, decide_eq_false_iff_not, Bool.not_eq_true', Bool.not_eq_false', Int.not_lt, Int.not_le, ne_eq, Decidable.not_not] at h2
      try have h2b := inB_iff.1 h2
      refine to_gt rfl rfl ?_
      first | refine to_fa rfl rfl rfl (by simp only [Nat.reduceAdd]; rfl) rfl ?_ | refine to_fae rfl rfl rfl (by simp only [Nat.reduceAdd]; rfl) rfl ?_
      refine to_gt rfl rfl ?_
      first | refine to_lds rfl rfl rfl ?_ | refine to_ldes rfl (by assumption) rfl rfl ?_
      refine to_gt rfl rfl ?_
      refine to_lenS rfl rfl ?_
      refine to_gt rfl rfl ?_
      refine to_call0 rfl rfl (fun w s => ref_in _ _ _ w) rfl ?_
      refine to_gt rfl rfl ?_
      refine to_not rfl rfl ?_
      refine to_pkF rfl rfl rfl ?_
      refine to_mv rfl rfl ?_
      refine to_gs rfl rfl rfl (fun h3 => ?_) (fun h3 => ?_)
      · try simp only [decide_eq_true_eq, decide_eq_false_iff_not, Bool.not_eq_true', Bool.not_eq_false', Int.not_lt, Int.not_le, ne_eq, Decidable.not_not] at h3
        try have h3b := inB_iff.1 h3
        refine to_gf rfl rfl rfl rfl ?_
        refine to_gf rfl rfl rfl rfl ?_
        refine to_gf rfl rfl rfl rfl ?_
        refine to_gf rfl rfl rfl rfl ?_
        refine to_gf rfl rfl rfl rfl ?_
        refine to_pkT rfl rfl rfl ?_
        refine to_nil ?_
        refine tn_code ?_
        refine t_ifT rfl ?_
        refine t_seq ?_
        refine t_reg ?_
        refine to_as rfl rfl ?_
        refine to_nil ?_
        refine tn_code ?_
        refine t_ret1 rfl rfl (res_tmp rfl) (fun w' s => ?_)
        rw [hsq]; first | (simp_all; done) | (simp [*]; done) | (have hE : errsOk 8 sh.errs = false := (by rw [Bool.eq_false_iff]; intro hh; have hh2 := errsOk_iff2.1 hh _ _ hy; simp_all; try omega); simp [hE])
      · try simp only [decide_eq_true_eq, decide_eq_false_iff_not, Bool.not_eq_true', Bool.not_eq_false', Int.not_lt, Int.not_le, ne_eq, Decidable.not_not] at h3
        try have h3b := inB_iff.1 h3
        refine to_gt rfl rfl ?_
        first | refine to_fa rfl rfl rfl (by simp only [Nat.reduceAdd]; rfl) rfl ?_ | refine to_fae rfl rfl rfl (by simp only [Nat.reduceAdd]; rfl) rfl ?_
        refine to_gt rfl rfl ?_
        first | refine to_lds rfl rfl rfl ?_ | refine to_ldes rfl (by assumption) rfl rfl ?_
        refine to_gt rfl rfl ?_
        refine to_lenS rfl rfl ?_
        refine to_gt rfl rfl ?_
        refine to_call0 rfl rfl (fun w s => ref_in _ _ _ w) rfl ?_
        refine to_gt rfl rfl ?_
        refine to_not rfl rfl ?_
        refine to_pkF rfl rfl rfl ?_
        refine to_nil ?_
        refine tn_code ?_
        refine t_if rfl (fun h4 => ?_) (fun h4 => ?_)
        · try simp only [decide_eq_true_eq, decide_eq_false_iff_not, Bool.not_eq_true', Bool.not_eq_false', Int.not_lt, Int.not_le, ne_eq, Decidable.not_not] at h4
          try have h4b := inB_iff.1 h4
          refine t_seq ?_
          refine t_reg ?_
          refine to_as rfl rfl ?_
          refine to_nil ?_
          refine tn_code ?_
          refine t_ret1 rfl rfl (res_tmp rfl) (fun w' s => ?_)
          rw [hsq]; first | (simp_all; done) | (simp [*]; done) | (have hE : errsOk 8 sh.errs = false := (by rw [Bool.eq_false_iff]; intro hh; have hh2 := errsOk_iff2.1 hh _ _ hy; simp_all; try omega); simp [hE])
        · try simp only [decide_eq_true_eq, decide_eq_false_iff_not, Bool.not_eq_true', Bool.not_eq_false', Int.not_lt, Int.not_le, ne_eq, Decidable.not_not] at h4
          try have h4b := inB_iff.1 h4
          refine t_skip ?_
          refine tn_code ?_
          refine t_seq ?_
          refine t_seq ?_
          refine t_reg ?_
          refine to_as rfl rfl ?_
          refine to_nil ?_
          refine tn_code ?_
          refine t_blk ?_
          refine t_loop2 (ι := Nat) (fun k => k ≤ sh.errs.length ∧ ∀ j, j < k → ∀ e, sh.errs[j]? = some e → inB e 0 8 = true ∧ (0 < j → e ≤ sh.errs.getD (j - 1) 0)) (fun k => [(1, (.pointer (some ⟨b1, 0, none⟩))), (3, .int .i64 (k : Int))]) (fun k => [.own b1 (isC (shC sh pt) 33), .snap 0 w.heap.size w]) (fun k => sh.errs.length - k) (0) [.own b1 (isC (shC sh pt) 33), .snap 0 w.heap.size w] (rfl) (⟨Nat.zero_le _, fun j hj => absurd hj (Nat.not_lt_zero _)⟩) (⟨rfl, rfl, trivial⟩) ?_
          rintro k ⟨hk, hall⟩
          show T _ _ _ ⟨_, [(1, (.pointer (some ⟨b1, 0, none⟩))), (3, .int .i64 (k : Int))], _⟩ [.own b1 (isC (shC sh pt) 33), .snap 0 w.heap.size w]
          refine t_seq ?_
          refine t_seq ?_
          refine t_reg ?_
          refine to_mv rfl rfl ?_
          first | refine to_fa rfl rfl rfl (by simp only [Nat.reduceAdd]; rfl) rfl ?_ | refine to_fae rfl rfl rfl (by simp only [Nat.reduceAdd]; rfl) rfl ?_
          first | refine to_lds rfl rfl rfl ?_ | refine to_ldes rfl (by assumption) rfl rfl ?_
          refine to_lenS rfl rfl ?_
          refine to_lss rfl rfl rfl ?_
          refine to_nil ?_
          refine tn_code ?_
          refine t_if rfl (fun h5 => ?_) (fun h5 => ?_)
          · try simp only [decide_eq_true_eq, decide_eq_false_iff_not, Bool.not_eq_true', Bool.not_eq_false', Int.not_lt, Int.not_le, ne_eq, Decidable.not_not] at h5
            try have h5b := inB_iff.1 h5
            obtain ⟨y, hy⟩ := some_get (xs := sh.errs) (k := k) (by omega)
            have hx := map_get (f := intC) hy
            refine t_skip ?_
            refine tn_code ?_
            refine t_seq ?_
            refine t_blk ?_
            refine t_seq ?_
            refine t_regD rfl (by kernel_rfl) (by kernel_rfl) ?_
            first | refine to_fa rfl rfl rfl (by simp only [Nat.reduceAdd]; rfl) rfl ?_ | refine to_fae rfl rfl rfl (by simp only [Nat.reduceAdd]; rfl) rfl ?_
            first | refine to_lds rfl rfl rfl ?_ | refine to_ldes rfl (by assumption) rfl rfl ?_
            refine to_mv rfl rfl ?_
            first | refine to_ix rfl rfl rfl (by first | omega | decide) (by first | omega | decide) rfl ?_ | refine to_ixi rfl rfl rfl (by omega) (by omega) (by omega) rfl ?_
            first | refine to_lds rfl rfl rfl ?_ | refine to_ldes rfl (by assumption) rfl rfl ?_
            refine to_call0 rfl rfl (fun w s => ref_in _ _ _ w) rfl ?_
            refine to_not rfl rfl ?_
            refine to_mv rfl rfl ?_
            refine to_gs rfl rfl rfl (fun h6 => ?_) (fun h6 => ?_)
            · try simp only [decide_eq_true_eq, decide_eq_false_iff_not, Bool.not_eq_true', Bool.not_eq_false', Int.not_lt, Int.not_le, ne_eq, Decidable.not_not] at h6
              try have h6b := inB_iff.1 h6
              refine to_gf rfl rfl rfl rfl ?_
              refine to_gf rfl rfl rfl rfl ?_
              refine to_gf rfl rfl rfl rfl ?_
              refine to_gf rfl rfl rfl rfl ?_
              refine to_gf rfl rfl rfl rfl ?_
              refine to_gf rfl rfl rfl rfl ?_
              refine to_gf rfl rfl rfl rfl ?_
              refine to_gf rfl rfl rfl rfl ?_
              refine to_gf rfl rfl rfl rfl ?_
              refine to_gf rfl rfl rfl rfl ?_
              refine to_gf rfl rfl rfl rfl ?_
              refine to_gf rfl rfl rfl rfl ?_
              refine to_gf rfl rfl rfl rfl ?_
              refine to_gf rfl rfl rfl rfl ?_
              refine to_gf rfl rfl rfl rfl ?_
              refine to_gf rfl rfl rfl rfl ?_
              refine to_pkT rfl rfl rfl ?_
              refine to_nil ?_
              refine tn_code ?_
              refine t_ifT rfl ?_
              refine t_seq ?_
              refine t_reg ?_
              refine to_as rfl rfl ?_
              refine to_nil ?_
              refine tn_code ?_
              refine t_ret1 rfl rfl (res_tmp rfl) (fun w' s => ?_)
              rw [hsq]; first | (simp_all; done) | (simp [*]; done) | (have hE : errsOk 8 sh.errs = false := (by rw [Bool.eq_false_iff]; intro hh; have hh2 := errsOk_iff2.1 hh _ _ hy; simp_all; try omega); simp [hE])
            · try simp only [decide_eq_true_eq, decide_eq_false_iff_not, Bool.not_eq_true', Bool.not_eq_false', Int.not_lt, Int.not_le, ne_eq, Decidable.not_not] at h6
              try have h6b := inB_iff.1 h6
              refine to_gt rfl rfl ?_
              refine to_mv rfl rfl ?_
              refine to_gt rfl rfl ?_
              refine to_gtr rfl rfl rfl ?_
              refine to_gt rfl rfl ?_
              refine to_mv rfl rfl ?_
              refine to_gs rfl rfl rfl (fun h7 => ?_) (fun h7 => ?_)
              · try simp only [decide_eq_true_eq, decide_eq_false_iff_not, Bool.not_eq_true', Bool.not_eq_false', Int.not_lt, Int.not_le, ne_eq, Decidable.not_not] at h7
                try have h7b := inB_iff.1 h7
                obtain ⟨j, rfl⟩ : ∃ j, k = j + 1 := ⟨k - 1, by omega⟩
                obtain ⟨z, hz2⟩ := some_get (xs := sh.errs) (k := j) (by omega)
                have hx3 : (ints sh.errs)[(((j + 1 : Nat) : Int) - 1).toNat]? = some (intC z) := by
                  rw [show (((j + 1 : Nat) : Int) - 1).toNat = j from by omega]; exact map_get (f := intC) hz2
                refine to_gt rfl rfl ?_
                first | refine to_fa rfl rfl rfl (by simp only [Nat.reduceAdd]; rfl) rfl ?_ | refine to_fae rfl rfl rfl (by simp only [Nat.reduceAdd]; rfl) rfl ?_
                refine to_gt rfl rfl ?_
                first | refine to_lds rfl rfl rfl ?_ | refine to_ldes rfl (by assumption) rfl rfl ?_
                refine to_gt rfl rfl ?_
                refine to_mv rfl rfl ?_
                refine to_gt rfl rfl ?_
                first | refine to_ix rfl rfl rfl (by first | omega | decide) (by first | omega | decide) rfl ?_ | refine to_ixi rfl rfl rfl (by omega) (by omega) (by omega) rfl ?_
                refine to_gt rfl rfl ?_
                first | refine to_lds rfl rfl rfl ?_ | refine to_ldes rfl (by assumption) rfl rfl ?_
                refine to_gt rfl rfl ?_
                first | refine to_fa rfl rfl rfl (by simp only [Nat.reduceAdd]; rfl) rfl ?_ | refine to_fae rfl rfl rfl (by simp only [Nat.reduceAdd]; rfl) rfl ?_
                refine to_gt rfl rfl ?_
                first | refine to_lds rfl rfl rfl ?_ | refine to_ldes rfl (by assumption) rfl rfl ?_
                refine to_gt rfl rfl ?_
                refine to_mv rfl rfl ?_
                refine to_gt rfl rfl ?_
                refine to_sub rfl rfl (by omega) rfl ?_
                refine to_gt rfl rfl ?_
                first | refine to_ix rfl rfl rfl (by first | omega | decide) (by first | omega | decide) rfl ?_ | refine to_ixi rfl rfl rfl (by omega) (by omega) (by omega) rfl ?_
                refine to_gt rfl rfl ?_
                first | refine to_lds rfl rfl rfl ?_ | refine to_ldes rfl (by assumption) rfl rfl ?_
                refine to_gt rfl rfl ?_
                refine to_gtr rfl rfl rfl ?_
                refine to_gt rfl rfl ?_
                refine to_pkT rfl rfl rfl ?_
                refine to_pkF rfl rfl rfl ?_
                refine to_nil ?_
                refine tn_code ?_
                refine t_if rfl (fun h8 => ?_) (fun h8 => ?_)
                · try simp only [decide_eq_true_eq, decide_eq_false_iff_not, Bool.not_eq_true', Bool.not_eq_false', Int.not_lt, Int.not_le, ne_eq, Decidable.not_not] at h8
                  try have h8b := inB_iff.1 h8
                  refine t_seq ?_
                  refine t_reg ?_
                  refine to_as rfl rfl ?_
                  refine to_nil ?_
                  refine tn_code ?_
                  refine t_ret1 rfl rfl (res_tmp rfl) (fun w' s => ?_)
                  rw [hsq]; first | (simp_all; done) | (simp [*]; done) | (have hE : errsOk 8 sh.errs = false := (by rw [Bool.eq_false_iff]; intro hh; have hh2 := errsOk_iff2.1 hh _ _ hy; simp_all; try omega); simp [hE])
                · try simp only [decide_eq_true_eq, decide_eq_false_iff_not, Bool.not_eq_true', Bool.not_eq_false', Int.not_lt, Int.not_le, ne_eq, Decidable.not_not] at h8
                  try have h8b := inB_iff.1 h8
                  refine t_skip ?_
                  refine tn_blk ?_
                  refine tn_code ?_
                  refine t_reg ?_
                  refine to_mv rfl rfl ?_
                  refine to_add rfl rfl (by omega) rfl ?_
                  refine to_as rfl rfl ?_
                  refine to_nil ?_
                  exact tn_loop2 (j + 1 + 1) [.own b1 (isC (shC sh pt) 33), .snap 0 w.heap.size w] (rfl) (⟨by omega, all_succ hall (fun z hz => by rw [hy] at hz; cases hz; refine ⟨by simp_all, fun _ => ?_⟩; simp [hz2]; simp_all)⟩) (by omega) (⟨rfl, rfl, trivial⟩)
              · try simp only [decide_eq_true_eq, decide_eq_false_iff_not, Bool.not_eq_true', Bool.not_eq_false', Int.not_lt, Int.not_le, ne_eq, Decidable.not_not] at h7
                try have h7b := inB_iff.1 h7
                refine to_gf rfl rfl rfl rfl ?_
                refine to_gf rfl rfl rfl rfl ?_
                refine to_gf rfl rfl rfl rfl ?_
                refine to_gf rfl rfl rfl rfl ?_
                refine to_gf rfl rfl rfl rfl ?_
                refine to_gf rfl rfl rfl rfl ?_
                refine to_gf rfl rfl rfl rfl ?_
                refine to_gf rfl rfl rfl rfl ?_
                refine to_gf rfl rfl rfl rfl ?_
                refine to_gf rfl rfl rfl rfl ?_
                refine to_gf rfl rfl rfl rfl ?_
                refine to_gf rfl rfl rfl rfl ?_
                refine to_gt rfl rfl ?_
                refine to_pkF rfl rfl rfl ?_
                refine to_pkF rfl rfl rfl ?_
                refine to_nil ?_
                refine tn_code ?_
                refine t_ifF rfl ?_
                refine t_skip ?_
                refine tn_blk ?_
                refine tn_code ?_
                refine t_reg ?_
                refine to_mv rfl rfl ?_
                refine to_add rfl rfl (by omega) rfl ?_
                refine to_as rfl rfl ?_
                refine to_nil ?_
                exact tn_loop2 (k + 1) [.own b1 (isC (shC sh pt) 33), .snap 0 w.heap.size w] (rfl) (⟨by omega, all_succ hall (fun z hz => by rw [hy] at hz; cases hz; exact ⟨by simp_all, fun _ => by omega⟩)⟩) (by omega) (⟨rfl, rfl, trivial⟩)
          · try simp only [decide_eq_true_eq, decide_eq_false_iff_not, Bool.not_eq_true', Bool.not_eq_false', Int.not_lt, Int.not_le, ne_eq, Decidable.not_not] at h5
            try have h5b := inB_iff.1 h5
            have hE := errsOk_iff2.2 (fun j e he => hall j (by have := (List.getElem?_eq_some_iff.1 he).1; omega) e he)
            refine t_exit ?_
            refine tx_code ?_
            refine tx_inv ?_
            refine tx_blk ?_
            refine tn_code ?_
            refine t_seq ?_
            refine t_seq ?_
            refine t_reg ?_
            refine to_as rfl rfl ?_
            refine to_nil ?_
            refine tn_code ?_
            refine t_blk ?_
            refine t_loop2 (ι := Nat) (fun k => k ≤ sh.rows.length ∧ ∀ j, j < k → ∀ e, sh.rows[j]? = some e → inB e (-100000) 100000 = true) (fun k => [(1, (.pointer (some ⟨b1, 0, none⟩))), (4, .int .i64 (k : Int))]) (fun k => [.own b1 (isC (shC sh pt) 33), .snap 0 w.heap.size w]) (fun k => sh.rows.length - k) (0) [.own b1 (isC (shC sh pt) 33), .snap 0 w.heap.size w] (rfl) (⟨Nat.zero_le _, fun j hj => absurd hj (Nat.not_lt_zero _)⟩) (⟨rfl, rfl, trivial⟩) ?_
            rintro k ⟨hk, hall⟩
            show T _ _ _ ⟨_, [(1, (.pointer (some ⟨b1, 0, none⟩))), (4, .int .i64 (k : Int))], _⟩ [.own b1 (isC (shC sh pt) 33), .snap 0 w.heap.size w]
            refine t_seq ?_
            refine t_seq ?_
            refine t_reg ?_
            refine to_mv rfl rfl ?_
            first | refine to_fa rfl rfl rfl (by simp only [Nat.reduceAdd]; rfl) rfl ?_ | refine to_fae rfl rfl rfl (by simp only [Nat.reduceAdd]; rfl) rfl ?_
            first | refine to_lds rfl rfl rfl ?_ | refine to_ldes rfl (by assumption) rfl rfl ?_
            refine to_lenS rfl rfl ?_
            refine to_lss rfl rfl rfl ?_
            refine to_nil ?_
            refine tn_code ?_
            refine t_if rfl (fun h9 => ?_) (fun h9 => ?_)
            · try simp only [decide_eq_true_eq, decide_eq_false_iff_not, Bool.not_eq_true', Bool.not_eq_false', Int.not_lt, Int.not_le, ne_eq, Decidable.not_not] at h9
              try have h9b := inB_iff.1 h9
              obtain ⟨y, hy⟩ := some_get (xs := sh.rows) (k := k) (by omega)
              have hx := map_get (f := intC) hy
              refine t_skip ?_
              refine tn_code ?_
              refine t_seq ?_
              refine t_blk ?_
              refine t_seq ?_
              refine t_reg ?_
              first | refine to_fa rfl rfl rfl (by simp only [Nat.reduceAdd]; rfl) rfl ?_ | refine to_fae rfl rfl rfl (by simp only [Nat.reduceAdd]; rfl) rfl ?_
              first | refine to_lds rfl rfl rfl ?_ | refine to_ldes rfl (by assumption) rfl rfl ?_
              refine to_mv rfl rfl ?_
              first | refine to_ix rfl rfl rfl (by first | omega | decide) (by first | omega | decide) rfl ?_ | refine to_ixi rfl rfl rfl (by omega) (by omega) (by omega) rfl ?_
              first | refine to_lds rfl rfl rfl ?_ | refine to_ldes rfl (by assumption) rfl rfl ?_
              refine to_call0 rfl rfl (fun w s => ref_in _ _ _ w) rfl ?_
              refine to_not rfl rfl ?_
              refine to_nil ?_
              refine tn_code ?_
              refine t_if rfl (fun h10 => ?_) (fun h10 => ?_)
              · try simp only [decide_eq_true_eq, decide_eq_false_iff_not, Bool.not_eq_true', Bool.not_eq_false', Int.not_lt, Int.not_le, ne_eq, Decidable.not_not] at h10
                try have h10b := inB_iff.1 h10
                have hA := not_all_of_get (p := fun n => inB n (-100000) 100000) hy h10
                refine t_seq ?_
                refine t_reg ?_
                refine to_as rfl rfl ?_
                refine to_nil ?_
                refine tn_code ?_
                refine t_ret1 rfl rfl (res_tmp rfl) (fun w' s => ?_)
                rw [hsq]; first | (simp_all; done) | (simp [*]; done) | (have hE : errsOk 8 sh.errs = false := (by rw [Bool.eq_false_iff]; intro hh; have hh2 := errsOk_iff2.1 hh _ _ hy; simp_all; try omega); simp [hE])
              · try simp only [decide_eq_true_eq, decide_eq_false_iff_not, Bool.not_eq_true', Bool.not_eq_false', Int.not_lt, Int.not_le, ne_eq, Decidable.not_not] at h10
                try have h10b := inB_iff.1 h10
                refine t_skip ?_
                refine tn_blk ?_
                refine tn_code ?_
                refine t_reg ?_
                refine to_mv rfl rfl ?_
                refine to_add rfl rfl (by omega) rfl ?_
                refine to_as rfl rfl ?_
                refine to_nil ?_
                exact tn_loop2 (k + 1) [.own b1 (isC (shC sh pt) 33), .snap 0 w.heap.size w] (rfl) (⟨by omega, all_succ hall (fun z hz => by rw [hy] at hz; cases hz; assumption)⟩) (by omega) (⟨rfl, rfl, trivial⟩)
            · try simp only [decide_eq_true_eq, decide_eq_false_iff_not, Bool.not_eq_true', Bool.not_eq_false', Int.not_lt, Int.not_le, ne_eq, Decidable.not_not] at h9
              try have h9b := inB_iff.1 h9
              have hA := all_of_get (p := fun n => inB n (-100000) 100000) (xs := sh.rows) (fun j hj => hall j (by omega))
              refine t_exit ?_
              refine tx_code ?_
              refine tx_inv ?_
              refine tx_blk ?_
              refine tn_code ?_
              refine t_seq ?_
              refine t_reg ?_
              refine to_as rfl rfl ?_
              refine to_nil ?_
              refine tn_code ?_
              refine t_ret1 rfl rfl (res_tmp rfl) (fun w' s => ?_)
              rw [hsq]; first | (simp_all; done) | (simp [*]; done) | (have hE : errsOk 8 sh.errs = false := (by rw [Bool.eq_false_iff]; intro hh; have hh2 := errsOk_iff2.1 hh _ _ hy; simp_all; try omega); simp [hE])

end Go.Proofs


namespace Go.Proofs
open Go Go.Sx Go.RowKit

def RSpE (xs : List (Int × Int)) (er : Int) : Nat → World → Value → Prop := fun lo w1 v => ∃ a1 c1, v = .tuple #[.slice a1 xs.length c1, .int .i64 er] ∧ Ro w1 lo w1.heap.size a1 xs.length c1 2 (spans xs)
theorem rspe_of {xs : List (Int × Int)} {er : Int} {n c lo : Nat} {a : Option Addr} {w : World} (hn : xs.length = n) (h : Ro w lo w.heap.size a n c 2 (spans xs)) : RSpE xs er lo w (.tuple #[.slice a n c, .int .i64 er]) := by
  subst hn; exact ⟨a, c, rfl, h⟩

set_option maxRecDepth 20000 in
theorem r_fig1 (u : Int) (es rs : List Int) (pt : Pt) (gd v : Int) (w : World) (hu : 1 ≤ u ∧ u ≤ 1048576) (hv : -1099511627776 ≤ v ∧ v ≤ 1099511627776) : Calls Tryz.prog 81 #[tbV ⟨u, 1, es, rs⟩ pt gd, (.int .i64 v)] w (RetV w (.int .i64 (toF u 1 v))) := by
  refine calls_T0 (av := [_, _]) Tryz.func81 rfl rfl rfl ?_
  refine t_seq ?_
  refine t_reg ?_
  refine to_box rfl rfl (fun b2 => ?_)
  refine to_as rfl rfl ?_
  refine to_nil ?_
  refine tn_code ?_
  refine t_seq ?_
  refine t_regD rfl (by kernel_rfl) (by kernel_rfl) ?_
  first | refine to_fa rfl rfl rfl (by simp only [Nat.reduceAdd]; rfl) rfl ?_ | refine to_fae rfl rfl rfl (by simp only [Nat.reduceAdd]; rfl) rfl ?_
  first | refine to_fa rfl rfl rfl (by simp only [Nat.reduceAdd]; rfl) rfl ?_ | refine to_fae rfl rfl rfl (by simp only [Nat.reduceAdd]; rfl) rfl ?_
  first | refine to_lds rfl rfl rfl ?_ | refine to_ldes rfl (by assumption) rfl rfl ?_
  refine to_bs rfl rfl ?_
  refine to_call0 rfl rfl (fun w s => r_rules _ w) rfl ?_
  first | refine to_fa rfl rfl rfl (by simp only [Nat.reduceAdd]; rfl) rfl ?_ | refine to_fae rfl rfl rfl (by simp only [Nat.reduceAdd]; rfl) rfl ?_
  first | refine to_fa rfl rfl rfl (by simp only [Nat.reduceAdd]; rfl) rfl ?_ | refine to_fae rfl rfl rfl (by simp only [Nat.reduceAdd]; rfl) rfl ?_
  first | refine to_lds rfl rfl rfl ?_ | refine to_ldes rfl (by assumption) rfl rfl ?_
  refine to_ixa (k := 1) rfl rfl rfl (by decide) rfl rfl ?_
  refine to_mv rfl rfl ?_
  refine to_call0 rfl rfl (fun w s => r_down u v w (by omega) (by omega)) rfl ?_
  refine to_as rfl rfl ?_
  refine to_nil ?_
  refine tn_code ?_
  refine t_ret1 rfl rfl (res_tmp rfl) (fun w' s => ?_)
  first | rfl | simp [toF]

set_option maxRecDepth 20000 in
theorem r_fig2 (u : Int) (es rs : List Int) (pt : Pt) (gd v : Int) (w : World) (hu : 1 ≤ u ∧ u ≤ 1048576) (hv : -1099511627776 ≤ v ∧ v ≤ 1099511627776) : Calls Tryz.prog 81 #[tbV ⟨u, 2, es, rs⟩ pt gd, (.int .i64 v)] w (RetV w (.int .i64 (toF u 2 v))) := by
  refine calls_T0 (av := [_, _]) Tryz.func81 rfl rfl rfl ?_
  refine t_seq ?_
  refine t_reg ?_
  refine to_box rfl rfl (fun b2 => ?_)
  refine to_as rfl rfl ?_
  refine to_nil ?_
  refine tn_code ?_
  refine t_seq ?_
  refine t_regD rfl (by kernel_rfl) (by kernel_rfl) ?_
  first | refine to_fa rfl rfl rfl (by simp only [Nat.reduceAdd]; rfl) rfl ?_ | refine to_fae rfl rfl rfl (by simp only [Nat.reduceAdd]; rfl) rfl ?_
  first | refine to_fa rfl rfl rfl (by simp only [Nat.reduceAdd]; rfl) rfl ?_ | refine to_fae rfl rfl rfl (by simp only [Nat.reduceAdd]; rfl) rfl ?_
  first | refine to_lds rfl rfl rfl ?_ | refine to_ldes rfl (by assumption) rfl rfl ?_
  refine to_bs rfl rfl ?_
  refine to_call0 rfl rfl (fun w s => r_rules _ w) rfl ?_
  first | refine to_fa rfl rfl rfl (by simp only [Nat.reduceAdd]; rfl) rfl ?_ | refine to_fae rfl rfl rfl (by simp only [Nat.reduceAdd]; rfl) rfl ?_
  first | refine to_fa rfl rfl rfl (by simp only [Nat.reduceAdd]; rfl) rfl ?_ | refine to_fae rfl rfl rfl (by simp only [Nat.reduceAdd]; rfl) rfl ?_
  first | refine to_lds rfl rfl rfl ?_ | refine to_ldes rfl (by assumption) rfl rfl ?_
  refine to_ixa (k := 2) rfl rfl rfl (by decide) rfl rfl ?_
  refine to_mv rfl rfl ?_
  refine to_call0 rfl rfl (fun w s => r_up u v w (by omega) (by omega)) rfl ?_
  refine to_as rfl rfl ?_
  refine to_nil ?_
  refine tn_code ?_
  refine t_ret1 rfl rfl (res_tmp rfl) (fun w' s => ?_)
  first | rfl | simp [toF]

set_option maxRecDepth 20000 in
theorem r_fig3 (u : Int) (es rs : List Int) (pt : Pt) (gd v : Int) (w : World) (hu : 1 ≤ u ∧ u ≤ 1048576) (hv : -1099511627776 ≤ v ∧ v ≤ 1099511627776) : Calls Tryz.prog 81 #[tbV ⟨u, 3, es, rs⟩ pt gd, (.int .i64 v)] w (RetV w (.int .i64 (toF u 3 v))) := by
  refine calls_T0 (av := [_, _]) Tryz.func81 rfl rfl rfl ?_
  refine t_seq ?_
  refine t_reg ?_
  refine to_box rfl rfl (fun b2 => ?_)
  refine to_as rfl rfl ?_
  refine to_nil ?_
  refine tn_code ?_
  refine t_seq ?_
  refine t_regD rfl (by kernel_rfl) (by kernel_rfl) ?_
  first | refine to_fa rfl rfl rfl (by simp only [Nat.reduceAdd]; rfl) rfl ?_ | refine to_fae rfl rfl rfl (by simp only [Nat.reduceAdd]; rfl) rfl ?_
  first | refine to_fa rfl rfl rfl (by simp only [Nat.reduceAdd]; rfl) rfl ?_ | refine to_fae rfl rfl rfl (by simp only [Nat.reduceAdd]; rfl) rfl ?_
  first | refine to_lds rfl rfl rfl ?_ | refine to_ldes rfl (by assumption) rfl rfl ?_
  refine to_bs rfl rfl ?_
  refine to_call0 rfl rfl (fun w s => r_rules _ w) rfl ?_
  first | refine to_fa rfl rfl rfl (by simp only [Nat.reduceAdd]; rfl) rfl ?_ | refine to_fae rfl rfl rfl (by simp only [Nat.reduceAdd]; rfl) rfl ?_
  first | refine to_fa rfl rfl rfl (by simp only [Nat.reduceAdd]; rfl) rfl ?_ | refine to_fae rfl rfl rfl (by simp only [Nat.reduceAdd]; rfl) rfl ?_
  first | refine to_lds rfl rfl rfl ?_ | refine to_ldes rfl (by assumption) rfl rfl ?_
  refine to_ixa (k := 3) rfl rfl rfl (by decide) rfl rfl ?_
  refine to_mv rfl rfl ?_
  refine to_call0 rfl rfl (fun w s => r_near u v w (by omega) (by omega)) rfl ?_
  refine to_as rfl rfl ?_
  refine to_nil ?_
  refine tn_code ?_
  refine t_ret1 rfl rfl (res_tmp rfl) (fun w' s => ?_)
  first | rfl | simp [toF]

set_option maxRecDepth 20000 in
theorem r_fig4 (u : Int) (es rs : List Int) (pt : Pt) (gd v : Int) (w : World) (hu : 1 ≤ u ∧ u ≤ 1048576) (hv : -1099511627776 ≤ v ∧ v ≤ 1099511627776) : Calls Tryz.prog 81 #[tbV ⟨u, 4, es, rs⟩ pt gd, (.int .i64 v)] w (RetV w (.int .i64 (toF u 4 v))) := by
  refine calls_T0 (av := [_, _]) Tryz.func81 rfl rfl rfl ?_
  refine t_seq ?_
  refine t_reg ?_
  refine to_box rfl rfl (fun b2 => ?_)
  refine to_as rfl rfl ?_
  refine to_nil ?_
  refine tn_code ?_
  refine t_seq ?_
  refine t_regD rfl (by kernel_rfl) (by kernel_rfl) ?_
  first | refine to_fa rfl rfl rfl (by simp only [Nat.reduceAdd]; rfl) rfl ?_ | refine to_fae rfl rfl rfl (by simp only [Nat.reduceAdd]; rfl) rfl ?_
  first | refine to_fa rfl rfl rfl (by simp only [Nat.reduceAdd]; rfl) rfl ?_ | refine to_fae rfl rfl rfl (by simp only [Nat.reduceAdd]; rfl) rfl ?_
  first | refine to_lds rfl rfl rfl ?_ | refine to_ldes rfl (by assumption) rfl rfl ?_
  refine to_bs rfl rfl ?_
  refine to_call0 rfl rfl (fun w s => r_rules _ w) rfl ?_
  first | refine to_fa rfl rfl rfl (by simp only [Nat.reduceAdd]; rfl) rfl ?_ | refine to_fae rfl rfl rfl (by simp only [Nat.reduceAdd]; rfl) rfl ?_
  first | refine to_fa rfl rfl rfl (by simp only [Nat.reduceAdd]; rfl) rfl ?_ | refine to_fae rfl rfl rfl (by simp only [Nat.reduceAdd]; rfl) rfl ?_
  first | refine to_lds rfl rfl rfl ?_ | refine to_ldes rfl (by assumption) rfl rfl ?_
  refine to_ixa (k := 4) rfl rfl rfl (by decide) rfl rfl ?_
  refine to_mv rfl rfl ?_
  refine to_call0 rfl rfl (fun w s => r_even u v w (by omega) (by omega)) rfl ?_
  refine to_as rfl rfl ?_
  refine to_nil ?_
  refine tn_code ?_
  refine t_ret1 rfl rfl (res_tmp rfl) (fun w' s => ?_)
  first | rfl | simp [toF]

theorem r_figure (sh : Sh) (pt : Pt) (gd v : Int) (w : World) (hs : isSh sh = true) (hv : -1099511627776 ≤ v ∧ v ≤ 1099511627776) : Calls Tryz.prog 81 #[tbV sh pt gd, .int .i64 v] w (RetV w (.int .i64 (fig sh v))) := by
  have hb := isSh_b hs
  obtain ⟨u, r, es, rs⟩ := sh
  simp only at hb
  have hu : 1 ≤ u ∧ u ≤ 1048576 := by omega
  obtain rfl | rfl | rfl | rfl : r = 1 ∨ r = 2 ∨ r = 3 ∨ r = 4 := by omega
  · exact r_fig1 u es rs pt gd v w hu hv
  · exact r_fig2 u es rs pt gd v w hu hv
  · exact r_fig3 u es rs pt gd v w hu hv
  · exact r_fig4 u es rs pt gd v w hu hv
theorem fig_b {sh : Sh} {v B : Int} (hs : isSh sh = true) (hv : -B ≤ v ∧ v ≤ B) : -B - 1 ≤ fig sh v ∧ fig sh v ≤ B + 1 := toF_b (isSh_b hs).1.1 hv

set_option maxRecDepth 20000 in
theorem r_bounds (sh : Sh) (pt : Pt) (k : Nat) (e : Int) (i : Nat) (r : Int) (w : World) (hre : Ro w 0 w.heap.size pt.ea sh.errs.length pt.ec 1 (ints sh.errs)) (hrr : Ro w 0 w.heap.size pt.ra sh.rows.length pt.rc 1 (ints sh.rows)) (hs : isSh sh = true) (he : sh.errs[k]? = some e) (hr : sh.rows[i]? = some r) : Calls Tryz.prog 73 #[tbV sh pt (k : Int), (.int .i64 (i : Int))] w (RetV w (spanV (r - e, r + e))) := by
  have heb := errs_b (isSh_e hs) e (List.mem_of_getElem? he)
  have hbb := isSh_b hs
  have hxe := map_get (f := intC) he
  have hke := (List.getElem?_eq_some_iff.1 he).1
  have hrb := isSh_r hs (List.mem_of_getElem? hr)
  have hxr := map_get (f := intC) hr
  have hir := (List.getElem?_eq_some_iff.1 hr).1
  refine calls_T0 (av := [_, _]) Tryz.func73 rfl rfl rfl ?_
  refine t_seq ?_
  refine t_reg ?_
  refine to_box rfl rfl (fun b2 => ?_)
  refine to_alloc rfl (fun b4 => ?_)
  refine to_nil ?_
  refine tn_code ?_
  refine t_seq ?_
  refine t_reg ?_
  first | refine to_fa rfl rfl rfl (by simp only [Nat.reduceAdd]; rfl) rfl ?_ | refine to_fae rfl rfl rfl (by simp only [Nat.reduceAdd]; rfl) rfl ?_
  first | refine to_fa rfl rfl rfl (by simp only [Nat.reduceAdd]; rfl) rfl ?_ | refine to_fae rfl rfl rfl (by simp only [Nat.reduceAdd]; rfl) rfl ?_
  first | refine to_lds rfl rfl rfl ?_ | refine to_ldes rfl (by assumption) rfl rfl ?_
  first | refine to_fa rfl rfl rfl (by simp only [Nat.reduceAdd]; rfl) rfl ?_ | refine to_fae rfl rfl rfl (by simp only [Nat.reduceAdd]; rfl) rfl ?_
  first | refine to_lds rfl rfl rfl ?_ | refine to_ldes rfl (by assumption) rfl rfl ?_
  first | refine to_ix rfl rfl rfl (by first | omega | decide) (by first | omega | decide) rfl ?_ | refine to_ixi rfl rfl rfl (by omega) (by omega) (by omega) rfl ?_
  first | refine to_lds rfl rfl rfl ?_ | refine to_ldes rfl (by assumption) rfl rfl ?_
  refine to_as rfl rfl ?_
  refine to_nil ?_
  refine tn_code ?_
  refine t_seq ?_
  refine t_regM [17] [.own b2 (isC (tbC sh pt (k : Int)) 86), .snap 0 w.heap.size w] rfl (by kernel_rfl) (by kernel_rfl) ?_
  refine tm_q ?e1 rfl ?q1 ?r1
  case q1 =>
    first | refine to_fa rfl rfl rfl (by simp only [Nat.reduceAdd]; rfl) rfl ?_ | refine to_fae rfl rfl rfl (by simp only [Nat.reduceAdd]; rfl) rfl ?_
    exact tmq_end
  refine tm_q ?e2 rfl ?q2 ?r2
  case q2 =>
    first | refine to_fa rfl rfl rfl (by simp only [Nat.reduceAdd]; rfl) rfl ?_ | refine to_fae rfl rfl rfl (by simp only [Nat.reduceAdd]; rfl) rfl ?_
    exact tmq_end
  refine tm_q ?e3 rfl ?q3 ?r3
  case q3 =>
    first | refine to_lds rfl rfl rfl ?_ | refine to_ldes rfl (by assumption) rfl rfl ?_
    exact tmq_end
  refine tm_q ?e4 rfl ?q4 ?r4
  case q4 =>
    refine to_mv rfl rfl ?_
    exact tmq_end
  refine tm_q ?e5 rfl ?q5 ?r5
  case q5 =>
    first | refine to_ix rfl rfl rfl (by first | omega | decide) (by first | omega | decide) rfl ?_ | refine to_ixi rfl rfl rfl (by omega) (by omega) (by omega) rfl ?_
    exact tmq_end
  refine tm_q ?e6 rfl ?q6 ?r6
  case q6 =>
    first | refine to_lds rfl rfl rfl ?_ | refine to_ldes rfl (by assumption) rfl rfl ?_
    exact tmq_end
  refine tm_q ?e7 rfl ?q7 ?r7
  case q7 =>
    refine to_mv rfl rfl ?_
    exact tmq_end
  refine tm_q ?e8 rfl ?q8 ?r8
  case q8 =>
    refine to_sub rfl rfl (by omega) rfl ?_
    exact tmq_end
  refine tm_q ?e9 rfl ?q9 ?r9
  case q9 =>
    first | refine to_fa rfl rfl rfl (by simp only [Nat.reduceAdd]; rfl) rfl ?_ | refine to_fae rfl rfl rfl (by simp only [Nat.reduceAdd]; rfl) rfl ?_
    exact tmq_end
  refine tm_q ?e10 rfl ?q10 ?r10
  case q10 =>
    first | refine to_fa rfl rfl rfl (by simp only [Nat.reduceAdd]; rfl) rfl ?_ | refine to_fae rfl rfl rfl (by simp only [Nat.reduceAdd]; rfl) rfl ?_
    exact tmq_end
  refine tm_q ?e11 rfl ?q11 ?r11
  case q11 =>
    first | refine to_lds rfl rfl rfl ?_ | refine to_ldes rfl (by assumption) rfl rfl ?_
    exact tmq_end
  refine tm_q ?e12 rfl ?q12 ?r12
  case q12 =>
    refine to_mv rfl rfl ?_
    exact tmq_end
  refine tm_q ?e13 rfl ?q13 ?r13
  case q13 =>
    first | refine to_ix rfl rfl rfl (by first | omega | decide) (by first | omega | decide) rfl ?_ | refine to_ixi rfl rfl rfl (by omega) (by omega) (by omega) rfl ?_
    exact tmq_end
  refine tm_q ?e14 rfl ?q14 ?r14
  case q14 =>
    first | refine to_lds rfl rfl rfl ?_ | refine to_ldes rfl (by assumption) rfl rfl ?_
    exact tmq_end
  refine tm_q ?e15 rfl ?q15 ?r15
  case q15 =>
    refine to_mv rfl rfl ?_
    exact tmq_end
  refine tm_q ?e16 rfl ?q16 ?r16
  case q16 =>
    refine to_add rfl rfl (by omega) rfl ?_
    exact tmq_end
  refine tm_q ?e17 rfl ?q17 ?r17
  case q17 =>
    refine to_bs rfl rfl ?_
    exact tmq_end
  refine tm_s rfl ?_ (fun _ h => by cases h) rfl
  first | refine to_st rfl rfl rfl rfl ?_ | refine to_ste rfl rfl (by assumption) rfl rfl ?_
  refine tm_se rfl ?_
  refine tm_nil ?_
  refine tn_code ?_
  refine t_ret1 rfl rfl (res_cellA rfl rfl) (fun w' s => ?_)
  rfl

set_option maxRecDepth 20000 in
theorem r_figures (sh : Sh) (pt : Pt) (k : Nat) (e : Int) (i : Nat) (r : Int) (w : World) (hre : Ro w 0 w.heap.size pt.ea sh.errs.length pt.ec 1 (ints sh.errs)) (hrr : Ro w 0 w.heap.size pt.ra sh.rows.length pt.rc 1 (ints sh.rows)) (hs : isSh sh = true) (he : sh.errs[k]? = some e) (hr : sh.rows[i]? = some r) : Calls Tryz.prog 67 #[tbV sh pt (k : Int), (.int .i64 (i : Int))] w (RetV w (spanV (fig sh (r - e), fig sh (r + e)))) := by
  have heb := errs_b (isSh_e hs) e (List.mem_of_getElem? he)
  have hbb := isSh_b hs
  have hxe := map_get (f := intC) he
  have hke := (List.getElem?_eq_some_iff.1 he).1
  have hrb := isSh_r hs (List.mem_of_getElem? hr)
  have hxr := map_get (f := intC) hr
  have hir := (List.getElem?_eq_some_iff.1 hr).1
  refine calls_T0 (av := [_, _]) Tryz.func67 rfl rfl rfl ?_
  refine t_seq ?_
  refine t_reg ?_
  refine to_box rfl rfl (fun b2 => ?_)
  refine to_alloc rfl (fun b4 => ?_)
  refine to_nil ?_
  refine tn_code ?_
  refine t_seq ?_
  refine t_reg ?_
  first | refine to_lda rfl rfl rfl ?_ | refine to_ldea rfl (by assumption) rfl rfl ?_
  refine to_mv rfl rfl ?_
  refine to_call0 rfl rfl (fun w s => r_bounds sh pt k e _ _ w (rdw s) (rdw s) hs he (by assumption)) rfl ?_
  refine to_alloc rfl (fun b5 => ?_)
  first | refine to_st rfl rfl rfl rfl ?_ | refine to_ste rfl rfl (by assumption) rfl rfl ?_
  refine to_nil ?_
  refine tn_code ?_
  refine t_seq ?_
  refine t_regM [9] [.own b2 (isC (tbC sh pt (k : Int)) 86), .own b5 (isC (spanC (r - e, r + e)) 53), .snap 0 w.heap.size w] rfl (by kernel_rfl) (by kernel_rfl) ?_
  refine tm_q ?e1 rfl ?q1 ?r1
  case q1 =>
    first | refine to_lda rfl rfl rfl ?_ | refine to_ldea rfl (by assumption) rfl rfl ?_
    exact tmq_end
  refine tm_q ?e2 rfl ?q2 ?r2
  case q2 =>
    first | refine to_fa rfl rfl rfl (by simp only [Nat.reduceAdd]; rfl) rfl ?_ | refine to_fae rfl rfl rfl (by simp only [Nat.reduceAdd]; rfl) rfl ?_
    exact tmq_end
  refine tm_q ?e3 rfl ?q3 ?r3
  case q3 =>
    first | refine to_lds rfl rfl rfl ?_ | refine to_ldes rfl (by assumption) rfl rfl ?_
    exact tmq_end
  refine tm_q ?e4 rfl ?q4 ?r4
  case q4 =>
    refine to_call0 rfl rfl (fun w s => r_figure sh pt _ _ w hs (by omega)) rfl ?_
    exact tmq_end
  refine tm_q ?e5 rfl ?q5 ?r5
  case q5 =>
    first | refine to_lda rfl rfl rfl ?_ | refine to_ldea rfl (by assumption) rfl rfl ?_
    exact tmq_end
  refine tm_q ?e6 rfl ?q6 ?r6
  case q6 =>
    first | refine to_fa rfl rfl rfl (by simp only [Nat.reduceAdd]; rfl) rfl ?_ | refine to_fae rfl rfl rfl (by simp only [Nat.reduceAdd]; rfl) rfl ?_
    exact tmq_end
  refine tm_q ?e7 rfl ?q7 ?r7
  case q7 =>
    first | refine to_lds rfl rfl rfl ?_ | refine to_ldes rfl (by assumption) rfl rfl ?_
    exact tmq_end
  refine tm_q ?e8 rfl ?q8 ?r8
  case q8 =>
    refine to_call0 rfl rfl (fun w s => r_figure sh pt _ _ w hs (by omega)) rfl ?_
    exact tmq_end
  refine tm_q ?e9 rfl ?q9 ?r9
  case q9 =>
    refine to_bs rfl rfl ?_
    exact tmq_end
  refine tm_s rfl ?_ (fun _ h => by cases h) rfl
  first | refine to_st rfl rfl rfl rfl ?_ | refine to_ste rfl rfl (by assumption) rfl rfl ?_
  refine tm_se rfl ?_
  refine tm_nil ?_
  refine tn_code ?_
  refine t_ret1 rfl rfl (res_cellA rfl rfl) (fun w' s => ?_)
  rfl

def okG (sh : Sh) (gd : Int) : Bool := isSh sh && inB gd 0 (sh.errs.length - 1)
theorem okG_b {sh : Sh} {gd : Int} (h : okG sh gd = true) : isSh sh = true ∧ ∃ (k : Nat) (e : Int), gd = (k : Int) ∧ sh.errs[k]? = some e := by
  simp only [okG, Bool.and_eq_true] at h
  have hb := inB_iff.1 h.2
  obtain ⟨k, rfl⟩ := Int.eq_ofNat_of_zero_le hb.1
  obtain ⟨e, he⟩ := some_get (xs := sh.errs) (k := k) (by omega)
  exact ⟨h.1, k, e, rfl, he⟩
theorem okG_t {sh : Sh} {k : Nat} {e : Int} (hs : isSh sh = true) (he : sh.errs[k]? = some e) : okG sh (k : Int) = true := by
  have := (List.getElem?_eq_some_iff.1 he).1
  simp only [okG, hs, Bool.true_and]
  exact inB_iff.2 ⟨by omega, by omega⟩
theorem getD_of {es : List Int} {k : Nat} {e d : Int} (h : es[k]? = some e) : es.getD k d = e := by simp [h]
/-- The error of some guard figures. -/
def errG (sh : Sh) (gd : Int) : Int := sh.errs.getD gd.toNat 0
theorem errG_k {sh : Sh} {k : Nat} {e : Int} (h : sh.errs[k]? = some e) : errG sh (k : Int) = e := by
  show sh.errs.getD (k : Int).toNat 0 = e
  rw [Int.toNat_natCast]; exact getD_of h

set_option maxRecDepth 20000 in
theorem r_open_t (sh : Sh) (pt : Pt) (k : Nat) (e : Int) (w : World) (hre : Ro w 0 w.heap.size pt.ea sh.errs.length pt.ec 1 (ints sh.errs)) (hrr : Ro w 0 w.heap.size pt.ra sh.rows.length pt.rc 1 (ints sh.rows)) (hs : isSh sh = true) (he : sh.errs[k]? = some e) : Calls Tryz.prog 66 #[shV sh pt, (.int .i64 (k : Int))] w (RetV w (.tuple #[tbV sh pt (k : Int), .int .i64 0])) := by
  have heb := errs_b (isSh_e hs) e (List.mem_of_getElem? he)
  have hbb := isSh_b hs
  have hxe := map_get (f := intC) he
  have hke := (List.getElem?_eq_some_iff.1 he).1
  refine calls_T0 (av := [_, _]) Tryz.func66 rfl rfl rfl ?_
  refine t_seq ?_
  refine t_reg ?_
  refine to_box rfl rfl (fun b2 => ?_)
  refine to_alloc rfl (fun b4 => ?_)
  refine to_as rfl rfl ?_
  refine to_nil ?_
  refine tn_code ?_
  refine t_seq ?_
  refine t_seq ?_
  refine t_reg ?_
  first | refine to_lda rfl rfl rfl ?_ | refine to_ldea rfl (by assumption) rfl rfl ?_
  refine to_call0 rfl rfl (fun w s => r_isSheet sh pt w (rdw s) (rdw s)) rfl ?_
  refine to_not rfl rfl ?_
  refine to_mv rfl rfl ?_
  refine to_gs rfl rfl rfl (fun h1 => ?_) (fun h1 => ?_)
  · try simp only [decide_eq_true_eq, decide_eq_false_iff_not, Bool.not_eq_true', Bool.not_eq_false', Int.not_lt, Int.not_le, ne_eq, Decidable.not_not] at h1
    try have h1b := inB_iff.1 h1
    refine to_gf rfl rfl rfl rfl ?_
    refine to_gf rfl rfl rfl rfl ?_
    refine to_gf rfl rfl rfl rfl ?_
    refine to_gf rfl rfl rfl rfl ?_
    refine to_gf rfl rfl rfl rfl ?_
    refine to_gf rfl rfl rfl rfl ?_
    refine to_gf rfl rfl rfl rfl ?_
    refine to_pkT rfl rfl rfl ?_
    refine to_nil ?_
    refine tn_code ?_
    refine t_ifT rfl ?_
    refine t_seq ?_
    refine t_reg ?_
    refine to_bs rfl rfl ?_
    first | refine to_st rfl rfl rfl rfl ?_ | refine to_ste rfl rfl (by assumption) rfl rfl ?_
    refine to_as rfl rfl ?_
    refine to_nil ?_
    refine tn_code ?_
    refine t_ret2 rfl rfl (res_cellA rfl rfl) (res_tmp rfl) (fun w' s => ?_)
    first | rfl | (exfalso; have hok := okG_t hs he; simp_all [okG])
  · try simp only [decide_eq_true_eq, decide_eq_false_iff_not, Bool.not_eq_true', Bool.not_eq_false', Int.not_lt, Int.not_le, ne_eq, Decidable.not_not] at h1
    try have h1b := inB_iff.1 h1
    refine to_gt rfl rfl ?_
    refine to_mv rfl rfl ?_
    refine to_gt rfl rfl ?_
    first | refine to_fa rfl rfl rfl (by simp only [Nat.reduceAdd]; rfl) rfl ?_ | refine to_fae rfl rfl rfl (by simp only [Nat.reduceAdd]; rfl) rfl ?_
    refine to_gt rfl rfl ?_
    first | refine to_lds rfl rfl rfl ?_ | refine to_ldes rfl (by assumption) rfl rfl ?_
    refine to_gt rfl rfl ?_
    refine to_lenS rfl rfl ?_
    refine to_gt rfl rfl ?_
    refine to_sub rfl rfl (by omega) rfl ?_
    refine to_gt rfl rfl ?_
    refine to_call0 rfl rfl (fun w s => r_in _ _ _ w) rfl ?_
    refine to_gt rfl rfl ?_
    refine to_not rfl rfl ?_
    refine to_pkF rfl rfl rfl ?_
    refine to_nil ?_
    refine tn_code ?_
    refine t_if rfl (fun h2 => ?_) (fun h2 => ?_)
    · try simp only [decide_eq_true_eq, decide_eq_false_iff_not, Bool.not_eq_true', Bool.not_eq_false', Int.not_lt, Int.not_le, ne_eq, Decidable.not_not] at h2
      try have h2b := inB_iff.1 h2
      refine t_seq ?_
      refine t_reg ?_
      refine to_bs rfl rfl ?_
      first | refine to_st rfl rfl rfl rfl ?_ | refine to_ste rfl rfl (by assumption) rfl rfl ?_
      refine to_as rfl rfl ?_
      refine to_nil ?_
      refine tn_code ?_
      refine t_ret2 rfl rfl (res_cellA rfl rfl) (res_tmp rfl) (fun w' s => ?_)
      first | rfl | (exfalso; have hok := okG_t hs he; simp_all [okG])
    · try simp only [decide_eq_true_eq, decide_eq_false_iff_not, Bool.not_eq_true', Bool.not_eq_false', Int.not_lt, Int.not_le, ne_eq, Decidable.not_not] at h2
      try have h2b := inB_iff.1 h2
      refine t_skip ?_
      refine tn_code ?_
      refine t_seq ?_
      refine t_reg ?_
      first | refine to_lda rfl rfl rfl ?_ | refine to_ldea rfl (by assumption) rfl rfl ?_
      refine to_mv rfl rfl ?_
      refine to_bs rfl rfl ?_
      first | refine to_st rfl rfl rfl rfl ?_ | refine to_ste rfl rfl (by assumption) rfl rfl ?_
      refine to_as rfl rfl ?_
      refine to_nil ?_
      refine tn_code ?_
      refine t_ret2 rfl rfl (res_cellA rfl rfl) (res_tmp rfl) (fun w' s => ?_)
      first | rfl | (exfalso; have hok := okG_t hs he; simp_all [okG])

set_option maxRecDepth 20000 in
theorem r_open_f (sh : Sh) (pt : Pt) (gd : Int) (w : World) (hre : Ro w 0 w.heap.size pt.ea sh.errs.length pt.ec 1 (ints sh.errs)) (hrr : Ro w 0 w.heap.size pt.ra sh.rows.length pt.rc 1 (ints sh.rows)) (hl : sh.errs.length ≤ 1000000) (ho : okG sh gd = false) : Calls Tryz.prog 66 #[shV sh pt, (.int .i64 gd)] w (RetV w (.tuple #[.agg #[.int .i64 0, .int .i64 0, .slice none 0 0, .slice none 0 0, .int .i64 0], .int .i64 2])) := by
  refine calls_T0 (av := [_, _]) Tryz.func66 rfl rfl rfl ?_
  refine t_seq ?_
  refine t_reg ?_
  refine to_box rfl rfl (fun b2 => ?_)
  refine to_alloc rfl (fun b4 => ?_)
  refine to_as rfl rfl ?_
  refine to_nil ?_
  refine tn_code ?_
  refine t_seq ?_
  refine t_seq ?_
  refine t_reg ?_
  first | refine to_lda rfl rfl rfl ?_ | refine to_ldea rfl (by assumption) rfl rfl ?_
  refine to_call0 rfl rfl (fun w s => r_isSheet sh pt w (rdw s) (rdw s)) rfl ?_
  refine to_not rfl rfl ?_
  refine to_mv rfl rfl ?_
  refine to_gs rfl rfl rfl (fun h1 => ?_) (fun h1 => ?_)
  · try simp only [decide_eq_true_eq, decide_eq_false_iff_not, Bool.not_eq_true', Bool.not_eq_false', Int.not_lt, Int.not_le, ne_eq, Decidable.not_not] at h1
    try have h1b := inB_iff.1 h1
    refine to_gf rfl rfl rfl rfl ?_
    refine to_gf rfl rfl rfl rfl ?_
    refine to_gf rfl rfl rfl rfl ?_
    refine to_gf rfl rfl rfl rfl ?_
    refine to_gf rfl rfl rfl rfl ?_
    refine to_gf rfl rfl rfl rfl ?_
    refine to_gf rfl rfl rfl rfl ?_
    refine to_pkT rfl rfl rfl ?_
    refine to_nil ?_
    refine tn_code ?_
    refine t_ifT rfl ?_
    refine t_seq ?_
    refine t_reg ?_
    refine to_bs rfl rfl ?_
    first | refine to_st rfl rfl rfl rfl ?_ | refine to_ste rfl rfl (by assumption) rfl rfl ?_
    refine to_as rfl rfl ?_
    refine to_nil ?_
    refine tn_code ?_
    refine t_ret2 rfl rfl (res_cellA rfl rfl) (res_tmp rfl) (fun w' s => ?_)
    first | rfl | (exfalso; simp_all [okG])
  · try simp only [decide_eq_true_eq, decide_eq_false_iff_not, Bool.not_eq_true', Bool.not_eq_false', Int.not_lt, Int.not_le, ne_eq, Decidable.not_not] at h1
    try have h1b := inB_iff.1 h1
    refine to_gt rfl rfl ?_
    refine to_mv rfl rfl ?_
    refine to_gt rfl rfl ?_
    first | refine to_fa rfl rfl rfl (by simp only [Nat.reduceAdd]; rfl) rfl ?_ | refine to_fae rfl rfl rfl (by simp only [Nat.reduceAdd]; rfl) rfl ?_
    refine to_gt rfl rfl ?_
    first | refine to_lds rfl rfl rfl ?_ | refine to_ldes rfl (by assumption) rfl rfl ?_
    refine to_gt rfl rfl ?_
    refine to_lenS rfl rfl ?_
    refine to_gt rfl rfl ?_
    refine to_sub rfl rfl (by omega) rfl ?_
    refine to_gt rfl rfl ?_
    refine to_call0 rfl rfl (fun w s => r_in _ _ _ w) rfl ?_
    refine to_gt rfl rfl ?_
    refine to_not rfl rfl ?_
    refine to_pkF rfl rfl rfl ?_
    refine to_nil ?_
    refine tn_code ?_
    refine t_if rfl (fun h2 => ?_) (fun h2 => ?_)
    · try simp only [decide_eq_true_eq, decide_eq_false_iff_not, Bool.not_eq_true', Bool.not_eq_false', Int.not_lt, Int.not_le, ne_eq, Decidable.not_not] at h2
      try have h2b := inB_iff.1 h2
      refine t_seq ?_
      refine t_reg ?_
      refine to_bs rfl rfl ?_
      first | refine to_st rfl rfl rfl rfl ?_ | refine to_ste rfl rfl (by assumption) rfl rfl ?_
      refine to_as rfl rfl ?_
      refine to_nil ?_
      refine tn_code ?_
      refine t_ret2 rfl rfl (res_cellA rfl rfl) (res_tmp rfl) (fun w' s => ?_)
      first | rfl | (exfalso; simp_all [okG])
    · try simp only [decide_eq_true_eq, decide_eq_false_iff_not, Bool.not_eq_true', Bool.not_eq_false', Int.not_lt, Int.not_le, ne_eq, Decidable.not_not] at h2
      try have h2b := inB_iff.1 h2
      refine t_skip ?_
      refine tn_code ?_
      refine t_seq ?_
      refine t_reg ?_
      first | refine to_lda rfl rfl rfl ?_ | refine to_ldea rfl (by assumption) rfl rfl ?_
      refine to_mv rfl rfl ?_
      refine to_bs rfl rfl ?_
      first | refine to_st rfl rfl rfl rfl ?_ | refine to_ste rfl rfl (by assumption) rfl rfl ?_
      refine to_as rfl rfl ?_
      refine to_nil ?_
      refine tn_code ?_
      refine t_ret2 rfl rfl (res_cellA rfl rfl) (res_tmp rfl) (fun w' s => ?_)
      first | rfl | (exfalso; simp_all [okG])

end Go.Proofs


namespace Go.Proofs
open Go Go.Sx Go.RowKit

theorem mapk_succ {F : Int → Sp} {xs : List Int} {k : Nat} {y : Int} (h : xs[k]? = some y) : spans ((xs.take (k + 1)).map F) = spans ((xs.take k).map F) ++ [spanC (F y)] := by rw [take_snoc h]; simp
theorem mapk_len {F : Int → Sp} {xs : List Int} {k : Nat} (h : k ≤ xs.length) : ((xs.take k).map F).length = k := by simp; omega

set_option maxRecDepth 20000 in
theorem r_each_t (sh : Sh) (pt : Pt) (k : Nat) (e : Int) (q : Nat) (cp : List Value) (F : Int → Sp) (w : World) (hre : Ro w 0 w.heap.size pt.ea sh.errs.length pt.ec 1 (ints sh.errs)) (hrr : Ro w 0 w.heap.size pt.ra sh.rows.length pt.rc 1 (ints sh.rows)) (hs : isSh sh = true) (he : sh.errs[k]? = some e) [hf : FnOk Tryz.prog q] (hq : ∀ w', Below w.heap.size w w' → ∀ (i : Nat) r, sh.rows[i]? = some r → Calls Tryz.prog q ([] ++ ([tbV sh pt (k : Int), .int .i64 (i : Int)] ++ cp)).toArray w' (RetV w' (spanV (F r)))) : Calls Tryz.prog 72 #[shV sh pt, (.int .i64 (k : Int)), .func (.func q) ([] : List Value).toArray cp.toArray] w (Ret w (RSpE (sh.rows.map F) 0)) := by
  have heb := errs_b (isSh_e hs) e (List.mem_of_getElem? he)
  have hbb := isSh_b hs
  have hxe := map_get (f := intC) he
  have hke := (List.getElem?_eq_some_iff.1 he).1
  refine calls_T (av := [_, _, _]) Tryz.func72 rfl rfl rfl ?_
  refine t_seq ?_
  refine t_reg ?_
  refine to_box rfl rfl (fun b3 => ?_)
  refine to_as rfl rfl ?_
  refine to_as rfl rfl ?_
  refine to_nil ?_
  refine tn_code ?_
  refine t_seq ?_
  refine t_reg ?_
  first | refine to_lda rfl rfl rfl ?_ | refine to_ldea rfl (by assumption) rfl rfl ?_
  refine to_mv rfl rfl ?_
  refine to_call0 rfl rfl (fun w s => r_open_t sh pt k e w (rdw s) (rdw s) hs he) rfl ?_
  refine to_mv rfl rfl ?_
  refine to_ex rfl rfl rfl ?_
  refine to_ex rfl rfl rfl ?_
  refine to_alloc rfl (fun b8 => ?_)
  first | refine to_st rfl rfl rfl rfl ?_ | refine to_ste rfl rfl (by assumption) rfl rfl ?_
  refine to_as rfl rfl ?_
  refine to_nil ?_
  refine tn_code ?_
  refine t_seq ?_
  refine t_seq ?_
  refine t_reg ?_
  refine to_mv rfl rfl ?_
  refine to_neq rfl rfl rfl ?_
  refine to_fix (s := 19) (b' := false) rfl (rfl) ?_
  refine to_nil ?_
  refine tn_code ?_
  refine t_ifF rfl ?_
  refine t_skip ?_
  refine tn_code ?_
  refine t_seq ?_
  refine t_reg ?_
  refine to_as rfl rfl ?_
  refine to_nil ?_
  refine tn_code ?_
  refine t_seq ?_
  refine t_seq ?_
  refine t_reg ?_
  first | refine to_fa rfl rfl rfl (by simp only [Nat.reduceAdd]; rfl) rfl ?_ | refine to_fae rfl rfl rfl (by simp only [Nat.reduceAdd]; rfl) rfl ?_
  first | refine to_lds rfl rfl rfl ?_ | refine to_ldes rfl (by assumption) rfl rfl ?_
  refine to_lenS rfl rfl ?_
  refine to_mv rfl rfl ?_
  refine to_nil ?_
  refine tn_code ?_
  refine t_blk ?_
  refine t_nilrow 53 2 ?_
  refine t_loop2 (ι := Nat × Option Addr × Nat) (fun ((i, a', c') : Nat × Option Addr × Nat) => i ≤ sh.rows.length) (fun ((i, a', c') : Nat × Option Addr × Nat) => [(2, .func (.func q) ([] : List Value).toArray cp.toArray), (3, (.pointer (some ⟨b3, 0, none⟩))), (8, (.pointer (some ⟨b8, 0, none⟩))), (10, .slice a' i c'), (23, .int .i64 (sh.rows.length : Int)), (24, .int .i64 (i : Int))]) (fun ((i, a', c') : Nat × Option Addr × Nat) => [.row a' i c' 53 2 (spans ((sh.rows.take i).map F)), .own b3 (isC (shC sh pt) 33), .own b8 (isC (tbC sh pt (k : Int)) 86), .snap 0 w.heap.size w]) (fun ((i, a', c') : Nat × Option Addr × Nat) => sh.rows.length - i) ((0, none, 0)) [.row none 0 0 53 2 [], .own b3 (isC (shC sh pt) 33), .own b8 (isC (tbC sh pt (k : Int)) 86), .snap 0 w.heap.size w] (rfl) (Nat.zero_le _) (⟨rfl, rfl, rfl, rfl, rfl, rfl, trivial⟩) ?_
  rintro ⟨i, a', c'⟩ hk
  try dsimp only at hk
  show T _ _ _ ⟨_, [(2, .func (.func q) ([] : List Value).toArray cp.toArray), (3, (.pointer (some ⟨b3, 0, none⟩))), (8, (.pointer (some ⟨b8, 0, none⟩))), (10, .slice a' i c'), (23, .int .i64 (sh.rows.length : Int)), (24, .int .i64 (i : Int))], _⟩ [.row a' i c' 53 2 (spans ((sh.rows.take i).map F)), .own b3 (isC (shC sh pt) 33), .own b8 (isC (tbC sh pt (k : Int)) 86), .snap 0 w.heap.size w]
  refine t_seq ?_
  refine t_reg ?_
  refine to_lss rfl rfl rfl ?_
  refine to_nil ?_
  refine tn_code ?_
  refine t_seq ?_
  refine t_if rfl (fun h1 => ?_) (fun h1 => ?_)
  · try simp only [decide_eq_true_eq, decide_eq_false_iff_not, Bool.not_eq_true', Bool.not_eq_false', Int.not_lt, Int.not_le, ne_eq, Decidable.not_not] at h1
    try have h1b := inB_iff.1 h1
    obtain ⟨r, hr⟩ := some_get (xs := sh.rows) (k := i) (by omega)
    refine t_skip ?_
    refine tn_code ?_
    refine t_seq ?_
    refine t_blk ?_
    refine t_seq ?_
    refine t_reg ?_
    refine to_mv rfl rfl ?_
    refine to_as rfl rfl ?_
    refine to_nil ?_
    refine tn_code ?_
    refine t_reg ?_
    refine to_mv rfl rfl ?_
    refine to_mv rfl rfl ?_
    first | refine to_lda rfl rfl rfl ?_ | refine to_ldea rfl (by assumption) rfl rfl ?_
    refine to_mv rfl rfl ?_
    refine to_call0 rfl rfl (fun w s => hq w (s.below0 (by simp)) i r hr) rfl ?_
    refine to_bsl rfl rfl rfl rfl (fun a32 => ?_)
    refine to_app rfl rfl rfl (by simp [scals, scal]) (by decide) (by omega) (by decide) rfl (fun a33 c33 => ?_)
    refine to_as rfl rfl ?_
    refine to_nil ?_
    refine tn_blk ?_
    refine tn_code ?_
    refine t_reg ?_
    refine to_add rfl rfl (by omega) rfl ?_
    refine to_mv rfl rfl ?_
    refine to_nil ?_
    exact tn_loop2 ((i + 1, a33, c33)) [.row a33 (i + 1) c33 53 2 (spans ((sh.rows.take i).map F) ++ [[Value.int .i64 (F r).1, Value.int .i64 (F r).2]]), .own b3 (isC (shC sh pt) 33), .own b8 (isC (tbC sh pt (k : Int)) 86), .snap 0 w.heap.size w] (by dsimp only; rw [mapk_succ hr]) (by dsimp only; omega) (by dsimp only; omega) (⟨rfl, rfl, rfl, rfl, rfl, rfl, trivial⟩)
  · try simp only [decide_eq_true_eq, decide_eq_false_iff_not, Bool.not_eq_true', Bool.not_eq_false', Int.not_lt, Int.not_le, ne_eq, Decidable.not_not] at h1
    try have h1b := inB_iff.1 h1
    have hk2 : i = sh.rows.length := by omega
    subst hk2
    refine t_exit ?_
    refine tx_code ?_
    refine tx_inv ?_
    refine tx_blk ?_
    refine tn_code ?_
    refine t_seq ?_
    refine t_reg ?_
    refine to_mv rfl rfl ?_
    refine to_as rfl rfl ?_
    refine to_as rfl rfl ?_
    refine to_nil ?_
    refine tn_code ?_
    refine t_ret2 rfl rfl (res_tmp rfl) (res_tmp rfl) (fun w' s => ?_)
    first | (rw [List.take_length] at s; exact rspe_of (by simp) (ro_row s))

set_option maxRecDepth 20000 in
theorem r_each_f (sh : Sh) (pt : Pt) (gd : Int) (q : Nat) (cp : List Value) (w : World) (hre : Ro w 0 w.heap.size pt.ea sh.errs.length pt.ec 1 (ints sh.errs)) (hrr : Ro w 0 w.heap.size pt.ra sh.rows.length pt.rc 1 (ints sh.rows)) (hl : sh.errs.length ≤ 1000000) (ho : okG sh gd = false) : Calls Tryz.prog 72 #[shV sh pt, (.int .i64 gd), .func (.func q) ([] : List Value).toArray cp.toArray] w (Ret w (RSpE [] 2)) := by
  refine calls_T (av := [_, _, _]) Tryz.func72 rfl rfl rfl ?_
  refine t_seq ?_
  refine t_reg ?_
  refine to_box rfl rfl (fun b3 => ?_)
  refine to_as rfl rfl ?_
  refine to_as rfl rfl ?_
  refine to_nil ?_
  refine tn_code ?_
  refine t_seq ?_
  refine t_reg ?_
  first | refine to_lda rfl rfl rfl ?_ | refine to_ldea rfl (by assumption) rfl rfl ?_
  refine to_mv rfl rfl ?_
  refine to_call0 rfl rfl (fun w s => r_open_f sh pt gd w (rdw s) (rdw s) hl ho) rfl ?_
  refine to_mv rfl rfl ?_
  refine to_ex rfl rfl rfl ?_
  refine to_ex rfl rfl rfl ?_
  refine to_alloc rfl (fun b8 => ?_)
  first | refine to_st rfl rfl rfl rfl ?_ | refine to_ste rfl rfl (by assumption) rfl rfl ?_
  refine to_as rfl rfl ?_
  refine to_nil ?_
  refine tn_code ?_
  refine t_seq ?_
  refine t_seq ?_
  refine t_reg ?_
  refine to_mv rfl rfl ?_
  refine to_neq rfl rfl rfl ?_
  refine to_fix (s := 19) (b' := true) rfl (rfl) ?_
  refine to_nil ?_
  refine tn_code ?_
  refine t_ifT rfl ?_
  refine t_seq ?_
  refine t_reg ?_
  refine to_mv rfl rfl ?_
  refine to_as rfl rfl ?_
  refine to_as rfl rfl ?_
  refine to_nil ?_
  refine tn_code ?_
  refine t_ret2 rfl rfl (res_tmp rfl) (res_tmp rfl) (fun w' s => ?_)
  exact ⟨_, _, rfl, Ro.nil _ _ _ _⟩

def bndL (sh : Sh) (e : Int) : List Sp := sh.rows.map fun r => (r - e, r + e)
def figL (sh : Sh) (e : Int) : List Sp := sh.rows.map fun r => (fig sh (r - e), fig sh (r + e))
def rBounds (sh : Sh) (gd : Int) : List Sp × Int := if okG sh gd then (bndL sh (errG sh gd), 0) else ([], 2)
def rFigures (sh : Sh) (gd : Int) : List Sp × Int := if okG sh gd then (figL sh (errG sh gd), 0) else ([], 2)

theorem ro_bl {w0 w w' : World} {H : List Seg} {a : Option Addr} {n cap sz : Nat} {xs : List (List Value)} (s : St w0 H w) [h : Rd w0 H a n cap sz xs] (hb : Below w.heap.size w w') : Ro w' 0 w'.heap.size a n cap sz xs := rdw (s.below hb)

set_option maxRecDepth 20000 in
theorem r_Bounds_t (sh : Sh) (pt : Pt) (k : Nat) (e : Int) (w : World) (hre : Ro w 0 w.heap.size pt.ea sh.errs.length pt.ec 1 (ints sh.errs)) (hrr : Ro w 0 w.heap.size pt.ra sh.rows.length pt.rc 1 (ints sh.rows)) (hs : isSh sh = true) (he : sh.errs[k]? = some e) : Calls Tryz.prog 32 #[shV sh pt, (.int .i64 (k : Int))] w (Ret w (RSpE (bndL sh e) 0)) := by
  have heb := errs_b (isSh_e hs) e (List.mem_of_getElem? he)
  have hbb := isSh_b hs
  have hxe := map_get (f := intC) he
  have hke := (List.getElem?_eq_some_iff.1 he).1
  refine calls_T (av := [_, _]) Tryz.func32 rfl rfl rfl ?_
  refine t_seq ?_
  refine t_reg ?_
  refine to_box rfl rfl (fun b2 => ?_)
  refine to_as rfl rfl ?_
  refine to_as rfl rfl ?_
  refine to_nil ?_
  refine tn_code ?_
  refine t_seq ?_
  refine t_reg ?_
  first | refine to_lda rfl rfl rfl ?_ | refine to_ldea rfl (by assumption) rfl rfl ?_
  refine to_mv rfl rfl ?_
  refine to_callR rfl rfl (fun w s => r_each_t sh pt k e _ [] (fun r => (r - e, r + e)) w (rdw s) (rdw s) hs he (fun w' hb i r hr => r_bounds sh pt k e i r w' (ro_bl s hb) (ro_bl s hb) hs he hr)) rfl (fun v8 lo8 w8 hlo8 hR8 => ?_)
  obtain ⟨pa8, pc8, rfl, hro8⟩ := hR8
  refine to_ex rfl rfl rfl ?_
  refine to_ex rfl rfl rfl ?_
  refine to_as rfl rfl ?_
  refine to_as rfl rfl ?_
  refine to_nil ?_
  refine tn_code ?_
  refine t_ret2 rfl rfl (res_tmp rfl) (res_tmp rfl) (fun w' s => ?_)
  exact rspe_of rfl (ro_snap s (by assumption))

set_option maxRecDepth 20000 in
theorem r_Bounds_f (sh : Sh) (pt : Pt) (gd : Int) (w : World) (hre : Ro w 0 w.heap.size pt.ea sh.errs.length pt.ec 1 (ints sh.errs)) (hrr : Ro w 0 w.heap.size pt.ra sh.rows.length pt.rc 1 (ints sh.rows)) (hl : sh.errs.length ≤ 1000000) (ho : okG sh gd = false) : Calls Tryz.prog 32 #[shV sh pt, (.int .i64 gd)] w (Ret w (RSpE [] 2)) := by
  refine calls_T (av := [_, _]) Tryz.func32 rfl rfl rfl ?_
  refine t_seq ?_
  refine t_reg ?_
  refine to_box rfl rfl (fun b2 => ?_)
  refine to_as rfl rfl ?_
  refine to_as rfl rfl ?_
  refine to_nil ?_
  refine tn_code ?_
  refine t_seq ?_
  refine t_reg ?_
  first | refine to_lda rfl rfl rfl ?_ | refine to_ldea rfl (by assumption) rfl rfl ?_
  refine to_mv rfl rfl ?_
  refine to_callR rfl rfl (fun w s => r_each_f sh pt gd _ [] w (rdw s) (rdw s) hl ho) rfl (fun v8 lo8 w8 hlo8 hR8 => ?_)
  obtain ⟨pa8, pc8, rfl, hro8⟩ := hR8
  refine to_ex rfl rfl rfl ?_
  refine to_ex rfl rfl rfl ?_
  refine to_as rfl rfl ?_
  refine to_as rfl rfl ?_
  refine to_nil ?_
  refine tn_code ?_
  refine t_ret2 rfl rfl (res_tmp rfl) (res_tmp rfl) (fun w' s => ?_)
  exact rspe_of rfl (ro_snap s (by assumption))

set_option maxRecDepth 20000 in
theorem r_Figures_t (sh : Sh) (pt : Pt) (k : Nat) (e : Int) (w : World) (hre : Ro w 0 w.heap.size pt.ea sh.errs.length pt.ec 1 (ints sh.errs)) (hrr : Ro w 0 w.heap.size pt.ra sh.rows.length pt.rc 1 (ints sh.rows)) (hs : isSh sh = true) (he : sh.errs[k]? = some e) : Calls Tryz.prog 33 #[shV sh pt, (.int .i64 (k : Int))] w (Ret w (RSpE (figL sh e) 0)) := by
  have heb := errs_b (isSh_e hs) e (List.mem_of_getElem? he)
  have hbb := isSh_b hs
  have hxe := map_get (f := intC) he
  have hke := (List.getElem?_eq_some_iff.1 he).1
  refine calls_T (av := [_, _]) Tryz.func33 rfl rfl rfl ?_
  refine t_seq ?_
  refine t_reg ?_
  refine to_box rfl rfl (fun b2 => ?_)
  refine to_as rfl rfl ?_
  refine to_as rfl rfl ?_
  refine to_nil ?_
  refine tn_code ?_
  refine t_seq ?_
  refine t_reg ?_
  first | refine to_lda rfl rfl rfl ?_ | refine to_ldea rfl (by assumption) rfl rfl ?_
  refine to_mv rfl rfl ?_
  refine to_callR rfl rfl (fun w s => r_each_t sh pt k e _ [] (fun r => (fig sh (r - e), fig sh (r + e))) w (rdw s) (rdw s) hs he (fun w' hb i r hr => r_figures sh pt k e i r w' (ro_bl s hb) (ro_bl s hb) hs he hr)) rfl (fun v8 lo8 w8 hlo8 hR8 => ?_)
  obtain ⟨pa8, pc8, rfl, hro8⟩ := hR8
  refine to_ex rfl rfl rfl ?_
  refine to_ex rfl rfl rfl ?_
  refine to_as rfl rfl ?_
  refine to_as rfl rfl ?_
  refine to_nil ?_
  refine tn_code ?_
  refine t_ret2 rfl rfl (res_tmp rfl) (res_tmp rfl) (fun w' s => ?_)
  exact rspe_of rfl (ro_snap s (by assumption))

set_option maxRecDepth 20000 in
theorem r_Figures_f (sh : Sh) (pt : Pt) (gd : Int) (w : World) (hre : Ro w 0 w.heap.size pt.ea sh.errs.length pt.ec 1 (ints sh.errs)) (hrr : Ro w 0 w.heap.size pt.ra sh.rows.length pt.rc 1 (ints sh.rows)) (hl : sh.errs.length ≤ 1000000) (ho : okG sh gd = false) : Calls Tryz.prog 33 #[shV sh pt, (.int .i64 gd)] w (Ret w (RSpE [] 2)) := by
  refine calls_T (av := [_, _]) Tryz.func33 rfl rfl rfl ?_
  refine t_seq ?_
  refine t_reg ?_
  refine to_box rfl rfl (fun b2 => ?_)
  refine to_as rfl rfl ?_
  refine to_as rfl rfl ?_
  refine to_nil ?_
  refine tn_code ?_
  refine t_seq ?_
  refine t_reg ?_
  first | refine to_lda rfl rfl rfl ?_ | refine to_ldea rfl (by assumption) rfl rfl ?_
  refine to_mv rfl rfl ?_
  refine to_callR rfl rfl (fun w s => r_each_f sh pt gd _ [] w (rdw s) (rdw s) hl ho) rfl (fun v8 lo8 w8 hlo8 hR8 => ?_)
  obtain ⟨pa8, pc8, rfl, hro8⟩ := hR8
  refine to_ex rfl rfl rfl ?_
  refine to_ex rfl rfl rfl ?_
  refine to_as rfl rfl ?_
  refine to_as rfl rfl ?_
  refine to_nil ?_
  refine tn_code ?_
  refine t_ret2 rfl rfl (res_tmp rfl) (res_tmp rfl) (fun w' s => ?_)
  exact rspe_of rfl (ro_snap s (by assumption))

end Go.Proofs


namespace Go.Proofs
open Go Go.Sx Go.RowKit

theorem bool_tf (b : Bool) : b = true ∨ b = false := by cases b <;> simp
def wordF (x : Sp) (fg : Int) : Int := if inB fg x.1 x.2 then (if x.1 < x.2 then 2 else 3) else 1
def sureK (sh : Sh) (e : Int) : Nat → List Int
  | 0 => []
  | k + 1 => match sh.rows[k]? with
    | some r => if fig sh (r - e) = fig sh (r + e) then sureK sh e k ++ [(k : Int)] else sureK sh e k
    | none => sureK sh e k
def sureL (sh : Sh) (e : Int) : List Int := sureK sh e sh.rows.length
theorem sureK_t {sh : Sh} {e r : Int} {k : Nat} (hr : sh.rows[k]? = some r) (h : fig sh (r - e) = fig sh (r + e)) : sureK sh e (k + 1) = sureK sh e k ++ [(k : Int)] := by simp [sureK, hr, h]
theorem sureK_f {sh : Sh} {e r : Int} {k : Nat} (hr : sh.rows[k]? = some r) (h : ¬ fig sh (r - e) = fig sh (r + e)) : sureK sh e (k + 1) = sureK sh e k := by simp [sureK, hr, h]
theorem sureK_len (sh : Sh) (e : Int) : ∀ k, (sureK sh e k).length ≤ k
  | 0 => by simp [sureK]
  | k + 1 => by
    have := sureK_len sh e k
    simp only [sureK]
    split
    · split
      · simp; omega
      · omega
    · omega
def leastP (p : Int → Bool) (es : List Int) : Int × Int := if idxI p es < 0 then (0, 5) else (idxI p es, 0)

set_option maxRecDepth 20000 in
theorem r_To1 (v u : Int) (w : World) (hu : 1 ≤ u ∧ u ≤ 1048576) (hv : -1099511627776 ≤ v ∧ v ≤ 1099511627776) : Calls Tryz.prog 15 #[(.int .i64 v), (.int .i64 u), (.int .i64 1)] w (RetV w (.tuple #[.int .i64 (toF u 1 v), .int .i64 0])) := by
  refine calls_T0 (av := [_, _, _]) Tryz.func15 rfl rfl rfl ?_
  refine t_seq ?_
  refine t_reg ?_
  refine to_as rfl rfl ?_
  refine to_as rfl rfl ?_
  refine to_nil ?_
  refine tn_code ?_
  refine t_seq ?_
  refine t_seq ?_
  refine t_reg ?_
  refine to_mv rfl rfl ?_
  refine to_call0 rfl rfl (fun w s => r_in _ _ _ w) rfl ?_
  refine to_fix (s := 9) (b' := true) rfl (inB_iff.2 (by omega)) ?_
  refine to_not rfl rfl ?_
  refine to_mv rfl rfl ?_
  refine to_gt rfl rfl ?_
  refine to_mv rfl rfl ?_
  refine to_gt rfl rfl ?_
  refine to_call0 rfl rfl (fun w s => r_in _ _ _ w) rfl ?_
  refine to_fix (s := 13) (b' := true) rfl (inB_iff.2 (by omega)) ?_
  refine to_gt rfl rfl ?_
  refine to_not rfl rfl ?_
  refine to_pkF rfl rfl rfl ?_
  refine to_mv rfl rfl ?_
  refine to_gt rfl rfl ?_
  refine to_mv rfl rfl ?_
  refine to_gt rfl rfl ?_
  refine to_call0 rfl rfl (fun w s => r_isRule _ w) rfl ?_
  refine to_fix (s := 18) (b' := true) rfl (rfl) ?_
  refine to_gt rfl rfl ?_
  refine to_not rfl rfl ?_
  refine to_pkF rfl rfl rfl ?_
  refine to_nil ?_
  refine tn_code ?_
  refine t_ifF rfl ?_
  refine t_skip ?_
  refine tn_code ?_
  refine t_seq ?_
  refine t_reg ?_
  refine to_mv rfl rfl ?_
  refine to_bs rfl rfl ?_
  refine to_call0 rfl rfl (fun w s => r_rules _ w) rfl ?_
  refine to_mv rfl rfl ?_
  refine to_ixa (k := 1) rfl rfl rfl (by decide) rfl rfl ?_
  refine to_mv rfl rfl ?_
  refine to_call0 rfl rfl (fun w s => r_down u v w (by omega) (by omega)) rfl ?_
  refine to_as rfl rfl ?_
  refine to_as rfl rfl ?_
  refine to_nil ?_
  refine tn_code ?_
  refine t_ret2 rfl rfl (res_tmp rfl) (res_tmp rfl) (fun w' s => ?_)
  first | rfl | simp [toF]

set_option maxRecDepth 20000 in
theorem r_To2 (v u : Int) (w : World) (hu : 1 ≤ u ∧ u ≤ 1048576) (hv : -1099511627776 ≤ v ∧ v ≤ 1099511627776) : Calls Tryz.prog 15 #[(.int .i64 v), (.int .i64 u), (.int .i64 2)] w (RetV w (.tuple #[.int .i64 (toF u 2 v), .int .i64 0])) := by
  refine calls_T0 (av := [_, _, _]) Tryz.func15 rfl rfl rfl ?_
  refine t_seq ?_
  refine t_reg ?_
  refine to_as rfl rfl ?_
  refine to_as rfl rfl ?_
  refine to_nil ?_
  refine tn_code ?_
  refine t_seq ?_
  refine t_seq ?_
  refine t_reg ?_
  refine to_mv rfl rfl ?_
  refine to_call0 rfl rfl (fun w s => r_in _ _ _ w) rfl ?_
  refine to_fix (s := 9) (b' := true) rfl (inB_iff.2 (by omega)) ?_
  refine to_not rfl rfl ?_
  refine to_mv rfl rfl ?_
  refine to_gt rfl rfl ?_
  refine to_mv rfl rfl ?_
  refine to_gt rfl rfl ?_
  refine to_call0 rfl rfl (fun w s => r_in _ _ _ w) rfl ?_
  refine to_fix (s := 13) (b' := true) rfl (inB_iff.2 (by omega)) ?_
  refine to_gt rfl rfl ?_
  refine to_not rfl rfl ?_
  refine to_pkF rfl rfl rfl ?_
  refine to_mv rfl rfl ?_
  refine to_gt rfl rfl ?_
  refine to_mv rfl rfl ?_
  refine to_gt rfl rfl ?_
  refine to_call0 rfl rfl (fun w s => r_isRule _ w) rfl ?_
  refine to_fix (s := 18) (b' := true) rfl (rfl) ?_
  refine to_gt rfl rfl ?_
  refine to_not rfl rfl ?_
  refine to_pkF rfl rfl rfl ?_
  refine to_nil ?_
  refine tn_code ?_
  refine t_ifF rfl ?_
  refine t_skip ?_
  refine tn_code ?_
  refine t_seq ?_
  refine t_reg ?_
  refine to_mv rfl rfl ?_
  refine to_bs rfl rfl ?_
  refine to_call0 rfl rfl (fun w s => r_rules _ w) rfl ?_
  refine to_mv rfl rfl ?_
  refine to_ixa (k := 2) rfl rfl rfl (by decide) rfl rfl ?_
  refine to_mv rfl rfl ?_
  refine to_call0 rfl rfl (fun w s => r_up u v w (by omega) (by omega)) rfl ?_
  refine to_as rfl rfl ?_
  refine to_as rfl rfl ?_
  refine to_nil ?_
  refine tn_code ?_
  refine t_ret2 rfl rfl (res_tmp rfl) (res_tmp rfl) (fun w' s => ?_)
  first | rfl | simp [toF]

set_option maxRecDepth 20000 in
theorem r_To3 (v u : Int) (w : World) (hu : 1 ≤ u ∧ u ≤ 1048576) (hv : -1099511627776 ≤ v ∧ v ≤ 1099511627776) : Calls Tryz.prog 15 #[(.int .i64 v), (.int .i64 u), (.int .i64 3)] w (RetV w (.tuple #[.int .i64 (toF u 3 v), .int .i64 0])) := by
  refine calls_T0 (av := [_, _, _]) Tryz.func15 rfl rfl rfl ?_
  refine t_seq ?_
  refine t_reg ?_
  refine to_as rfl rfl ?_
  refine to_as rfl rfl ?_
  refine to_nil ?_
  refine tn_code ?_
  refine t_seq ?_
  refine t_seq ?_
  refine t_reg ?_
  refine to_mv rfl rfl ?_
  refine to_call0 rfl rfl (fun w s => r_in _ _ _ w) rfl ?_
  refine to_fix (s := 9) (b' := true) rfl (inB_iff.2 (by omega)) ?_
  refine to_not rfl rfl ?_
  refine to_mv rfl rfl ?_
  refine to_gt rfl rfl ?_
  refine to_mv rfl rfl ?_
  refine to_gt rfl rfl ?_
  refine to_call0 rfl rfl (fun w s => r_in _ _ _ w) rfl ?_
  refine to_fix (s := 13) (b' := true) rfl (inB_iff.2 (by omega)) ?_
  refine to_gt rfl rfl ?_
  refine to_not rfl rfl ?_
  refine to_pkF rfl rfl rfl ?_
  refine to_mv rfl rfl ?_
  refine to_gt rfl rfl ?_
  refine to_mv rfl rfl ?_
  refine to_gt rfl rfl ?_
  refine to_call0 rfl rfl (fun w s => r_isRule _ w) rfl ?_
  refine to_fix (s := 18) (b' := true) rfl (rfl) ?_
  refine to_gt rfl rfl ?_
  refine to_not rfl rfl ?_
  refine to_pkF rfl rfl rfl ?_
  refine to_nil ?_
  refine tn_code ?_
  refine t_ifF rfl ?_
  refine t_skip ?_
  refine tn_code ?_
  refine t_seq ?_
  refine t_reg ?_
  refine to_mv rfl rfl ?_
  refine to_bs rfl rfl ?_
  refine to_call0 rfl rfl (fun w s => r_rules _ w) rfl ?_
  refine to_mv rfl rfl ?_
  refine to_ixa (k := 3) rfl rfl rfl (by decide) rfl rfl ?_
  refine to_mv rfl rfl ?_
  refine to_call0 rfl rfl (fun w s => r_near u v w (by omega) (by omega)) rfl ?_
  refine to_as rfl rfl ?_
  refine to_as rfl rfl ?_
  refine to_nil ?_
  refine tn_code ?_
  refine t_ret2 rfl rfl (res_tmp rfl) (res_tmp rfl) (fun w' s => ?_)
  first | rfl | simp [toF]

set_option maxRecDepth 20000 in
theorem r_To4 (v u : Int) (w : World) (hu : 1 ≤ u ∧ u ≤ 1048576) (hv : -1099511627776 ≤ v ∧ v ≤ 1099511627776) : Calls Tryz.prog 15 #[(.int .i64 v), (.int .i64 u), (.int .i64 4)] w (RetV w (.tuple #[.int .i64 (toF u 4 v), .int .i64 0])) := by
  refine calls_T0 (av := [_, _, _]) Tryz.func15 rfl rfl rfl ?_
  refine t_seq ?_
  refine t_reg ?_
  refine to_as rfl rfl ?_
  refine to_as rfl rfl ?_
  refine to_nil ?_
  refine tn_code ?_
  refine t_seq ?_
  refine t_seq ?_
  refine t_reg ?_
  refine to_mv rfl rfl ?_
  refine to_call0 rfl rfl (fun w s => r_in _ _ _ w) rfl ?_
  refine to_fix (s := 9) (b' := true) rfl (inB_iff.2 (by omega)) ?_
  refine to_not rfl rfl ?_
  refine to_mv rfl rfl ?_
  refine to_gt rfl rfl ?_
  refine to_mv rfl rfl ?_
  refine to_gt rfl rfl ?_
  refine to_call0 rfl rfl (fun w s => r_in _ _ _ w) rfl ?_
  refine to_fix (s := 13) (b' := true) rfl (inB_iff.2 (by omega)) ?_
  refine to_gt rfl rfl ?_
  refine to_not rfl rfl ?_
  refine to_pkF rfl rfl rfl ?_
  refine to_mv rfl rfl ?_
  refine to_gt rfl rfl ?_
  refine to_mv rfl rfl ?_
  refine to_gt rfl rfl ?_
  refine to_call0 rfl rfl (fun w s => r_isRule _ w) rfl ?_
  refine to_fix (s := 18) (b' := true) rfl (rfl) ?_
  refine to_gt rfl rfl ?_
  refine to_not rfl rfl ?_
  refine to_pkF rfl rfl rfl ?_
  refine to_nil ?_
  refine tn_code ?_
  refine t_ifF rfl ?_
  refine t_skip ?_
  refine tn_code ?_
  refine t_seq ?_
  refine t_reg ?_
  refine to_mv rfl rfl ?_
  refine to_bs rfl rfl ?_
  refine to_call0 rfl rfl (fun w s => r_rules _ w) rfl ?_
  refine to_mv rfl rfl ?_
  refine to_ixa (k := 4) rfl rfl rfl (by decide) rfl rfl ?_
  refine to_mv rfl rfl ?_
  refine to_call0 rfl rfl (fun w s => r_even u v w (by omega) (by omega)) rfl ?_
  refine to_as rfl rfl ?_
  refine to_as rfl rfl ?_
  refine to_nil ?_
  refine tn_code ?_
  refine t_ret2 rfl rfl (res_tmp rfl) (res_tmp rfl) (fun w' s => ?_)
  first | rfl | simp [toF]

set_option maxRecDepth 20000 in
theorem r_To_f (v u r : Int) (w : World) (ho : fineV v u r = false) : Calls Tryz.prog 15 #[(.int .i64 v), (.int .i64 u), (.int .i64 r)] w (RetV w (.tuple #[.int .i64 0, .int .i64 2])) := by
  refine calls_T0 (av := [_, _, _]) Tryz.func15 rfl rfl rfl ?_
  refine t_seq ?_
  refine t_reg ?_
  refine to_as rfl rfl ?_
  refine to_as rfl rfl ?_
  refine to_nil ?_
  refine tn_code ?_
  refine t_seq ?_
  refine t_seq ?_
  refine t_reg ?_
  refine to_mv rfl rfl ?_
  refine to_call0 rfl rfl (fun w s => r_in _ _ _ w) rfl ?_
  refine to_not rfl rfl ?_
  refine to_mv rfl rfl ?_
  refine to_gs rfl rfl rfl (fun h1 => ?_) (fun h1 => ?_)
  · try simp only [decide_eq_true_eq, decide_eq_false_iff_not, Bool.not_eq_true', Bool.not_eq_false', Int.not_lt, Int.not_le, ne_eq, Decidable.not_not] at h1
    try have h1b := inB_iff.1 h1
    refine to_gf rfl rfl rfl rfl ?_
    refine to_gf rfl rfl rfl rfl ?_
    refine to_gf rfl rfl rfl rfl ?_
    refine to_pkT rfl rfl rfl ?_
    refine to_mv rfl rfl ?_
    refine to_gf rfl rfl rfl rfl ?_
    refine to_gf rfl rfl rfl rfl ?_
    refine to_gf rfl rfl rfl rfl ?_
    refine to_pkT rfl rfl rfl ?_
    refine to_nil ?_
    refine tn_code ?_
    refine t_ifT rfl ?_
    refine t_seq ?_
    refine t_reg ?_
    refine to_as rfl rfl ?_
    refine to_as rfl rfl ?_
    refine to_nil ?_
    refine tn_code ?_
    refine t_ret2 rfl rfl (res_tmp rfl) (res_tmp rfl) (fun w' s => ?_)
    rfl
  · try simp only [decide_eq_true_eq, decide_eq_false_iff_not, Bool.not_eq_true', Bool.not_eq_false', Int.not_lt, Int.not_le, ne_eq, Decidable.not_not] at h1
    try have h1b := inB_iff.1 h1
    refine to_gt rfl rfl ?_
    refine to_mv rfl rfl ?_
    refine to_gt rfl rfl ?_
    refine to_call0 rfl rfl (fun w s => r_in _ _ _ w) rfl ?_
    refine to_gt rfl rfl ?_
    refine to_not rfl rfl ?_
    refine to_pkF rfl rfl rfl ?_
    refine to_mv rfl rfl ?_
    refine to_gs rfl rfl rfl (fun h2 => ?_) (fun h2 => ?_)
    · try simp only [decide_eq_true_eq, decide_eq_false_iff_not, Bool.not_eq_true', Bool.not_eq_false', Int.not_lt, Int.not_le, ne_eq, Decidable.not_not] at h2
      try have h2b := inB_iff.1 h2
      refine to_gf rfl rfl rfl rfl ?_
      refine to_gf rfl rfl rfl rfl ?_
      refine to_gf rfl rfl rfl rfl ?_
      refine to_pkT rfl rfl rfl ?_
      refine to_nil ?_
      refine tn_code ?_
      refine t_ifT rfl ?_
      refine t_seq ?_
      refine t_reg ?_
      refine to_as rfl rfl ?_
      refine to_as rfl rfl ?_
      refine to_nil ?_
      refine tn_code ?_
      refine t_ret2 rfl rfl (res_tmp rfl) (res_tmp rfl) (fun w' s => ?_)
      rfl
    · try simp only [decide_eq_true_eq, decide_eq_false_iff_not, Bool.not_eq_true', Bool.not_eq_false', Int.not_lt, Int.not_le, ne_eq, Decidable.not_not] at h2
      try have h2b := inB_iff.1 h2
      refine to_gt rfl rfl ?_
      refine to_mv rfl rfl ?_
      refine to_gt rfl rfl ?_
      refine to_call0 rfl rfl (fun w s => r_isRule _ w) rfl ?_
      refine to_gt rfl rfl ?_
      refine to_not rfl rfl ?_
      refine to_pkF rfl rfl rfl ?_
      refine to_nil ?_
      refine tn_code ?_
      refine t_if rfl (fun h3 => ?_) (fun h3 => ?_)
      · try simp only [decide_eq_true_eq, decide_eq_false_iff_not, Bool.not_eq_true', Bool.not_eq_false', Int.not_lt, Int.not_le, ne_eq, Decidable.not_not] at h3
        try have h3b := inB_iff.1 h3
        refine t_seq ?_
        refine t_reg ?_
        refine to_as rfl rfl ?_
        refine to_as rfl rfl ?_
        refine to_nil ?_
        refine tn_code ?_
        refine t_ret2 rfl rfl (res_tmp rfl) (res_tmp rfl) (fun w' s => ?_)
        rfl
      · try simp only [decide_eq_true_eq, decide_eq_false_iff_not, Bool.not_eq_true', Bool.not_eq_false', Int.not_lt, Int.not_le, ne_eq, Decidable.not_not] at h3
        try have h3b := inB_iff.1 h3
        exfalso; simp_all [fineV]

def rTo (v u r : Int) : Int × Int := if fineV v u r then (toF u r v, 0) else (0, 2)
theorem r_To (v u r : Int) (w : World) : Calls Tryz.prog 15 #[.int .i64 v, .int .i64 u, .int .i64 r] w (RetV w (.tuple #[.int .i64 (rTo v u r).1, .int .i64 (rTo v u r).2])) := by
  rcases bool_tf (fineV v u r) with h | h
  · have h2 := h
    simp only [fineV, Bool.and_eq_true] at h2
    have h3 := inB_iff.1 h2.1.1
    have h4 := inB_iff.1 h2.1.2
    have h5 := inB_iff.1 h2.2
    simp only [rTo, h, if_true]
    obtain rfl | rfl | rfl | rfl : r = 1 ∨ r = 2 ∨ r = 3 ∨ r = 4 := by omega
    · exact r_To1 v u w (by omega) (by omega)
    · exact r_To2 v u w (by omega) (by omega)
    · exact r_To3 v u w (by omega) (by omega)
    · exact r_To4 v u w (by omega) (by omega)
  · simp only [rTo, h, Bool.false_eq_true, if_false]
    exact r_To_f v u r w h

set_option maxRecDepth 20000 in
theorem r_Word_t (sh : Sh) (pt : Pt) (k : Nat) (e : Int) (i : Nat) (r : Int) (fg : Int) (w : World) (hre : Ro w 0 w.heap.size pt.ea sh.errs.length pt.ec 1 (ints sh.errs)) (hrr : Ro w 0 w.heap.size pt.ra sh.rows.length pt.rc 1 (ints sh.rows)) (hs : isSh sh = true) (he : sh.errs[k]? = some e) (hr : sh.rows[i]? = some r) : Calls Tryz.prog 21 #[shV sh pt, (.int .i64 (k : Int)), (.int .i64 (i : Int)), (.int .i64 fg)] w (RetV w (.tuple #[.int .i64 (wordF (fig sh (r - e), fig sh (r + e)) fg), .int .i64 0])) := by
  have heb := errs_b (isSh_e hs) e (List.mem_of_getElem? he)
  have hbb := isSh_b hs
  have hxe := map_get (f := intC) he
  have hke := (List.getElem?_eq_some_iff.1 he).1
  have hrb := isSh_r hs (List.mem_of_getElem? hr)
  have hxr := map_get (f := intC) hr
  have hir := (List.getElem?_eq_some_iff.1 hr).1
  refine calls_T0 (av := [_, _, _, _]) Tryz.func21 rfl rfl rfl ?_
  refine t_seq ?_
  refine t_reg ?_
  refine to_box rfl rfl (fun b4 => ?_)
  refine to_as rfl rfl ?_
  refine to_as rfl rfl ?_
  refine to_nil ?_
  refine tn_code ?_
  refine t_seq ?_
  refine t_reg ?_
  first | refine to_lda rfl rfl rfl ?_ | refine to_ldea rfl (by assumption) rfl rfl ?_
  refine to_mv rfl rfl ?_
  refine to_call0 rfl rfl (fun w s => r_open_t sh pt k e w (rdw s) (rdw s) hs he) rfl ?_
  refine to_mv rfl rfl ?_
  refine to_ex rfl rfl rfl ?_
  refine to_ex rfl rfl rfl ?_
  refine to_alloc rfl (fun b10 => ?_)
  first | refine to_st rfl rfl rfl rfl ?_ | refine to_ste rfl rfl (by assumption) rfl rfl ?_
  refine to_as rfl rfl ?_
  refine to_nil ?_
  refine tn_code ?_
  refine t_seq ?_
  refine t_seq ?_
  refine t_reg ?_
  refine to_mv rfl rfl ?_
  refine to_neq rfl rfl rfl ?_
  refine to_fix (s := 20) (b' := false) rfl (rfl) ?_
  refine to_mv rfl rfl ?_
  refine to_gt rfl rfl ?_
  refine to_mv rfl rfl ?_
  refine to_gt rfl rfl ?_
  first | refine to_fa rfl rfl rfl (by simp only [Nat.reduceAdd]; rfl) rfl ?_ | refine to_fae rfl rfl rfl (by simp only [Nat.reduceAdd]; rfl) rfl ?_
  refine to_gt rfl rfl ?_
  first | refine to_lds rfl rfl rfl ?_ | refine to_ldes rfl (by assumption) rfl rfl ?_
  refine to_gt rfl rfl ?_
  refine to_lenS rfl rfl ?_
  refine to_gt rfl rfl ?_
  refine to_sub rfl rfl (by omega) rfl ?_
  refine to_gt rfl rfl ?_
  refine to_call0 rfl rfl (fun w s => r_in _ _ _ w) rfl ?_
  refine to_fix (s := 27) (b' := true) rfl (inB_iff.2 (by omega)) ?_
  refine to_gt rfl rfl ?_
  refine to_not rfl rfl ?_
  refine to_pkF rfl rfl rfl ?_
  refine to_nil ?_
  refine tn_code ?_
  refine t_ifF rfl ?_
  refine t_skip ?_
  refine tn_code ?_
  refine t_seq ?_
  refine t_reg ?_
  first | refine to_lda rfl rfl rfl ?_ | refine to_ldea rfl (by assumption) rfl rfl ?_
  refine to_mv rfl rfl ?_
  refine to_call0 rfl rfl (fun w s => r_figures sh pt k e _ _ w (rdw s) (rdw s) hs he (by assumption)) rfl ?_
  refine to_alloc rfl (fun b12 => ?_)
  first | refine to_st rfl rfl rfl rfl ?_ | refine to_ste rfl rfl (by assumption) rfl rfl ?_
  refine to_nil ?_
  refine tn_code ?_
  refine t_seq ?_
  refine t_blk ?_
  refine t_seq ?_
  refine t_reg ?_
  refine to_mv rfl rfl ?_
  first | refine to_fa rfl rfl rfl (by simp only [Nat.reduceAdd]; rfl) rfl ?_ | refine to_fae rfl rfl rfl (by simp only [Nat.reduceAdd]; rfl) rfl ?_
  first | refine to_lds rfl rfl rfl ?_ | refine to_ldes rfl (by assumption) rfl rfl ?_
  first | refine to_fa rfl rfl rfl (by simp only [Nat.reduceAdd]; rfl) rfl ?_ | refine to_fae rfl rfl rfl (by simp only [Nat.reduceAdd]; rfl) rfl ?_
  first | refine to_lds rfl rfl rfl ?_ | refine to_ldes rfl (by assumption) rfl rfl ?_
  refine to_call0 rfl rfl (fun w s => r_in _ _ _ w) rfl ?_
  refine to_not rfl rfl ?_
  refine to_as rfl rfl ?_
  refine to_nil ?_
  refine tn_code ?_
  refine t_if rfl (fun h1 => ?_) (fun h1 => ?_)
  · try simp only [decide_eq_true_eq, decide_eq_false_iff_not, Bool.not_eq_true', Bool.not_eq_false', Int.not_lt, Int.not_le, ne_eq, Decidable.not_not] at h1
    try have h1b := inB_iff.1 h1
    refine t_seq ?_
    refine t_reg ?_
    refine to_as rfl rfl ?_
    refine to_as rfl rfl ?_
    refine to_nil ?_
    refine tn_code ?_
    refine t_ret2 rfl rfl (res_tmp rfl) (res_tmp rfl) (fun w' s => ?_)
    refine congrArg (fun z => Value.tuple #[.int .i64 z, .int .i64 0]) ?_
    simp_all [wordF]; try omega
  · try simp only [decide_eq_true_eq, decide_eq_false_iff_not, Bool.not_eq_true', Bool.not_eq_false', Int.not_lt, Int.not_le, ne_eq, Decidable.not_not] at h1
    try have h1b := inB_iff.1 h1
    refine t_seq ?_
    refine t_reg ?_
    first | refine to_fa rfl rfl rfl (by simp only [Nat.reduceAdd]; rfl) rfl ?_ | refine to_fae rfl rfl rfl (by simp only [Nat.reduceAdd]; rfl) rfl ?_
    first | refine to_lds rfl rfl rfl ?_ | refine to_ldes rfl (by assumption) rfl rfl ?_
    first | refine to_fa rfl rfl rfl (by simp only [Nat.reduceAdd]; rfl) rfl ?_ | refine to_fae rfl rfl rfl (by simp only [Nat.reduceAdd]; rfl) rfl ?_
    first | refine to_lds rfl rfl rfl ?_ | refine to_ldes rfl (by assumption) rfl rfl ?_
    refine to_lss rfl rfl rfl ?_
    refine to_as rfl rfl ?_
    refine to_nil ?_
    refine tn_code ?_
    refine t_if rfl (fun h2 => ?_) (fun h2 => ?_)
    · try simp only [decide_eq_true_eq, decide_eq_false_iff_not, Bool.not_eq_true', Bool.not_eq_false', Int.not_lt, Int.not_le, ne_eq, Decidable.not_not] at h2
      try have h2b := inB_iff.1 h2
      refine t_seq ?_
      refine t_reg ?_
      refine to_as rfl rfl ?_
      refine to_as rfl rfl ?_
      refine to_nil ?_
      refine tn_code ?_
      refine t_ret2 rfl rfl (res_tmp rfl) (res_tmp rfl) (fun w' s => ?_)
      refine congrArg (fun z => Value.tuple #[.int .i64 z, .int .i64 0]) ?_
      simp_all [wordF]; try omega
    · try simp only [decide_eq_true_eq, decide_eq_false_iff_not, Bool.not_eq_true', Bool.not_eq_false', Int.not_lt, Int.not_le, ne_eq, Decidable.not_not] at h2
      try have h2b := inB_iff.1 h2
      refine t_skip ?_
      refine tn_blk ?_
      refine tn_code ?_
      refine t_seq ?_
      refine t_reg ?_
      refine to_as rfl rfl ?_
      refine to_as rfl rfl ?_
      refine to_nil ?_
      refine tn_code ?_
      refine t_ret2 rfl rfl (res_tmp rfl) (res_tmp rfl) (fun w' s => ?_)
      refine congrArg (fun z => Value.tuple #[.int .i64 z, .int .i64 0]) ?_
      simp_all [wordF]; try omega

set_option maxRecDepth 20000 in
theorem r_Word_r (sh : Sh) (pt : Pt) (k : Nat) (e : Int) (row fg : Int) (w : World) (hre : Ro w 0 w.heap.size pt.ea sh.errs.length pt.ec 1 (ints sh.errs)) (hrr : Ro w 0 w.heap.size pt.ra sh.rows.length pt.rc 1 (ints sh.rows)) (hs : isSh sh = true) (he : sh.errs[k]? = some e) (hrw : inB row 0 (sh.rows.length - 1) = false) : Calls Tryz.prog 21 #[shV sh pt, (.int .i64 (k : Int)), (.int .i64 row), (.int .i64 fg)] w (RetV w (.tuple #[.int .i64 0, .int .i64 2])) := by
  have heb := errs_b (isSh_e hs) e (List.mem_of_getElem? he)
  have hbb := isSh_b hs
  have hxe := map_get (f := intC) he
  have hke := (List.getElem?_eq_some_iff.1 he).1
  refine calls_T0 (av := [_, _, _, _]) Tryz.func21 rfl rfl rfl ?_
  refine t_seq ?_
  refine t_reg ?_
  refine to_box rfl rfl (fun b4 => ?_)
  refine to_as rfl rfl ?_
  refine to_as rfl rfl ?_
  refine to_nil ?_
  refine tn_code ?_
  refine t_seq ?_
  refine t_reg ?_
  first | refine to_lda rfl rfl rfl ?_ | refine to_ldea rfl (by assumption) rfl rfl ?_
  refine to_mv rfl rfl ?_
  refine to_call0 rfl rfl (fun w s => r_open_t sh pt k e w (rdw s) (rdw s) hs he) rfl ?_
  refine to_mv rfl rfl ?_
  refine to_ex rfl rfl rfl ?_
  refine to_ex rfl rfl rfl ?_
  refine to_alloc rfl (fun b10 => ?_)
  first | refine to_st rfl rfl rfl rfl ?_ | refine to_ste rfl rfl (by assumption) rfl rfl ?_
  refine to_as rfl rfl ?_
  refine to_nil ?_
  refine tn_code ?_
  refine t_seq ?_
  refine t_seq ?_
  refine t_reg ?_
  refine to_mv rfl rfl ?_
  refine to_neq rfl rfl rfl ?_
  refine to_fix (s := 20) (b' := false) rfl (rfl) ?_
  refine to_mv rfl rfl ?_
  refine to_gt rfl rfl ?_
  refine to_mv rfl rfl ?_
  refine to_gt rfl rfl ?_
  first | refine to_fa rfl rfl rfl (by simp only [Nat.reduceAdd]; rfl) rfl ?_ | refine to_fae rfl rfl rfl (by simp only [Nat.reduceAdd]; rfl) rfl ?_
  refine to_gt rfl rfl ?_
  first | refine to_lds rfl rfl rfl ?_ | refine to_ldes rfl (by assumption) rfl rfl ?_
  refine to_gt rfl rfl ?_
  refine to_lenS rfl rfl ?_
  refine to_gt rfl rfl ?_
  refine to_sub rfl rfl (by omega) rfl ?_
  refine to_gt rfl rfl ?_
  refine to_call0 rfl rfl (fun w s => r_in _ _ _ w) rfl ?_
  refine to_fix (s := 27) (b' := false) rfl (hrw) ?_
  refine to_gt rfl rfl ?_
  refine to_not rfl rfl ?_
  refine to_pkF rfl rfl rfl ?_
  refine to_nil ?_
  refine tn_code ?_
  refine t_ifT rfl ?_
  refine t_seq ?_
  refine t_reg ?_
  refine to_as rfl rfl ?_
  refine to_as rfl rfl ?_
  refine to_nil ?_
  refine tn_code ?_
  refine t_ret2 rfl rfl (res_tmp rfl) (res_tmp rfl) (fun w' s => ?_)
  rfl

set_option maxRecDepth 20000 in
theorem r_Word_f (sh : Sh) (pt : Pt) (gd : Int) (row fg : Int) (w : World) (hre : Ro w 0 w.heap.size pt.ea sh.errs.length pt.ec 1 (ints sh.errs)) (hrr : Ro w 0 w.heap.size pt.ra sh.rows.length pt.rc 1 (ints sh.rows)) (hl : sh.errs.length ≤ 1000000) (ho : okG sh gd = false) : Calls Tryz.prog 21 #[shV sh pt, (.int .i64 gd), (.int .i64 row), (.int .i64 fg)] w (RetV w (.tuple #[.int .i64 0, .int .i64 2])) := by
  refine calls_T0 (av := [_, _, _, _]) Tryz.func21 rfl rfl rfl ?_
  refine t_seq ?_
  refine t_reg ?_
  refine to_box rfl rfl (fun b4 => ?_)
  refine to_as rfl rfl ?_
  refine to_as rfl rfl ?_
  refine to_nil ?_
  refine tn_code ?_
  refine t_seq ?_
  refine t_reg ?_
  first | refine to_lda rfl rfl rfl ?_ | refine to_ldea rfl (by assumption) rfl rfl ?_
  refine to_mv rfl rfl ?_
  refine to_call0 rfl rfl (fun w s => r_open_f sh pt gd w (rdw s) (rdw s) hl ho) rfl ?_
  refine to_mv rfl rfl ?_
  refine to_ex rfl rfl rfl ?_
  refine to_ex rfl rfl rfl ?_
  refine to_alloc rfl (fun b10 => ?_)
  first | refine to_st rfl rfl rfl rfl ?_ | refine to_ste rfl rfl (by assumption) rfl rfl ?_
  refine to_as rfl rfl ?_
  refine to_nil ?_
  refine tn_code ?_
  refine t_seq ?_
  refine t_seq ?_
  refine t_reg ?_
  refine to_mv rfl rfl ?_
  refine to_neq rfl rfl rfl ?_
  refine to_fix (s := 20) (b' := true) rfl (rfl) ?_
  refine to_mv rfl rfl ?_
  refine to_gf rfl rfl rfl rfl ?_
  refine to_gf rfl rfl rfl rfl ?_
  refine to_gf rfl rfl rfl rfl ?_
  refine to_gf rfl rfl rfl rfl ?_
  refine to_gf rfl rfl rfl rfl ?_
  refine to_gf rfl rfl rfl rfl ?_
  refine to_gf rfl rfl rfl rfl ?_
  refine to_pkT rfl rfl rfl ?_
  refine to_nil ?_
  refine tn_code ?_
  refine t_ifT rfl ?_
  refine t_seq ?_
  refine t_reg ?_
  refine to_as rfl rfl ?_
  refine to_as rfl rfl ?_
  refine to_nil ?_
  refine tn_code ?_
  refine t_ret2 rfl rfl (res_tmp rfl) (res_tmp rfl) (fun w' s => ?_)
  rfl

set_option maxRecDepth 20000 in
theorem r_sure (sh : Sh) (pt : Pt) (k : Nat) (e : Int) (w : World) (hre : Ro w 0 w.heap.size pt.ea sh.errs.length pt.ec 1 (ints sh.errs)) (hrr : Ro w 0 w.heap.size pt.ra sh.rows.length pt.rc 1 (ints sh.rows)) (hs : isSh sh = true) (he : sh.errs[k]? = some e) : Calls Tryz.prog 68 #[tbV sh pt (k : Int)] w (Ret w (RSl (sureL sh e))) := by
  have heb := errs_b (isSh_e hs) e (List.mem_of_getElem? he)
  have hbb := isSh_b hs
  have hxe := map_get (f := intC) he
  have hke := (List.getElem?_eq_some_iff.1 he).1
  refine calls_T (av := [_]) Tryz.func68 rfl rfl rfl ?_
  refine t_seq ?_
  refine t_reg ?_
  refine to_box rfl rfl (fun b1 => ?_)
  refine to_as rfl rfl ?_
  refine to_nil ?_
  refine tn_code ?_
  refine t_seq ?_
  refine t_reg ?_
  refine to_as rfl rfl ?_
  refine to_nil ?_
  refine tn_code ?_
  refine t_seq ?_
  refine t_seq ?_
  refine t_reg ?_
  first | refine to_fa rfl rfl rfl (by simp only [Nat.reduceAdd]; rfl) rfl ?_ | refine to_fae rfl rfl rfl (by simp only [Nat.reduceAdd]; rfl) rfl ?_
  first | refine to_fa rfl rfl rfl (by simp only [Nat.reduceAdd]; rfl) rfl ?_ | refine to_fae rfl rfl rfl (by simp only [Nat.reduceAdd]; rfl) rfl ?_
  first | refine to_lds rfl rfl rfl ?_ | refine to_ldes rfl (by assumption) rfl rfl ?_
  refine to_lenS rfl rfl ?_
  refine to_mv rfl rfl ?_
  refine to_nil ?_
  refine tn_code ?_
  refine t_blk ?_
  refine t_nilrow 3 1 ?_
  refine t_loop2 (ι := Nat × Option Addr × Nat) (fun ((i, a', c') : Nat × Option Addr × Nat) => i ≤ sh.rows.length) (fun ((i, a', c') : Nat × Option Addr × Nat) => [(1, (.pointer (some ⟨b1, 0, none⟩))), (3, .slice a' (sureK sh e i).length c'), (9, .int .i64 (sh.rows.length : Int)), (10, .int .i64 (i : Int))]) (fun ((i, a', c') : Nat × Option Addr × Nat) => [.row a' (sureK sh e i).length c' 3 1 (ints (sureK sh e i)), .own b1 (isC (tbC sh pt (k : Int)) 86), .snap 0 w.heap.size w]) (fun ((i, a', c') : Nat × Option Addr × Nat) => sh.rows.length - i) ((0, none, 0)) [.row none 0 0 3 1 [], .own b1 (isC (tbC sh pt (k : Int)) 86), .snap 0 w.heap.size w] (rfl) (Nat.zero_le _) (⟨rfl, rfl, rfl, rfl, trivial⟩) ?_
  rintro ⟨i, a', c'⟩ hk
  try dsimp only at hk
  show T _ _ _ ⟨_, [(1, (.pointer (some ⟨b1, 0, none⟩))), (3, .slice a' (sureK sh e i).length c'), (9, .int .i64 (sh.rows.length : Int)), (10, .int .i64 (i : Int))], _⟩ [.row a' (sureK sh e i).length c' 3 1 (ints (sureK sh e i)), .own b1 (isC (tbC sh pt (k : Int)) 86), .snap 0 w.heap.size w]
  refine t_seq ?_
  refine t_reg ?_
  refine to_lss rfl rfl rfl ?_
  refine to_nil ?_
  refine tn_code ?_
  refine t_seq ?_
  refine t_if rfl (fun h1 => ?_) (fun h1 => ?_)
  · try simp only [decide_eq_true_eq, decide_eq_false_iff_not, Bool.not_eq_true', Bool.not_eq_false', Int.not_lt, Int.not_le, ne_eq, Decidable.not_not] at h1
    try have h1b := inB_iff.1 h1
    obtain ⟨r, hr⟩ := some_get (xs := sh.rows) (k := i) (by omega)
    have hsl := sureK_len sh e i
    refine t_skip ?_
    refine tn_code ?_
    refine t_seq ?_
    refine t_blk ?_
    refine t_seq ?_
    refine t_reg ?_
    refine to_mv rfl rfl ?_
    refine to_as rfl rfl ?_
    refine to_nil ?_
    refine tn_code ?_
    refine t_seq ?_
    refine t_reg ?_
    first | refine to_lda rfl rfl rfl ?_ | refine to_ldea rfl (by assumption) rfl rfl ?_
    refine to_mv rfl rfl ?_
    refine to_call0 rfl rfl (fun w s => r_figures sh pt k e _ _ w (rdw s) (rdw s) hs he (by assumption)) rfl ?_
    refine to_alloc rfl (fun b5 => ?_)
    first | refine to_st rfl rfl rfl rfl ?_ | refine to_ste rfl rfl (by assumption) rfl rfl ?_
    refine to_nil ?_
    refine tn_code ?_
    refine t_seq ?_
    refine t_reg ?_
    first | refine to_fa rfl rfl rfl (by simp only [Nat.reduceAdd]; rfl) rfl ?_ | refine to_fae rfl rfl rfl (by simp only [Nat.reduceAdd]; rfl) rfl ?_
    first | refine to_lds rfl rfl rfl ?_ | refine to_ldes rfl (by assumption) rfl rfl ?_
    first | refine to_fa rfl rfl rfl (by simp only [Nat.reduceAdd]; rfl) rfl ?_ | refine to_fae rfl rfl rfl (by simp only [Nat.reduceAdd]; rfl) rfl ?_
    first | refine to_lds rfl rfl rfl ?_ | refine to_ldes rfl (by assumption) rfl rfl ?_
    refine to_eql rfl rfl rfl ?_
    refine to_nil ?_
    refine tn_code ?_
    refine t_if rfl (fun h2 => ?_) (fun h2 => ?_)
    · try simp only [decide_eq_true_eq, decide_eq_false_iff_not, Bool.not_eq_true', Bool.not_eq_false', Int.not_lt, Int.not_le, ne_eq, Decidable.not_not] at h2
      try have h2b := inB_iff.1 h2
      refine t_reg ?_
      refine to_mv rfl rfl ?_
      refine to_mv rfl rfl ?_
      refine to_bsl rfl rfl rfl rfl (fun a23 => ?_)
      refine to_app rfl rfl rfl (by simp [scals, scal]) (by decide) (by omega) (by decide) rfl (fun a24 c24 => ?_)
      refine to_as rfl rfl ?_
      refine to_nil ?_
      refine tn_blk ?_
      refine tn_code ?_
      refine t_reg ?_
      refine to_add rfl rfl (by omega) rfl ?_
      refine to_mv rfl rfl ?_
      refine to_nil ?_
      exact tn_loop2 ((i + 1, a24, c24)) [.row a24 ((sureK sh e i).length + 1) c24 3 1 (ints (sureK sh e i) ++ [[Value.int .i64 (i : Int)]]), .own b1 (isC (tbC sh pt (k : Int)) 86), .snap 0 w.heap.size w] (by dsimp only; rw [sureK_t hr (by assumption)]; simp) (by dsimp only; omega) (by dsimp only; omega) (⟨rfl, congrArg (fun z => some (Value.slice a24 z c24)) (by rw [sureK_t hr (by assumption)]; simp), rfl, rfl, trivial⟩)
    · try simp only [decide_eq_true_eq, decide_eq_false_iff_not, Bool.not_eq_true', Bool.not_eq_false', Int.not_lt, Int.not_le, ne_eq, Decidable.not_not] at h2
      try have h2b := inB_iff.1 h2
      refine t_skip ?_
      refine tn_blk ?_
      refine tn_code ?_
      refine t_reg ?_
      refine to_add rfl rfl (by omega) rfl ?_
      refine to_mv rfl rfl ?_
      refine to_nil ?_
      exact tn_loop2 ((i + 1, a', c')) [.row a' (sureK sh e i).length c' 3 1 (ints (sureK sh e i)), .own b1 (isC (tbC sh pt (k : Int)) 86), .snap 0 w.heap.size w] (by dsimp only; rw [sureK_f hr (by assumption)]) (by dsimp only; omega) (by dsimp only; omega) (⟨rfl, congrArg (fun z => some (Value.slice a' z c')) (by rw [sureK_f hr (by assumption)]), rfl, rfl, trivial⟩)
  · try simp only [decide_eq_true_eq, decide_eq_false_iff_not, Bool.not_eq_true', Bool.not_eq_false', Int.not_lt, Int.not_le, ne_eq, Decidable.not_not] at h1
    try have h1b := inB_iff.1 h1
    have hk2 : i = sh.rows.length := by omega
    subst hk2
    refine t_exit ?_
    refine tx_code ?_
    refine tx_inv ?_
    refine tx_blk ?_
    refine tn_code ?_
    refine t_seq ?_
    refine t_reg ?_
    refine to_mv rfl rfl ?_
    refine to_as rfl rfl ?_
    refine to_nil ?_
    refine tn_code ?_
    refine t_ret1 rfl rfl (res_tmp rfl) (fun w' s => ?_)
    exact rsl_of rfl (ro_row s)

set_option maxRecDepth 20000 in
theorem r_Sure_t (sh : Sh) (pt : Pt) (k : Nat) (e : Int) (w : World) (hre : Ro w 0 w.heap.size pt.ea sh.errs.length pt.ec 1 (ints sh.errs)) (hrr : Ro w 0 w.heap.size pt.ra sh.rows.length pt.rc 1 (ints sh.rows)) (hs : isSh sh = true) (he : sh.errs[k]? = some e) : Calls Tryz.prog 22 #[shV sh pt, (.int .i64 (k : Int))] w (Ret w (RSlE (sureL sh e) 0)) := by
  have heb := errs_b (isSh_e hs) e (List.mem_of_getElem? he)
  have hbb := isSh_b hs
  have hxe := map_get (f := intC) he
  have hke := (List.getElem?_eq_some_iff.1 he).1
  refine calls_T (av := [_, _]) Tryz.func22 rfl rfl rfl ?_
  refine t_seq ?_
  refine t_reg ?_
  refine to_box rfl rfl (fun b2 => ?_)
  refine to_as rfl rfl ?_
  refine to_as rfl rfl ?_
  refine to_nil ?_
  refine tn_code ?_
  refine t_seq ?_
  refine t_reg ?_
  first | refine to_lda rfl rfl rfl ?_ | refine to_ldea rfl (by assumption) rfl rfl ?_
  refine to_mv rfl rfl ?_
  refine to_call0 rfl rfl (fun w s => r_open_t sh pt k e w (rdw s) (rdw s) hs he) rfl ?_
  refine to_mv rfl rfl ?_
  refine to_ex rfl rfl rfl ?_
  refine to_ex rfl rfl rfl ?_
  refine to_alloc rfl (fun b6 => ?_)
  first | refine to_st rfl rfl rfl rfl ?_ | refine to_ste rfl rfl (by assumption) rfl rfl ?_
  refine to_as rfl rfl ?_
  refine to_nil ?_
  refine tn_code ?_
  refine t_seq ?_
  refine t_seq ?_
  refine t_reg ?_
  refine to_mv rfl rfl ?_
  refine to_neq rfl rfl rfl ?_
  refine to_fix (s := 15) (b' := false) rfl (rfl) ?_
  refine to_nil ?_
  refine tn_code ?_
  refine t_ifF rfl ?_
  refine t_skip ?_
  refine tn_code ?_
  refine t_seq ?_
  refine t_reg ?_
  first | refine to_lda rfl rfl rfl ?_ | refine to_ldea rfl (by assumption) rfl rfl ?_
  refine to_callR rfl rfl (fun w s => r_sure sh pt k e w (rdw s) (rdw s) hs he) rfl (fun v18 lo18 w18 hlo18 hR18 => ?_)
  obtain ⟨pa18, pc18, rfl, hro18⟩ := hR18
  refine to_as rfl rfl ?_
  refine to_as rfl rfl ?_
  refine to_nil ?_
  refine tn_code ?_
  refine t_ret2 rfl rfl (res_tmp rfl) (res_tmp rfl) (fun w' s => ?_)
  exact rsle_of rfl (ro_snap s (by assumption))

set_option maxRecDepth 20000 in
theorem r_Sure_f (sh : Sh) (pt : Pt) (gd : Int) (w : World) (hre : Ro w 0 w.heap.size pt.ea sh.errs.length pt.ec 1 (ints sh.errs)) (hrr : Ro w 0 w.heap.size pt.ra sh.rows.length pt.rc 1 (ints sh.rows)) (hl : sh.errs.length ≤ 1000000) (ho : okG sh gd = false) : Calls Tryz.prog 22 #[shV sh pt, (.int .i64 gd)] w (Ret w (RSlE [] 2)) := by
  refine calls_T (av := [_, _]) Tryz.func22 rfl rfl rfl ?_
  refine t_seq ?_
  refine t_reg ?_
  refine to_box rfl rfl (fun b2 => ?_)
  refine to_as rfl rfl ?_
  refine to_as rfl rfl ?_
  refine to_nil ?_
  refine tn_code ?_
  refine t_seq ?_
  refine t_reg ?_
  first | refine to_lda rfl rfl rfl ?_ | refine to_ldea rfl (by assumption) rfl rfl ?_
  refine to_mv rfl rfl ?_
  refine to_call0 rfl rfl (fun w s => r_open_f sh pt gd w (rdw s) (rdw s) hl ho) rfl ?_
  refine to_mv rfl rfl ?_
  refine to_ex rfl rfl rfl ?_
  refine to_ex rfl rfl rfl ?_
  refine to_alloc rfl (fun b6 => ?_)
  first | refine to_st rfl rfl rfl rfl ?_ | refine to_ste rfl rfl (by assumption) rfl rfl ?_
  refine to_as rfl rfl ?_
  refine to_nil ?_
  refine tn_code ?_
  refine t_seq ?_
  refine t_seq ?_
  refine t_reg ?_
  refine to_mv rfl rfl ?_
  refine to_neq rfl rfl rfl ?_
  refine to_fix (s := 15) (b' := true) rfl (rfl) ?_
  refine to_nil ?_
  refine tn_code ?_
  refine t_ifT rfl ?_
  refine t_seq ?_
  refine t_reg ?_
  refine to_mv rfl rfl ?_
  refine to_as rfl rfl ?_
  refine to_as rfl rfl ?_
  refine to_nil ?_
  refine tn_code ?_
  refine t_ret2 rfl rfl (res_tmp rfl) (res_tmp rfl) (fun w' s => ?_)
  exact ⟨_, _, rfl, Ro.nil _ _ _ _⟩

set_option maxRecDepth 20000 in
theorem r_least (sh : Sh) (pt : Pt) (q : Nat) (cp : List Value) (p : Int → Bool) (w : World) (hre : Ro w 0 w.heap.size pt.ea sh.errs.length pt.ec 1 (ints sh.errs)) (hrr : Ro w 0 w.heap.size pt.ra sh.rows.length pt.rc 1 (ints sh.rows)) (hs : isSh sh = true) [hf : FnOk Tryz.prog q] (hq : ∀ w', Below w.heap.size w w' → ∀ (j : Nat) e, sh.errs[j]? = some e → ∀ a c, Ro w' 0 w'.heap.size a (sureL sh e).length c 1 (ints (sureL sh e)) → Calls Tryz.prog q ([] ++ ([Value.slice a (sureL sh e).length c] ++ cp)).toArray w' (RetV w' (.bool (p e)))) : Calls Tryz.prog 75 #[shV sh pt, .func (.func q) ([] : List Value).toArray cp.toArray] w (RetV w (.tuple #[.int .i64 (leastP p sh.errs).1, .int .i64 (leastP p sh.errs).2])) := by
  have hbb := isSh_b hs
  refine calls_T0 (av := [_, _]) Tryz.func75 rfl rfl rfl ?_
  refine t_seq ?_
  refine t_reg ?_
  refine to_box rfl rfl (fun b2 => ?_)
  refine to_as rfl rfl ?_
  refine to_as rfl rfl ?_
  refine to_nil ?_
  refine tn_code ?_
  refine t_seq ?_
  refine t_seq ?_
  refine t_reg ?_
  first | refine to_fa rfl rfl rfl (by simp only [Nat.reduceAdd]; rfl) rfl ?_ | refine to_fae rfl rfl rfl (by simp only [Nat.reduceAdd]; rfl) rfl ?_
  first | refine to_lds rfl rfl rfl ?_ | refine to_ldes rfl (by assumption) rfl rfl ?_
  refine to_lenS rfl rfl ?_
  refine to_mv rfl rfl ?_
  refine to_nil ?_
  refine tn_code ?_
  refine t_blk ?_
  refine t_loop2 (ι := Nat) (fun k => k ≤ sh.errs.length ∧ ∀ j, j < k → ∀ y, sh.errs[j]? = some y → p y = false) (fun k => [(1, .func (.func q) ([] : List Value).toArray cp.toArray), (2, (.pointer (some ⟨b2, 0, none⟩))), (9, .int .i64 (sh.errs.length : Int)), (10, .int .i64 (k : Int))]) (fun k => [.own b2 (isC (shC sh pt) 33), .snap 0 w.heap.size w]) (fun k => sh.errs.length - k) (0) [.own b2 (isC (shC sh pt) 33), .snap 0 w.heap.size w] (rfl) (⟨Nat.zero_le _, fun j hj => absurd hj (Nat.not_lt_zero _)⟩) (⟨rfl, rfl, rfl, rfl, trivial⟩) ?_
  rintro k ⟨hk, hall⟩
  show T _ _ _ ⟨_, [(1, .func (.func q) ([] : List Value).toArray cp.toArray), (2, (.pointer (some ⟨b2, 0, none⟩))), (9, .int .i64 (sh.errs.length : Int)), (10, .int .i64 (k : Int))], _⟩ [.own b2 (isC (shC sh pt) 33), .snap 0 w.heap.size w]
  refine t_seq ?_
  refine t_reg ?_
  refine to_lss rfl rfl rfl ?_
  refine to_nil ?_
  refine tn_code ?_
  refine t_seq ?_
  refine t_if rfl (fun h1 => ?_) (fun h1 => ?_)
  · try simp only [decide_eq_true_eq, decide_eq_false_iff_not, Bool.not_eq_true', Bool.not_eq_false', Int.not_lt, Int.not_le, ne_eq, Decidable.not_not] at h1
    try have h1b := inB_iff.1 h1
    obtain ⟨e, he⟩ := some_get (xs := sh.errs) (k := k) (by omega)
    refine t_skip ?_
    refine tn_code ?_
    refine t_seq ?_
    refine t_blk ?_
    refine t_seq ?_
    refine t_reg ?_
    refine to_mv rfl rfl ?_
    refine to_as rfl rfl ?_
    refine to_nil ?_
    refine tn_code ?_
    refine t_seq ?_
    refine t_reg ?_
    refine to_mv rfl rfl ?_
    first | refine to_lda rfl rfl rfl ?_ | refine to_ldea rfl (by assumption) rfl rfl ?_
    refine to_mv rfl rfl ?_
    refine to_bs rfl rfl ?_
    refine to_callR rfl rfl (fun w s => r_sure sh pt k e w (rdw s) (rdw s) hs he) rfl (fun v17 lo17 w17 hlo17 hR17 => ?_)
    obtain ⟨pa17, pc17, rfl, hro17⟩ := hR17
    refine to_call0 rfl rfl (fun w s => hq w (s.below0 (by simp)) k e he _ _ (rdw s)) rfl ?_
    refine to_nil ?_
    refine tn_code ?_
    refine t_if rfl (fun h2 => ?_) (fun h2 => ?_)
    · try simp only [decide_eq_true_eq, decide_eq_false_iff_not, Bool.not_eq_true', Bool.not_eq_false', Int.not_lt, Int.not_le, ne_eq, Decidable.not_not] at h2
      try have h2b := inB_iff.1 h2
      have hfin := idxI_found hall he h2
      refine t_seq ?_
      refine t_reg ?_
      refine to_mv rfl rfl ?_
      refine to_as rfl rfl ?_
      refine to_as rfl rfl ?_
      refine to_nil ?_
      refine tn_code ?_
      refine t_ret2 rfl rfl (res_tmp rfl) (res_tmp rfl) (fun w' s => ?_)
      simp only [leastP, hfin]; first | rfl | (rw [if_neg (by omega)])
    · try simp only [decide_eq_true_eq, decide_eq_false_iff_not, Bool.not_eq_true', Bool.not_eq_false', Int.not_lt, Int.not_le, ne_eq, Decidable.not_not] at h2
      try have h2b := inB_iff.1 h2
      refine t_skip ?_
      refine tn_blk ?_
      refine tn_code ?_
      refine t_reg ?_
      refine to_add rfl rfl (by omega) rfl ?_
      refine to_mv rfl rfl ?_
      refine to_nil ?_
      exact tn_loop2 (k + 1) [.own b2 (isC (shC sh pt) 33), .snap 0 w.heap.size w] (rfl) (⟨by omega, all_succ hall (fun z hz => by rw [he] at hz; cases hz; assumption)⟩) (by omega) (⟨rfl, rfl, rfl, rfl, trivial⟩)
  · try simp only [decide_eq_true_eq, decide_eq_false_iff_not, Bool.not_eq_true', Bool.not_eq_false', Int.not_lt, Int.not_le, ne_eq, Decidable.not_not] at h1
    try have h1b := inB_iff.1 h1
    have hk2 : k = sh.errs.length := by omega
    subst hk2
    have hfin := idxI_none hall
    refine t_exit ?_
    refine tx_code ?_
    refine tx_inv ?_
    refine tx_blk ?_
    refine tn_code ?_
    refine t_seq ?_
    refine t_reg ?_
    refine to_as rfl rfl ?_
    refine to_as rfl rfl ?_
    refine to_nil ?_
    refine tn_code ?_
    refine t_ret2 rfl rfl (res_tmp rfl) (res_tmp rfl) (fun w' s => ?_)
    simp only [leastP, hfin]; first | rfl | (rw [if_neg (by omega)])

set_option maxRecDepth 20000 in
theorem r_Need1 (xs : List Int) (a : Option Addr) (c bb : Nat) (row : Int) (w : World) (hr : Ro w 0 w.heap.size a xs.length c 1 (ints xs)) (hn : xs.length ≤ 1000000) (hb : Rb w 0 w.heap.size bb [.int .i64 row]) : Calls Tryz.prog 76 #[.slice a xs.length c, (.pointer (some ⟨bb, 0, none⟩))] w (RetV w (.bool (xs.contains row))) := by
  refine calls_T0 (av := [_, _]) Tryz.func76 rfl rfl rfl ?_
  refine t_seq ?_
  refine t_reg ?_
  refine to_as rfl rfl ?_
  refine to_nil ?_
  refine tn_code ?_
  refine t_seq ?_
  refine t_reg ?_
  refine to_mv rfl rfl ?_
  first | refine to_lds rfl rfl rfl ?_ | refine to_ldes rfl (by assumption) rfl rfl ?_
  refine to_call0 rfl rfl (fun w s => conV _ _ _ _ w (rdw s) (by omega)) rfl ?_
  refine to_as rfl rfl ?_
  refine to_nil ?_
  refine tn_code ?_
  refine t_ret1 rfl rfl (res_tmp rfl) (fun w' s => ?_)
  rfl

set_option maxRecDepth 20000 in
theorem r_Guards1 (sh : Sh) (pt : Pt) (xs : List Int) (a : Option Addr) (c bb : Nat) (w : World) (hb : Rb w 0 w.heap.size bb (shC sh pt)) : Calls Tryz.prog 78 #[.slice a xs.length c, (.pointer (some ⟨bb, 0, none⟩))] w (RetV w (.bool (decide (xs.length = sh.rows.length)))) := by
  refine calls_T0 (av := [_, _]) Tryz.func78 rfl rfl rfl ?_
  refine t_seq ?_
  refine t_reg ?_
  refine to_as rfl rfl ?_
  refine to_nil ?_
  refine tn_code ?_
  refine t_seq ?_
  refine t_reg ?_
  refine to_mv rfl rfl ?_
  refine to_lenS rfl rfl ?_
  first | refine to_fa rfl rfl rfl (by simp only [Nat.reduceAdd]; rfl) rfl ?_ | refine to_fae rfl rfl rfl (by simp only [Nat.reduceAdd]; rfl) rfl ?_
  first | refine to_lds rfl rfl rfl ?_ | refine to_ldes rfl (by assumption) rfl rfl ?_
  refine to_lenS rfl rfl ?_
  refine to_eql rfl rfl rfl ?_
  refine to_as rfl rfl ?_
  refine to_nil ?_
  refine tn_code ?_
  refine t_ret1 rfl rfl (res_tmp rfl) (fun w' s => ?_)
  simp; omega

def rNeed (sh : Sh) (row : Int) : Int × Int := if isSh sh && inB row 0 (sh.rows.length - 1) then leastP (fun e => (sureL sh e).contains row) sh.errs else (0, 2)
def rGuards (sh : Sh) : Int × Int := if isSh sh then leastP (fun e => decide ((sureL sh e).length = sh.rows.length)) sh.errs else (0, 2)

set_option maxRecDepth 20000 in
theorem r_Need (sh : Sh) (pt : Pt) (row : Int) (w : World) (hre : Ro w 0 w.heap.size pt.ea sh.errs.length pt.ec 1 (ints sh.errs)) (hrr : Ro w 0 w.heap.size pt.ra sh.rows.length pt.rc 1 (ints sh.rows)) (hl : sh.rows.length ≤ 1000000) : Calls Tryz.prog 37 #[shV sh pt, (.int .i64 row)] w (RetV w (.tuple #[.int .i64 (rNeed sh row).1, .int .i64 (rNeed sh row).2])) := by
  refine calls_T0 (av := [_, _]) Tryz.func37 rfl rfl rfl ?_
  refine t_seq ?_
  refine t_reg ?_
  refine to_box rfl rfl (fun b2 => ?_)
  refine to_box rfl rfl (fun b3 => ?_)
  refine to_as rfl rfl ?_
  refine to_as rfl rfl ?_
  refine to_nil ?_
  refine tn_code ?_
  refine t_seq ?_
  refine t_seq ?_
  refine t_reg ?_
  first | refine to_lda rfl rfl rfl ?_ | refine to_ldea rfl (by assumption) rfl rfl ?_
  refine to_call0 rfl rfl (fun w s => r_isSheet sh pt w (rdw s) (rdw s)) rfl ?_
  refine to_not rfl rfl ?_
  refine to_mv rfl rfl ?_
  refine to_gs rfl rfl rfl (fun h1 => ?_) (fun h1 => ?_)
  · try simp only [decide_eq_true_eq, decide_eq_false_iff_not, Bool.not_eq_true', Bool.not_eq_false', Int.not_lt, Int.not_le, ne_eq, Decidable.not_not] at h1
    try have h1b := inB_iff.1 h1
    refine to_gf rfl rfl rfl rfl ?_
    refine to_gf rfl rfl rfl rfl ?_
    refine to_gf rfl rfl rfl rfl ?_
    refine to_gf rfl rfl rfl rfl ?_
    refine to_gf rfl rfl rfl rfl ?_
    refine to_gf rfl rfl rfl rfl ?_
    refine to_gf rfl rfl rfl rfl ?_
    refine to_pkT rfl rfl rfl ?_
    refine to_nil ?_
    refine tn_code ?_
    refine t_ifT rfl ?_
    refine t_seq ?_
    refine t_reg ?_
    refine to_as rfl rfl ?_
    refine to_as rfl rfl ?_
    refine to_nil ?_
    refine tn_code ?_
    refine t_ret2 rfl rfl (res_tmp rfl) (res_tmp rfl) (fun w' s => ?_)
    simp_all [rNeed]
  · try simp only [decide_eq_true_eq, decide_eq_false_iff_not, Bool.not_eq_true', Bool.not_eq_false', Int.not_lt, Int.not_le, ne_eq, Decidable.not_not] at h1
    try have h1b := inB_iff.1 h1
    have hs := h1
    refine to_gt rfl rfl ?_
    first | refine to_lds rfl rfl rfl ?_ | refine to_ldes rfl (by assumption) rfl rfl ?_
    refine to_gt rfl rfl ?_
    first | refine to_fa rfl rfl rfl (by simp only [Nat.reduceAdd]; rfl) rfl ?_ | refine to_fae rfl rfl rfl (by simp only [Nat.reduceAdd]; rfl) rfl ?_
    refine to_gt rfl rfl ?_
    first | refine to_lds rfl rfl rfl ?_ | refine to_ldes rfl (by assumption) rfl rfl ?_
    refine to_gt rfl rfl ?_
    refine to_lenS rfl rfl ?_
    refine to_gt rfl rfl ?_
    refine to_sub rfl rfl (by omega) rfl ?_
    refine to_gt rfl rfl ?_
    refine to_call0 rfl rfl (fun w s => r_in _ _ _ w) rfl ?_
    refine to_gt rfl rfl ?_
    refine to_not rfl rfl ?_
    refine to_pkF rfl rfl rfl ?_
    refine to_nil ?_
    refine tn_code ?_
    refine t_if rfl (fun h2 => ?_) (fun h2 => ?_)
    · try simp only [decide_eq_true_eq, decide_eq_false_iff_not, Bool.not_eq_true', Bool.not_eq_false', Int.not_lt, Int.not_le, ne_eq, Decidable.not_not] at h2
      try have h2b := inB_iff.1 h2
      refine t_seq ?_
      refine t_reg ?_
      refine to_as rfl rfl ?_
      refine to_as rfl rfl ?_
      refine to_nil ?_
      refine tn_code ?_
      refine t_ret2 rfl rfl (res_tmp rfl) (res_tmp rfl) (fun w' s => ?_)
      simp_all [rNeed]
    · try simp only [decide_eq_true_eq, decide_eq_false_iff_not, Bool.not_eq_true', Bool.not_eq_false', Int.not_lt, Int.not_le, ne_eq, Decidable.not_not] at h2
      try have h2b := inB_iff.1 h2
      have hbb := isSh_b hs
      refine t_skip ?_
      refine tn_code ?_
      refine t_seq ?_
      refine t_reg ?_
      first | refine to_lda rfl rfl rfl ?_ | refine to_ldea rfl (by assumption) rfl rfl ?_
      refine to_mf rfl rfl rfl ?_
      refine to_call0 rfl rfl (fun w s => r_least sh pt _ _ (fun e => (sureL sh e).contains row) w (rdw s) (rdw s) hs (fun w' hb j e he a c hro => r_Need1 _ a c b3 row w' hro (by have := sureK_len sh e sh.rows.length; simp only [sureL]; omega) (rbw (s.below hb)))) rfl ?_
      refine to_ex rfl rfl rfl ?_
      refine to_ex rfl rfl rfl ?_
      refine to_as rfl rfl ?_
      refine to_as rfl rfl ?_
      refine to_nil ?_
      refine tn_code ?_
      refine t_ret2 rfl rfl (res_tmp rfl) (res_tmp rfl) (fun w' s => ?_)
      simp_all [rNeed]

set_option maxRecDepth 20000 in
theorem r_Guards (sh : Sh) (pt : Pt) (w : World) (hre : Ro w 0 w.heap.size pt.ea sh.errs.length pt.ec 1 (ints sh.errs)) (hrr : Ro w 0 w.heap.size pt.ra sh.rows.length pt.rc 1 (ints sh.rows)) : Calls Tryz.prog 38 #[shV sh pt] w (RetV w (.tuple #[.int .i64 (rGuards sh).1, .int .i64 (rGuards sh).2])) := by
  refine calls_T0 (av := [_]) Tryz.func38 rfl rfl rfl ?_
  refine t_seq ?_
  refine t_reg ?_
  refine to_box rfl rfl (fun b1 => ?_)
  refine to_as rfl rfl ?_
  refine to_as rfl rfl ?_
  refine to_nil ?_
  refine tn_code ?_
  refine t_seq ?_
  refine t_seq ?_
  refine t_reg ?_
  first | refine to_lda rfl rfl rfl ?_ | refine to_ldea rfl (by assumption) rfl rfl ?_
  refine to_call0 rfl rfl (fun w s => r_isSheet sh pt w (rdw s) (rdw s)) rfl ?_
  refine to_not rfl rfl ?_
  refine to_nil ?_
  refine tn_code ?_
  refine t_if rfl (fun h1 => ?_) (fun h1 => ?_)
  · try simp only [decide_eq_true_eq, decide_eq_false_iff_not, Bool.not_eq_true', Bool.not_eq_false', Int.not_lt, Int.not_le, ne_eq, Decidable.not_not] at h1
    try have h1b := inB_iff.1 h1
    refine t_seq ?_
    refine t_reg ?_
    refine to_as rfl rfl ?_
    refine to_as rfl rfl ?_
    refine to_nil ?_
    refine tn_code ?_
    refine t_ret2 rfl rfl (res_tmp rfl) (res_tmp rfl) (fun w' s => ?_)
    simp_all [rGuards]
  · try simp only [decide_eq_true_eq, decide_eq_false_iff_not, Bool.not_eq_true', Bool.not_eq_false', Int.not_lt, Int.not_le, ne_eq, Decidable.not_not] at h1
    try have h1b := inB_iff.1 h1
    have hs := h1
    have hbb := isSh_b hs
    refine t_skip ?_
    refine tn_code ?_
    refine t_seq ?_
    refine t_reg ?_
    first | refine to_lda rfl rfl rfl ?_ | refine to_ldea rfl (by assumption) rfl rfl ?_
    refine to_mf rfl rfl rfl ?_
    refine to_call0 rfl rfl (fun w s => r_least sh pt _ _ (fun e => decide ((sureL sh e).length = sh.rows.length)) w (rdw s) (rdw s) hs (fun w' hb j e he a c hro => r_Guards1 sh pt _ a c b1 w' (rbw (s.below hb)))) rfl ?_
    refine to_ex rfl rfl rfl ?_
    refine to_ex rfl rfl rfl ?_
    refine to_as rfl rfl ?_
    refine to_as rfl rfl ?_
    refine to_nil ?_
    refine tn_code ?_
    refine t_ret2 rfl rfl (res_tmp rfl) (res_tmp rfl) (fun w' s => ?_)
    simp_all [rGuards]

end Go.Proofs


namespace Go.Proofs
open Go Go.Sx Go.RowKit

set_option maxRecDepth 20000 in
theorem r_best (xs : List Int) (a : Option Addr) (c q : Nat) (cp : List Value) (p : Int → Int → Bool) (w : World) [hfq : FnOk Tryz.prog q] (hr : Ro w 0 w.heap.size a xs.length c 1 (ints xs)) (hn : 1 ≤ xs.length ∧ xs.length ≤ 10000000) (hq : ∀ w', Below w.heap.size w w' → ∀ y o, y ∈ xs → o ∈ xs → Calls Tryz.prog q ([] ++ ([Value.int .i64 y, Value.int .i64 o] ++ cp)).toArray w' (RetV w' (.bool (p y o)))) : Calls Tryz.prog 112 #[.slice a xs.length c, .func (.func q) ([] : List Value).toArray cp.toArray] w (RetV w (.int .i64 (bestI p xs))) := by
  obtain ⟨z, hz⟩ := some_get (xs := xs) (k := 0) (by omega)
  have hx0 := map_get (f := intC) hz
  have hb0 : bestK p xs 0 = z := by
    cases xs with
    | nil => simp at hz
    | cons u us => simp at hz; subst hz; simp [bestK]
  refine calls_T0 (av := [_, _]) Tryz.func112 rfl rfl rfl ?_
  refine t_seq ?_
  refine t_reg ?_
  refine to_as rfl rfl ?_
  refine to_nil ?_
  refine tn_code ?_
  refine t_seq ?_
  refine t_reg ?_
  refine to_mv rfl rfl ?_
  first | refine to_ix rfl rfl rfl (by first | omega | decide) (by first | omega | decide) rfl ?_ | refine to_ixi rfl rfl rfl (by omega) (by omega) (by omega) rfl ?_
  first | refine to_lds rfl rfl rfl ?_ | refine to_ldes rfl (by assumption) rfl rfl ?_
  refine to_as rfl rfl ?_
  refine to_nil ?_
  refine tn_code ?_
  refine t_seq ?_
  refine t_seq ?_
  refine t_reg ?_
  refine to_mv rfl rfl ?_
  refine to_slL rfl rfl hn.1 rfl (fun a12 hS12 => ?_)
  refine to_lenS rfl rfl ?_
  refine to_mv rfl rfl ?_
  refine to_nil ?_
  refine tn_code ?_
  refine t_blk ?_
  refine t_loop2 (ι := Nat) (fun k => k ≤ xs.length - 1 ∧ bestK p xs k ∈ xs) (fun k => [(1, .func (.func q) ([] : List Value).toArray cp.toArray), (5, .int .i64 (bestK p xs k)), (12, .slice a12 (xs.length - 1) (c - 1)), (13, .int .i64 ((xs.length - 1 : Nat) : Int)), (14, .int .i64 (k : Int))]) (fun k => [.snap 0 w.heap.size w]) (fun k => xs.length - 1 - k) (0) [.snap 0 w.heap.size w] (rfl) (⟨Nat.zero_le _, by rw [hb0]; exact List.mem_of_getElem? hz⟩) (⟨rfl, congrArg (fun z => some (Value.int .i64 z)) hb0.symm, rfl, rfl, rfl, trivial⟩) ?_
  rintro k ⟨hk, hmem⟩
  show T _ _ _ ⟨_, [(1, .func (.func q) ([] : List Value).toArray cp.toArray), (5, .int .i64 (bestK p xs k)), (12, .slice a12 (xs.length - 1) (c - 1)), (13, .int .i64 ((xs.length - 1 : Nat) : Int)), (14, .int .i64 (k : Int))], _⟩ [.snap 0 w.heap.size w]
  refine t_seq ?_
  refine t_reg ?_
  refine to_lss rfl rfl rfl ?_
  refine to_nil ?_
  refine tn_code ?_
  refine t_seq ?_
  refine t_if rfl (fun h1 => ?_) (fun h1 => ?_)
  · try simp only [decide_eq_true_eq, decide_eq_false_iff_not, Bool.not_eq_true', Bool.not_eq_false', Int.not_lt, Int.not_le, ne_eq, Decidable.not_not] at h1
    try have h1b := inB_iff.1 h1
    obtain ⟨y, hy⟩ := some_get (xs := xs) (k := k + 1) (by omega)
    have hx : ((ints xs).drop 1)[k]? = some (intC y) := by rw [List.getElem?_drop, Nat.add_comm]; exact map_get (f := intC) hy
    refine t_skip ?_
    refine tn_code ?_
    refine t_seq ?_
    refine t_blk ?_
    refine t_seq ?_
    refine t_reg ?_
    first | refine to_ix rfl rfl rfl (by first | omega | decide) (by first | omega | decide) rfl ?_ | refine to_ixi rfl rfl rfl (by omega) (by omega) (by omega) rfl ?_
    first | refine to_lds rfl rfl rfl ?_ | refine to_ldes rfl (by assumption) rfl rfl ?_
    refine to_as rfl rfl ?_
    refine to_nil ?_
    refine tn_code ?_
    refine t_seq ?_
    refine t_reg ?_
    refine to_mv rfl rfl ?_
    refine to_mv rfl rfl ?_
    refine to_mv rfl rfl ?_
    refine to_call0 rfl rfl (fun w s => hq w (below_of s) y _ (List.mem_of_getElem? hy) hmem) rfl ?_
    refine to_nil ?_
    refine tn_code ?_
    refine t_if rfl (fun h2 => ?_) (fun h2 => ?_)
    · try simp only [decide_eq_true_eq, decide_eq_false_iff_not, Bool.not_eq_true', Bool.not_eq_false', Int.not_lt, Int.not_le, ne_eq, Decidable.not_not] at h2
      try have h2b := inB_iff.1 h2
      refine t_reg ?_
      refine to_mv rfl rfl ?_
      refine to_as rfl rfl ?_
      refine to_nil ?_
      refine tn_blk ?_
      refine tn_code ?_
      refine t_reg ?_
      refine to_add rfl rfl (by omega) rfl ?_
      refine to_mv rfl rfl ?_
      refine to_nil ?_
      exact tn_loop2 (k + 1) [.snap 0 w.heap.size w] (rfl) (⟨by omega, by rw [bestK_succ hy, if_pos (by assumption)]; exact List.mem_of_getElem? hy⟩) (by omega) (⟨rfl, congrArg (fun z => some (Value.int .i64 z)) ((bestK_succ hy).trans (if_pos (by assumption))).symm, rfl, rfl, rfl, trivial⟩)
    · try simp only [decide_eq_true_eq, decide_eq_false_iff_not, Bool.not_eq_true', Bool.not_eq_false', Int.not_lt, Int.not_le, ne_eq, Decidable.not_not] at h2
      try have h2b := inB_iff.1 h2
      refine t_skip ?_
      refine tn_blk ?_
      refine tn_code ?_
      refine t_reg ?_
      refine to_add rfl rfl (by omega) rfl ?_
      refine to_mv rfl rfl ?_
      refine to_nil ?_
      exact tn_loop2 (k + 1) [.snap 0 w.heap.size w] (rfl) (⟨by omega, by rw [bestK_succ hy, if_neg (by simp [h2])]; exact hmem⟩) (by omega) (⟨rfl, congrArg (fun z => some (Value.int .i64 z)) ((bestK_succ hy).trans (if_neg (by simp [h2]))).symm, rfl, rfl, rfl, trivial⟩)
  · try simp only [decide_eq_true_eq, decide_eq_false_iff_not, Bool.not_eq_true', Bool.not_eq_false', Int.not_lt, Int.not_le, ne_eq, Decidable.not_not] at h1
    try have h1b := inB_iff.1 h1
    have hk2 : k = xs.length - 1 := by omega
    subst hk2
    refine t_exit ?_
    refine tx_code ?_
    refine tx_inv ?_
    refine tx_blk ?_
    refine tn_code ?_
    refine t_seq ?_
    refine t_reg ?_
    refine to_mv rfl rfl ?_
    refine to_as rfl rfl ?_
    refine to_nil ?_
    refine tn_code ?_
    refine t_ret1 rfl rfl (res_tmp rfl) (fun w' s => ?_)
    rfl

set_option maxRecDepth 20000 in
theorem r_ends1 (x y : Int) (w : World)  : Calls Tryz.prog 113 #[(.int .i64 x), (.int .i64 y)] w (RetV w (.bool (decide (x < y)))) := by
  refine calls_T0 (av := [_, _]) Tryz.func113 rfl rfl rfl ?_
  refine t_seq ?_
  refine t_reg ?_
  refine to_as rfl rfl ?_
  refine to_nil ?_
  refine tn_code ?_
  refine t_seq ?_
  refine t_reg ?_
  refine to_mv rfl rfl ?_
  refine to_mv rfl rfl ?_
  refine to_lss rfl rfl rfl ?_
  refine to_as rfl rfl ?_
  refine to_nil ?_
  refine tn_code ?_
  refine t_ret1 rfl rfl (res_tmp rfl) (fun w' s => ?_)
  rfl

set_option maxRecDepth 20000 in
theorem r_ends2 (x y : Int) (w : World)  : Calls Tryz.prog 114 #[(.int .i64 x), (.int .i64 y)] w (RetV w (.bool (decide (x > y)))) := by
  refine calls_T0 (av := [_, _]) Tryz.func114 rfl rfl rfl ?_
  refine t_seq ?_
  refine t_reg ?_
  refine to_as rfl rfl ?_
  refine to_nil ?_
  refine tn_code ?_
  refine t_seq ?_
  refine t_reg ?_
  refine to_mv rfl rfl ?_
  refine to_mv rfl rfl ?_
  refine to_gtr rfl rfl rfl ?_
  refine to_as rfl rfl ?_
  refine to_nil ?_
  refine tn_code ?_
  refine t_ret1 rfl rfl (res_tmp rfl) (fun w' s => ?_)
  rfl

set_option maxRecDepth 20000 in
theorem r_ends (xs : List Int) (a : Option Addr) (c : Nat) (v : Sp) (w : World) (hr : Ro w 0 w.heap.size a xs.length c 1 (ints xs)) (hn : 1 ≤ xs.length ∧ xs.length ≤ 10000000) (hv : IsE (fun x => x ∈ xs) (some v)) : Calls Tryz.prog 92 #[.slice a xs.length c] w (RetV w (spanV v)) := by
  have hvq : v = (bestI (fun a b => decide (a < b)) xs, bestI (fun a b => decide (a > b)) xs) := Option.some.inj (isE_uniq hv (best_ends hn.1))
  subst hvq
  refine calls_T0 (av := [_]) Tryz.func92 rfl rfl rfl ?_
  refine t_seq ?_
  refine t_reg ?_
  refine to_alloc rfl (fun b2 => ?_)
  refine to_nil ?_
  refine tn_code ?_
  refine t_seq ?_
  refine t_reg ?_
  refine to_mv rfl rfl ?_
  refine to_call0 rfl rfl (fun w s => r_best xs _ _ _ [] (fun a b => decide (a < b)) w (rdw s) hn (fun w' hb y o _ _ => r_ends1 y o w')) rfl ?_
  refine to_mv rfl rfl ?_
  refine to_call0 rfl rfl (fun w s => r_best xs _ _ _ [] (fun a b => decide (a > b)) w (rdw s) hn (fun w' hb y o _ _ => r_ends2 y o w')) rfl ?_
  refine to_bs rfl rfl ?_
  first | refine to_st rfl rfl rfl rfl ?_ | refine to_ste rfl rfl (by assumption) rfl rfl ?_
  refine to_nil ?_
  refine tn_code ?_
  refine t_ret1 rfl rfl (res_cellA rfl rfl) (fun w' s => ?_)
  rfl

set_option maxRecDepth 20000 in
theorem r_exact (sh : Sh) (pt : Pt) (gd row : Int) (w : World)  : Calls Tryz.prog 91 #[tbV sh pt gd, (.int .i64 row)] w (Ret w (fun lo w1 v => ∃ bb b2, v = .func (.func 111) #[] #[.pointer (some ⟨bb, 0, none⟩), .pointer (some ⟨b2, 0, none⟩)] ∧ Rb w1 lo w1.heap.size bb (tbC sh pt gd) ∧ Rb w1 lo w1.heap.size b2 [.int .i64 row])) := by
  refine calls_T (av := [_, _]) Tryz.func91 rfl rfl rfl ?_
  refine t_seq ?_
  refine t_reg ?_
  refine to_box rfl rfl (fun b2 => ?_)
  refine to_box rfl rfl (fun b3 => ?_)
  refine to_as rfl rfl ?_
  refine to_nil ?_
  refine tn_code ?_
  refine t_seq ?_
  refine t_reg ?_
  refine to_mf rfl rfl rfl ?_
  refine to_as rfl rfl ?_
  refine to_nil ?_
  refine tn_code ?_
  refine t_ret1 rfl rfl (res_tmp rfl) (fun w' s => ?_)
  exact ⟨_, _, rfl, rb_own0 s, rb_own0 s⟩

set_option maxRecDepth 20000 in
theorem ex_seq (sh : Sh) (pt : Pt) (k i : Nat) (e r : Int) (bb b2 y : Nat) (w : World) (I : List Int → World → Prop) (F : List PanicEntry → World → Prop) (hIc : ∀ L, Cong w.heap.size (I L)) (hIb : ∀ L, RbP (I L) 0 w.heap.size bb (tbC sh pt (k : Int))) (hIi : ∀ L, RbP (I L) 0 w.heap.size b2 [.int .i64 (i : Int)]) (hIe : ∀ L, RoP (I L) 0 w.heap.size pt.ea sh.errs.length pt.ec 1 (ints sh.errs)) (hIr : ∀ L, RoP (I L) 0 w.heap.size pt.ra sh.rows.length pt.rc 1 (ints sh.rows)) (hs : isSh sh = true) (he : sh.errs[k]? = some e) (hr : sh.rows[i]? = some r) (hY : ∀ n C w', n :: C <:+ exL e r → I (n :: C) w' → w.heap.size ≤ w'.heap.size → YC Tryz.prog y #[.int .i64 n] w' (ItX (.bool true) w.heap.size (I C) F w')) (hI0 : I (exL e r) w) : Calls Tryz.prog 111 #[.func (.yield y) #[] #[], (.pointer (some ⟨bb, 0, none⟩)), (.pointer (some ⟨b2, 0, none⟩))] w (ItX (.tuple #[]) w.heap.size (I []) F w) := by
  have heb := errs_b (isSh_e hs) e (List.mem_of_getElem? he)
  have hbb := isSh_b hs
  have hxe := map_get (f := intC) he
  have hke := (List.getElem?_eq_some_iff.1 he).1
  have hrb := isSh_r hs (List.mem_of_getElem? hr)
  have hxr := map_get (f := intC) hr
  have hir := (List.getElem?_eq_some_iff.1 hr).1
  refine calls_TG (av := [_, _, _]) Tryz.func111 rfl rfl rfl (St.startB (Nat.le_refl _) hI0) ?_
  refine t_seq ?_
  refine t_reg ?_
  first | refine to_lda rfl rfl rfl ?_ | refine to_ldea rfl (by assumption) rfl rfl ?_
  first | refine to_lds rfl rfl rfl ?_ | refine to_ldes rfl (by assumption) rfl rfl ?_
  refine to_call0 rfl rfl (fun w s => r_bounds sh pt k e i r w (rdw s) (rdw s) hs he hr) rfl ?_
  refine to_alloc rfl (fun b4 => ?_)
  first | refine to_st rfl rfl rfl rfl ?_ | refine to_ste rfl rfl (by assumption) rfl rfl ?_
  refine to_nil ?_
  refine tn_code ?_
  refine t_seq ?_
  refine t_reg ?_
  first | refine to_fa rfl rfl rfl (by simp only [Nat.reduceAdd]; rfl) rfl ?_ | refine to_fae rfl rfl rfl (by simp only [Nat.reduceAdd]; rfl) rfl ?_
  first | refine to_lds rfl rfl rfl ?_ | refine to_ldes rfl (by assumption) rfl rfl ?_
  refine to_as rfl rfl ?_
  refine to_nil ?_
  refine tn_code ?_
  refine t_blk ?_
  refine t_loop2 (ι := Nat) (fun j => j ≤ (2 * e + 1).toNat) (fun j => [(0, .func (.yield y) #[] #[]), (4, (.pointer (some ⟨b4, 0, none⟩))), (5, .int .i64 (r - e + (j : Int)))]) (fun j => [.own b4 (isC [.int .i64 (r - e), .int .i64 (r + e)] 53), .reg 0 w.heap.size (I (rngN (r - e + (j : Nat)) ((2 * e + 1).toNat - (j)))), .snap w.heap.size w.heap.size w]) (fun j => (2 * e + 1).toNat - j) (0) [.own b4 (isC [.int .i64 (r - e), .int .i64 (r + e)] 53), .reg 0 w.heap.size (I (exL e r)), .snap w.heap.size w.heap.size w] (by simp [exL]) (Nat.zero_le _) (⟨rfl, rfl, congrArg (fun z => some (Value.int .i64 z)) (Int.add_zero (r - e)).symm, trivial⟩) ?_
  rintro j hk
  show T _ _ _ ⟨_, [(0, .func (.yield y) #[] #[]), (4, (.pointer (some ⟨b4, 0, none⟩))), (5, .int .i64 (r - e + (j : Int)))], _⟩ [.own b4 (isC [.int .i64 (r - e), .int .i64 (r + e)] 53), .reg 0 w.heap.size (I (rngN (r - e + (j : Nat)) ((2 * e + 1).toNat - (j)))), .snap w.heap.size w.heap.size w]
  refine t_seq ?_
  refine t_seq ?_
  refine t_reg ?_
  refine to_mv rfl rfl ?_
  first | refine to_fa rfl rfl rfl (by simp only [Nat.reduceAdd]; rfl) rfl ?_ | refine to_fae rfl rfl rfl (by simp only [Nat.reduceAdd]; rfl) rfl ?_
  first | refine to_lds rfl rfl rfl ?_ | refine to_ldes rfl (by assumption) rfl rfl ?_
  refine to_leq rfl rfl rfl ?_
  refine to_nil ?_
  refine tn_code ?_
  refine t_if rfl (fun h1 => ?_) (fun h1 => ?_)
  · try simp only [decide_eq_true_eq, decide_eq_false_iff_not, Bool.not_eq_true', Bool.not_eq_false', Int.not_lt, Int.not_le, ne_eq, Decidable.not_not] at h1
    try have h1b := inB_iff.1 h1
    have hjN : j < (2 * e + 1).toNat := by omega
    refine t_skip ?_
    refine tn_code ?_
    refine t_seq ?_
    refine t_blk ?_
    refine t_seq ?_
    refine t_reg ?_
    refine to_mv rfl rfl ?_
    refine to_mv rfl rfl ?_
    refine to_callYX (p1 := I (rngN (r - e + (j + 1 : Nat)) ((2 * e + 1).toNat - (j + 1)))) (F := F) rfl rfl rfl (fun w2 s => hY _ _ w2 (by rw [← rng_cons hjN]; exact rng_sfx _ _ _) (by rw [← rng_cons hjN]; exact s.regp (hIc _)) s.ge) rfl ?_ (fun ch a w' hF hk ea => ⟨ea.ds, hk, .inr ⟨ch, rfl, hF⟩⟩)
    refine to_not rfl rfl ?_
    refine to_nil ?_
    refine tn_code ?_
    refine t_ifF rfl ?_
    refine t_skip ?_
    refine tn_blk ?_
    refine tn_code ?_
    refine t_reg ?_
    refine to_mv rfl rfl ?_
    refine to_add rfl rfl (by omega) rfl ?_
    refine to_as rfl rfl ?_
    refine to_nil ?_
    exact tn_loop2 (j + 1) [.own b4 (isC [.int .i64 (r - e), .int .i64 (r + e)] 53), .reg 0 w.heap.size (I (rngN (r - e + (j + 1 : Nat)) ((2 * e + 1).toNat - (j + 1)))), .snap w.heap.size w.heap.size w] (rfl) (by omega) (by omega) (⟨rfl, rfl, congrArg (fun z => some (Value.int .i64 z)) (Int.add_assoc (r - e) j 1), trivial⟩)
  · try simp only [decide_eq_true_eq, decide_eq_false_iff_not, Bool.not_eq_true', Bool.not_eq_false', Int.not_lt, Int.not_le, ne_eq, Decidable.not_not] at h1
    try have h1b := inB_iff.1 h1
    have hjN : (2 * e + 1).toNat ≤ j := by omega
    refine t_exit ?_
    refine tx_code ?_
    refine tx_inv ?_
    refine tx_blk ?_
    exact t_end0G rfl rfl (fun w' s => ⟨keep_of s, .inl ⟨rfl, by have := s.regp (hIc _); rwa [rng_nil hjN] at this⟩⟩)

end Go.Proofs


namespace Go.Proofs
open Go Go.Sx Go.RowKit

def RMap (sh : Sh) (e : Int) (fm : Nat) : Nat → World → Value → Prop := fun lo w1 v => ∃ r l c, v = .map (some r) ∧ NB w1 lo w1.heap.size r l c ∧ OkN l c (sumO (fig sh) e (sh.rows.drop fm))
theorem takeD_snoc {xs : List Int} {fm i : Nat} {r : Int} (h : xs[fm + i]? = some r) : (xs.drop fm).take (i + 1) = (xs.drop fm).take i ++ [r] := take_snoc (by rw [List.getElem?_drop]; exact h)
/-- What a map of a part of the rows holds is small. -/
theorem sums_bd {sh : Sh} {e : Int} {rs : List Int} (hs : isSh sh = true) (he : 0 ≤ e ∧ e ≤ 8) (hr : ∀ r ∈ rs, r ∈ sh.rows) (hl : rs.length ≤ 5) {k : Int} {v : Sp} (h : sumO (fig sh) e rs k = some v) :
    (-500045 ≤ k ∧ k ≤ 500045) ∧ (-500045 ≤ v.1 ∧ v.1 ≤ 500045) ∧ (-500045 ≤ v.2 ∧ v.2 ≤ 500045) :=
  sumO_bd he (fun n hn => fig_b hs hn) (fun r h => isSh_r hs (hr r h)) hl h

set_option maxRecDepth 20000 in
theorem r_sums (sh : Sh) (pt : Pt) (k : Nat) (e : Int) (fm : Nat) (w : World) (hre : Ro w 0 w.heap.size pt.ea sh.errs.length pt.ec 1 (ints sh.errs)) (hrr : Ro w 0 w.heap.size pt.ra sh.rows.length pt.rc 1 (ints sh.rows)) (hs : isSh sh = true) (he : sh.errs[k]? = some e) (hfm : fm ≤ sh.rows.length) : Calls Tryz.prog 86 #[tbV sh pt (k : Int), (.int .i64 (fm : Int))] w (Ret w (RMap sh e fm)) := by
  have heb := errs_b (isSh_e hs) e (List.mem_of_getElem? he)
  have hbb := isSh_b hs
  have hxe := map_get (f := intC) he
  have hke := (List.getElem?_eq_some_iff.1 he).1
  refine calls_TM (av := [_, _]) Tryz.func86 rfl rfl rfl ?_
  refine t_seq ?_
  refine t_reg ?_
  refine to_box rfl rfl (fun b2 => ?_)
  refine to_as rfl rfl ?_
  refine to_nil ?_
  refine tn_code ?_
  refine t_seq ?_
  refine t_reg ?_
  refine to_mkN rfl (fun r15 => ?_)
  refine to_bs rfl rfl ?_
  refine to_insN rfl rfl rfl ?_
  refine to_mv rfl rfl ?_
  refine to_alloc rfl (fun b5 => ?_)
  first | refine to_st rfl rfl rfl rfl ?_ | refine to_ste rfl rfl (by assumption) rfl rfl ?_
  refine to_nil ?_
  refine tn_code ?_
  refine t_seq ?_
  refine t_seq ?_
  refine t_reg ?_
  refine to_mv rfl rfl ?_
  refine to_as rfl rfl ?_
  refine to_nil ?_
  refine tn_code ?_
  refine t_blk ?_
  refine t_loopD (ι := Nat × Nat × List Nat) (fun ((i, ro, Ds) : Nat × Nat × List Nat) => marks Ds) (fun ((i, ro, Ds) : Nat × Nat × List Nat) => fm + i ≤ sh.rows.length) (fun ((i, ro, Ds) : Nat × Nat × List Nat) => [(2, (.pointer (some ⟨b2, 0, none⟩))), (5, (.pointer (some ⟨b5, 0, none⟩))), (6, (.int .i64 ((fm + i : Nat) : Int)))]) (fun ((i, ro, Ds) : Nat × Nat × List Nat) => (.own b5 (isC [.map (some ro)] 102) :: .own ro (isN (sumO (fig sh) e ((sh.rows.drop fm).take i))) :: .own b2 (isC (tbC sh pt (k : Int)) 86) :: .snap 0 w.heap.size w :: dfs Ds)) (fun ((i, ro, Ds) : Nat × Nat × List Nat) => sh.rows.length - i) ((0, r15, [])) (.own b5 (isC [.map (some r15)] 102) :: .own r15 (isN (updO (fun _ => none) 0 (0, 0))) :: .own b2 (isC (tbC sh pt (k : Int)) 86) :: .snap 0 w.heap.size w :: []) (rfl) (by dsimp only; omega) (rfl) ⟨rfl, rfl, rfl, trivial⟩ ?_
  rintro ⟨i, ro, Ds⟩ hk
  try dsimp only at hk
  show T _ _ _ ⟨_, [(2, (.pointer (some ⟨b2, 0, none⟩))), (5, (.pointer (some ⟨b5, 0, none⟩))), (6, (.int .i64 ((fm + i : Nat) : Int)))], marks Ds⟩ (.own b5 (isC [.map (some ro)] 102) :: .own ro (isN (sumO (fig sh) e ((sh.rows.drop fm).take i))) :: .own b2 (isC (tbC sh pt (k : Int)) 86) :: .snap 0 w.heap.size w :: dfs Ds)
  refine t_seq ?_
  refine t_seq ?_
  refine t_reg ?_
  refine to_mv rfl rfl ?_
  first | refine to_fa rfl rfl rfl (by simp only [Nat.reduceAdd]; rfl) rfl ?_ | refine to_fae rfl rfl rfl (by simp only [Nat.reduceAdd]; rfl) rfl ?_
  first | refine to_fa rfl rfl rfl (by simp only [Nat.reduceAdd]; rfl) rfl ?_ | refine to_fae rfl rfl rfl (by simp only [Nat.reduceAdd]; rfl) rfl ?_
  first | refine to_lds rfl rfl rfl ?_ | refine to_ldes rfl (by assumption) rfl rfl ?_
  refine to_lenS rfl rfl ?_
  refine to_lss rfl rfl rfl ?_
  refine to_nil ?_
  refine tn_code ?_
  refine t_if rfl (fun h1 => ?_) (fun h1 => ?_)
  · try simp only [decide_eq_true_eq, decide_eq_false_iff_not, Bool.not_eq_true', Bool.not_eq_false', Int.not_lt, Int.not_le, ne_eq, Decidable.not_not] at h1
    try have h1b := inB_iff.1 h1
    obtain ⟨r, hr⟩ := some_get (xs := sh.rows) (k := fm + i) (by omega)
    have hrb := isSh_r hs (List.mem_of_getElem? hr)
    refine t_skip ?_
    refine tn_code ?_
    refine t_seq ?_
    refine t_blk ?_
    refine t_seq ?_
    refine t_reg ?_
    refine to_mkN rfl (fun r27 => ?_)
    refine to_alloc rfl (fun b7 => ?_)
    first | refine to_st rfl rfl rfl rfl ?_ | refine to_ste rfl rfl (by assumption) rfl rfl ?_
    refine to_nil ?_
    refine tn_code ?_
    refine t_seq ?_
    refine t_seq ?_
    refine t_reg ?_
    first | refine to_lda rfl rfl rfl ?_ | refine to_ldea rfl (by assumption) rfl rfl ?_
    refine to_mv rfl rfl ?_
    refine to_callR rfl rfl (fun w s => r_exact sh pt _ _ w) rfl (fun v30 lo30 w30 hlo30 hR30 => ?_)
    obtain ⟨bb30, bi30, rfl, hrb30, hri30⟩ := hR30
    refine to_nil ?_
    refine tn_code ?_
    refine t_blk ?_
    refine t_rf rfl rfl (fun L => (.own r27 (isN (stepO (fig sh) (sumO (fig sh) e ((sh.rows.drop fm).take i)) (pfxL (exL e r) L))) :: .own ro (isN (sumO (fig sh) e ((sh.rows.drop fm).take i))) :: .own b5 (isC [.map (some ro)] 102) :: .own b7 (isC [.map (some r27)] 102) :: .own b2 (isC (tbC sh pt (k : Int)) 86) :: .snap lo30 w30.heap.size w30 :: .snap 0 w.heap.size w :: dfs Ds)) (exL e r) .skip (H0 := (.own r27 (isN (fun _ => none)) :: .own ro (isN (sumO (fig sh) e ((sh.rows.drop fm).take i))) :: .own b5 (isC [.map (some ro)] 102) :: .own b7 (isC [.map (some r27)] 102) :: .own b2 (isC (tbC sh pt (k : Int)) 86) :: .snap lo30 w30.heap.size w30 :: .snap 0 w.heap.size w :: dfs Ds)) (by rw [pfxL_all]; rfl) (fun _ _ _ _ _ => False) ?_ ?_ ?_
    · intro K l D w₂ hK s₂
      refine (ex_seq sh pt k (fm + i) e r bb30 bi30 l w₂ (fun L => StB w₂.heap.size (.own l (isLp K .ready none) :: .own D isDf :: (.own r27 (isN (stepO (fig sh) (sumO (fig sh) e ((sh.rows.drop fm).take i)) (pfxL (exL e r) L))) :: .own ro (isN (sumO (fig sh) e ((sh.rows.drop fm).take i))) :: .own b5 (isC [.map (some ro)] 102) :: .own b7 (isC [.map (some r27)] 102) :: .own b2 (isC (tbC sh pt (k : Int)) 86) :: .snap lo30 w30.heap.size w30 :: .snap 0 w.heap.size w :: dfs Ds))) (fun _ _ => False) (fun L => stB_cong) (fun L => ⟨fun w' h => stb_rb h⟩) (fun L => ⟨fun w' h => stb_rb h⟩) (fun L => ⟨fun w' h => stb_ro h⟩) (fun L => ⟨fun w' h => stb_ro h⟩) hs he hr ?_ s₂.stB).mono ?_
      rotate_left
      · rintro en w' ⟨hk, ⟨rfl, h⟩ | ⟨ch, rfl, h⟩⟩
        · exact ⟨rfl, hk, .inl h⟩
        · exact h.elim
      intro n C wr hsuf hI hB
      have hnb := (mem_exL heb.1).1 (sfx_mem hsuf)
      have hfb := fig_b (sh := sh) (v := n) (B := 100008) hs (by omega)
      refine yc_round hK hI hB rfl ?_
      refine t_reg ?_
      refine to_as rfl rfl ?_
      refine to_nil ?_
      refine t_begin ?_
      refine t_blk ?_
      refine t_seq ?_
      refine t_reg ?_
      first | refine to_lda rfl rfl rfl ?_ | refine to_ldea rfl (by assumption) rfl rfl ?_
      refine to_mv rfl rfl ?_
      refine to_call0 rfl rfl (fun w s => r_figure sh pt _ _ w hs (by omega)) rfl ?_
      refine to_as rfl rfl ?_
      refine to_nil ?_
      refine tn_code ?_
      refine t_seq ?_
      refine t_openN ro (fun lq cq hok => ?_)
      refine t_reg ?_
      first | refine to_lds rfl rfl rfl ?_ | refine to_ldes rfl (by assumption) rfl rfl ?_
      refine to_rgN rfl rfl (fun b36 => ?_)
      refine to_nil ?_
      refine tn_code ?_
      refine t_blk ?_
      refine t_loop2 (ι := List En × Option En) (fun ((left, cur) : List En × Option En) => ∀ x ∈ left, x ∈ lq) (fun ((left, cur) : List En × Option En) => [(2, (.pointer (some ⟨b2, 0, none⟩))), (5, (.pointer (some ⟨b5, 0, none⟩))), (6, (.int .i64 ((fm + i : Nat) : Int))), (7, (.pointer (some ⟨b7, 0, none⟩))), (8, (.int .i64 n)), (9, (.int .i64 (fig sh n))), (36, (.pointer (some ⟨b36, 0, none⟩)))]) (fun ((left, cur) : List En × Option En) => (.own b36 (isIN ro lq cq left cur) :: .own ro (isNE lq cq) :: .own r27 (isN (midO (fig sh) (sumO (fig sh) e ((sh.rows.drop fm).take i)) (pfxL (exL e r) (n :: C)) n left)) :: .own b5 (isC [.map (some ro)] 102) :: .own b7 (isC [.map (some r27)] 102) :: .own b2 (isC (tbC sh pt (k : Int)) 86) :: .own l (isLp K .busy none) :: .snap w₂.heap.size wr.heap.size wr :: .own D isDf :: .snap lo30 w30.heap.size w30 :: .snap 0 w.heap.size w :: dfs Ds)) (fun ((left, cur) : List En × Option En) => left.length) ((lq, none)) (.own b36 (isIN ro lq cq lq none) :: .own ro (isNE lq cq) :: .own r27 (isN (stepO (fig sh) (sumO (fig sh) e ((sh.rows.drop fm).take i)) (pfxL (exL e r) (n :: C)))) :: .own b5 (isC [.map (some ro)] 102) :: .own b7 (isC [.map (some r27)] 102) :: .own b2 (isC (tbC sh pt (k : Int)) 86) :: .own l (isLp K .busy none) :: .snap w₂.heap.size wr.heap.size wr :: .own D isDf :: .snap lo30 w30.heap.size w30 :: .snap 0 w.heap.size w :: dfs Ds) (by dsimp only; rw [mid_start hok]) (fun x hx => hx) (⟨rfl, rfl, rfl, rfl, rfl, rfl, rfl, trivial⟩) ?_
      rintro ⟨left, cur⟩ hk
      try dsimp only at hk
      show T _ _ _ ⟨_, [(2, (.pointer (some ⟨b2, 0, none⟩))), (5, (.pointer (some ⟨b5, 0, none⟩))), (6, (.int .i64 ((fm + i : Nat) : Int))), (7, (.pointer (some ⟨b7, 0, none⟩))), (8, (.int .i64 n)), (9, (.int .i64 (fig sh n))), (36, (.pointer (some ⟨b36, 0, none⟩)))], _⟩ (.own b36 (isIN ro lq cq left cur) :: .own ro (isNE lq cq) :: .own r27 (isN (midO (fig sh) (sumO (fig sh) e ((sh.rows.drop fm).take i)) (pfxL (exL e r) (n :: C)) n left)) :: .own b5 (isC [.map (some ro)] 102) :: .own b7 (isC [.map (some r27)] 102) :: .own b2 (isC (tbC sh pt (k : Int)) 86) :: .own l (isLp K .busy none) :: .snap w₂.heap.size wr.heap.size wr :: .own D isDf :: .snap lo30 w30.heap.size w30 :: .snap 0 w.heap.size w :: dfs Ds)
      refine t_seq ?_
      refine t_reg ?_
      refine to_nxN rfl hok rfl (fun hl0 => ?_) (fun en hen henl hG => ?_)
      · skip
        refine to_ex rfl rfl rfl ?_
        refine to_nil ?_
        refine tn_code ?_
        refine t_seq ?_
        refine t_ifF rfl ?_
        refine t_exit ?_
        refine tx_code ?_
        refine tx_inv ?_
        refine tx_blk ?_
        refine tn_blk ?_
        subst hl0
        refine tx_closeN ro hok ?_
        exact t_rendX (.own D isDf :: (.own r27 (isN (midO (fig sh) (sumO (fig sh) e ((sh.rows.drop fm).take i)) (pfxL (exL e r) (n :: C)) n [])) :: .own ro (isN (sumO (fig sh) e ((sh.rows.drop fm).take i))) :: .own b5 (isC [.map (some ro)] 102) :: .own b7 (isC [.map (some r27)] 102) :: .own b2 (isC (tbC sh pt (k : Int)) 86) :: .snap lo30 w30.heap.size w30 :: .snap 0 w.heap.size w :: dfs Ds)) (by rw [mid_end, ← pfxL_cons hsuf]) (hi_of_rng (H := .own D isDf :: (.own r27 (isN (stepO (fig sh) (sumO (fig sh) e ((sh.rows.drop fm).take i)) (pfxL (exL e r) (exL e r)))) :: .own ro (isN (sumO (fig sh) e ((sh.rows.drop fm).take i))) :: .own b5 (isC [.map (some ro)] 102) :: .own b7 (isC [.map (some r27)] 102) :: .own b2 (isC (tbC sh pt (k : Int)) 86) :: .snap lo30 w30.heap.size w30 :: .snap 0 w.heap.size w :: dfs Ds)) rfl (fun s hs => s₂.le s (List.mem_cons_of_mem _ hs))) (s₂.le (.own l (isLp K .ready none)) (List.mem_cons_self ..))
      · have hgb := sums_bd hs heb (fun z hz => List.mem_of_mem_drop (List.mem_of_mem_take hz)) (by simp; omega) hG
        refine to_ex rfl rfl rfl ?_
        refine to_nil ?_
        refine tn_code ?_
        refine t_seq ?_
        refine t_ifT rfl ?_
        refine t_skip ?_
        refine tn_code ?_
        refine t_blk ?_
        refine t_seq ?_
        refine t_reg ?_
        refine to_enN rfl hok henl rfl ?_
        refine to_ex rfl rfl rfl ?_
        refine to_ex rfl rfl rfl ?_
        refine to_alloc rfl (fun b11 => ?_)
        refine to_as rfl rfl ?_
        first | refine to_st rfl rfl rfl rfl ?_ | refine to_ste rfl rfl (by assumption) rfl rfl ?_
        refine to_nil ?_
        refine tn_code ?_
        refine t_seq ?_
        refine t_reg ?_
        first | refine to_fa rfl rfl rfl (by simp only [Nat.reduceAdd]; rfl) rfl ?_ | refine to_fae rfl rfl rfl (by simp only [Nat.reduceAdd]; rfl) rfl ?_
        first | refine to_lds rfl rfl rfl ?_ | refine to_ldes rfl (by assumption) rfl rfl ?_
        refine to_mv rfl rfl ?_
        refine to_add rfl rfl (by omega) rfl ?_
        first | refine to_fa rfl rfl rfl (by simp only [Nat.reduceAdd]; rfl) rfl ?_ | refine to_fae rfl rfl rfl (by simp only [Nat.reduceAdd]; rfl) rfl ?_
        first | refine to_lds rfl rfl rfl ?_ | refine to_ldes rfl (by assumption) rfl rfl ?_
        refine to_mv rfl rfl ?_
        refine to_add rfl rfl (by omega) rfl ?_
        refine to_bs rfl rfl ?_
        refine to_alloc rfl (fun b12 => ?_)
        first | refine to_st rfl rfl rfl rfl ?_ | refine to_ste rfl rfl (by assumption) rfl rfl ?_
        refine to_nil ?_
        refine tn_code ?_
        refine t_seq ?_
        refine t_seq ?_
        refine t_reg ?_
        first | refine to_lds rfl rfl rfl ?_ | refine to_ldes rfl (by assumption) rfl rfl ?_
        refine to_mv rfl rfl ?_
        refine to_mv rfl rfl ?_
        refine to_add rfl rfl (by omega) rfl ?_
        refine to_lkN rfl rfl rfl ?_
        refine to_mv rfl rfl ?_
        refine to_ex rfl rfl rfl ?_
        refine to_ex rfl rfl rfl ?_
        refine to_alloc rfl (fun b13 => ?_)
        first | refine to_st rfl rfl rfl rfl ?_ | refine to_ste rfl rfl (by assumption) rfl rfl ?_
        refine to_as rfl rfl ?_
        refine to_nil ?_
        refine tn_code ?_
        refine t_seq ?_
        refine t_reg ?_
        refine to_mv rfl rfl ?_
        refine to_nil ?_
        refine tn_code ?_
        refine t_if rfl (fun h2 => ?_) (fun h2 => ?_)
        · try simp only [decide_eq_true_eq, decide_eq_false_iff_not, Bool.not_eq_true', Bool.not_eq_false', Int.not_lt, Int.not_le, ne_eq, Decidable.not_not] at h2
          try have h2b := inB_iff.1 h2
          refine t_reg ?_
          first | refine to_fa rfl rfl rfl (by simp only [Nat.reduceAdd]; rfl) rfl ?_ | refine to_fae rfl rfl rfl (by simp only [Nat.reduceAdd]; rfl) rfl ?_
          first | refine to_lds rfl rfl rfl ?_ | refine to_ldes rfl (by assumption) rfl rfl ?_
          first | refine to_fa rfl rfl rfl (by simp only [Nat.reduceAdd]; rfl) rfl ?_ | refine to_fae rfl rfl rfl (by simp only [Nat.reduceAdd]; rfl) rfl ?_
          first | refine to_lds rfl rfl rfl ?_ | refine to_ldes rfl (by assumption) rfl rfl ?_
          refine to_min rfl rfl rfl ?_
          first | refine to_fa rfl rfl rfl (by simp only [Nat.reduceAdd]; rfl) rfl ?_ | refine to_fae rfl rfl rfl (by simp only [Nat.reduceAdd]; rfl) rfl ?_
          first | refine to_lds rfl rfl rfl ?_ | refine to_ldes rfl (by assumption) rfl rfl ?_
          first | refine to_fa rfl rfl rfl (by simp only [Nat.reduceAdd]; rfl) rfl ?_ | refine to_fae rfl rfl rfl (by simp only [Nat.reduceAdd]; rfl) rfl ?_
          first | refine to_lds rfl rfl rfl ?_ | refine to_ldes rfl (by assumption) rfl rfl ?_
          refine to_max rfl rfl rfl ?_
          refine to_bs rfl rfl ?_
          first | refine to_st rfl rfl rfl rfl ?_ | refine to_ste rfl rfl (by assumption) rfl rfl ?_
          refine to_nil ?_
          refine tn_code ?_
          refine t_reg ?_
          first | refine to_lds rfl rfl rfl ?_ | refine to_ldes rfl (by assumption) rfl rfl ?_
          refine to_mv rfl rfl ?_
          refine to_mv rfl rfl ?_
          refine to_add rfl rfl (by omega) rfl ?_
          first | refine to_lda rfl rfl rfl ?_ | refine to_ldea rfl (by assumption) rfl rfl ?_
          refine to_mupN rfl rfl rfl ?_
          refine to_nil ?_
          refine tn_blk ?_
          exact tn_loop2 ((dropE left en, some en)) (.own b36 (isIN ro lq cq (dropE left en) (some en)) :: .own ro (isNE lq cq) :: .own r27 (isN (updO (midO (fig sh) (sumO (fig sh) e ((sh.rows.drop fm).take i)) (pfxL (exL e r) (n :: C)) n left) (en.1 + n) (min (en.2.1.1 + fig sh n) ((midO (fig sh) (sumO (fig sh) e ((sh.rows.drop fm).take i)) (pfxL (exL e r) (n :: C)) n left) (en.1 + n) |>.getD (0, 0)).1, max (en.2.1.2 + fig sh n) ((midO (fig sh) (sumO (fig sh) e ((sh.rows.drop fm).take i)) (pfxL (exL e r) (n :: C)) n left) (en.1 + n) |>.getD (0, 0)).2))) :: .own b5 (isC [.map (some ro)] 102) :: .own b7 (isC [.map (some r27)] 102) :: .own b2 (isC (tbC sh pt (k : Int)) 86) :: .own l (isLp K .busy none) :: .snap w₂.heap.size wr.heap.size wr :: .own D isDf :: .snap lo30 w30.heap.size w30 :: .snap 0 w.heap.size w :: dfs Ds) (by dsimp only; rw [mid_t hok hk hen (by assumption)]) (fun x hx => hk x (drop_sub hx)) (drop_len hen) (⟨rfl, rfl, rfl, rfl, rfl, rfl, rfl, trivial⟩)
        · try simp only [decide_eq_true_eq, decide_eq_false_iff_not, Bool.not_eq_true', Bool.not_eq_false', Int.not_lt, Int.not_le, ne_eq, Decidable.not_not] at h2
          try have h2b := inB_iff.1 h2
          refine t_skip ?_
          refine tn_code ?_
          refine t_reg ?_
          first | refine to_lds rfl rfl rfl ?_ | refine to_ldes rfl (by assumption) rfl rfl ?_
          refine to_mv rfl rfl ?_
          refine to_mv rfl rfl ?_
          refine to_add rfl rfl (by omega) rfl ?_
          first | refine to_lda rfl rfl rfl ?_ | refine to_ldea rfl (by assumption) rfl rfl ?_
          refine to_mupN rfl rfl rfl ?_
          refine to_nil ?_
          refine tn_blk ?_
          exact tn_loop2 ((dropE left en, some en)) (.own b36 (isIN ro lq cq (dropE left en) (some en)) :: .own ro (isNE lq cq) :: .own r27 (isN (updO (midO (fig sh) (sumO (fig sh) e ((sh.rows.drop fm).take i)) (pfxL (exL e r) (n :: C)) n left) (en.1 + n) (en.2.1.1 + fig sh n, en.2.1.2 + fig sh n))) :: .own b5 (isC [.map (some ro)] 102) :: .own b7 (isC [.map (some r27)] 102) :: .own b2 (isC (tbC sh pt (k : Int)) 86) :: .own l (isLp K .busy none) :: .snap w₂.heap.size wr.heap.size wr :: .own D isDf :: .snap lo30 w30.heap.size w30 :: .snap 0 w.heap.size w :: dfs Ds) (by dsimp only; rw [mid_f hok hk hen (by assumption)]) (fun x hx => hk x (drop_sub hx)) (drop_len hen) (⟨rfl, rfl, rfl, rfl, rfl, rfl, rfl, trivial⟩)
    · intro D
      show TX _ _ _ _ (.own D isDf :: (.own r27 (isN (stepO (fig sh) (sumO (fig sh) e ((sh.rows.drop fm).take i)) (pfxL (exL e r) []))) :: .own ro (isN (sumO (fig sh) e ((sh.rows.drop fm).take i))) :: .own b5 (isC [.map (some ro)] 102) :: .own b7 (isC [.map (some r27)] 102) :: .own b2 (isC (tbC sh pt (k : Int)) 86) :: .snap lo30 w30.heap.size w30 :: .snap 0 w.heap.size w :: dfs Ds))
      refine tn_blk ?_
      refine tn_code ?_
      refine t_reg ?_
      first | refine to_lds rfl rfl rfl ?_ | refine to_ldes rfl (by assumption) rfl rfl ?_
      first | refine to_st rfl rfl rfl rfl ?_ | refine to_ste rfl rfl (by assumption) rfl rfl ?_
      refine to_nil ?_
      refine tn_blk ?_
      refine tn_code ?_
      refine t_reg ?_
      refine to_mv rfl rfl ?_
      refine to_add rfl rfl (by omega) rfl ?_
      refine to_as rfl rfl ?_
      refine to_nil ?_
      exact tn_loopD ((i + 1, r27, D :: Ds)) (.own b5 (isC [.map (some r27)] 102) :: .own r27 (isN (stepO (fig sh) (sumO (fig sh) e ((sh.rows.drop fm).take i)) (pfxL (exL e r) []))) :: .own b2 (isC (tbC sh pt (k : Int)) 86) :: .snap 0 w.heap.size w :: .own D isDf :: dfs Ds) (by dsimp only; rw [takeD_snoc hr, sumO_snoc, pfxL_nil]; rfl) (by dsimp only; omega) (by dsimp only; omega) rfl (⟨rfl, rfl, rfl, trivial⟩)
    · intro K l D B w₃ hF
      exact hF.elim
  · try simp only [decide_eq_true_eq, decide_eq_false_iff_not, Bool.not_eq_true', Bool.not_eq_false', Int.not_lt, Int.not_le, ne_eq, Decidable.not_not] at h1
    try have h1b := inB_iff.1 h1
    have hk2 : fm + i = sh.rows.length := by omega
    refine t_exit ?_
    refine tx_code ?_
    refine tx_inv ?_
    refine tx_blk ?_
    refine tn_code ?_
    refine t_seq ?_
    refine t_reg ?_
    first | refine to_lds rfl rfl rfl ?_ | refine to_ldes rfl (by assumption) rfl rfl ?_
    refine to_as rfl rfl ?_
    refine to_nil ?_
    refine tn_code ?_
    refine t_ret1Ms (Ds := Ds) rfl (res_tmp rfl) (fun w' s => ?_)
    rw [List.take_of_length_le (by rw [List.length_drop]; omega)] at s
    obtain ⟨lz, cz, h1, h2⟩ := nb_own s (r := ro)
    exact ⟨ro, lz, cz, rfl, h1, h2⟩

end Go.Proofs


namespace Go.Proofs
open Go Go.Sx Go.RowKit

set_option maxRecDepth 20000 in
theorem r_Total1 (sh : Sh) (pt : Pt) (gd n : Int) (v : Sp) (w : World) (hs : isSh sh = true) (hn : -1000000 ≤ n ∧ n ≤ 1000000) : Calls Tryz.prog 80 #[tbV sh pt gd, (.int .i64 n), spanV v] w (RetV w (.tuple #[.int .i64 (fig sh n), .int .i64 (fig sh n)])) := by
  refine calls_T0 (av := [_, _, _]) Tryz.func80 rfl rfl rfl ?_
  refine t_seq ?_
  refine t_reg ?_
  refine to_box rfl rfl (fun b3 => ?_)
  refine to_box rfl rfl (fun b5 => ?_)
  refine to_as rfl rfl ?_
  refine to_as rfl rfl ?_
  refine to_nil ?_
  refine tn_code ?_
  refine t_seq ?_
  refine t_regD rfl (by kernel_rfl) (by kernel_rfl) ?_
  first | refine to_lda rfl rfl rfl ?_ | refine to_ldea rfl (by assumption) rfl rfl ?_
  refine to_mv rfl rfl ?_
  refine to_call0 rfl rfl (fun w s => r_figure sh pt _ _ w hs (by omega)) rfl ?_
  first | refine to_lda rfl rfl rfl ?_ | refine to_ldea rfl (by assumption) rfl rfl ?_
  refine to_mv rfl rfl ?_
  refine to_call0 rfl rfl (fun w s => r_figure sh pt _ _ w hs (by omega)) rfl ?_
  refine to_as rfl rfl ?_
  refine to_as rfl rfl ?_
  refine to_nil ?_
  refine tn_code ?_
  refine t_ret2 rfl rfl (res_tmp rfl) (res_tmp rfl) (fun w' s => ?_)
  rfl

set_option maxRecDepth 20000 in
theorem r_Adds1 (sh : Sh) (pt : Pt) (gd n : Int) (v : Sp) (w : World)  : Calls Tryz.prog 82 #[tbV sh pt gd, (.int .i64 n), spanV v] w (RetV w (.tuple #[.int .i64 v.1, .int .i64 v.2])) := by
  refine calls_T0 (av := [_, _, _]) Tryz.func82 rfl rfl rfl ?_
  refine t_seq ?_
  refine t_reg ?_
  refine to_box rfl rfl (fun b3 => ?_)
  refine to_box rfl rfl (fun b5 => ?_)
  refine to_as rfl rfl ?_
  refine to_as rfl rfl ?_
  refine to_nil ?_
  refine tn_code ?_
  refine t_seq ?_
  refine t_regD rfl (by kernel_rfl) (by kernel_rfl) ?_
  first | refine to_fa rfl rfl rfl (by simp only [Nat.reduceAdd]; rfl) rfl ?_ | refine to_fae rfl rfl rfl (by simp only [Nat.reduceAdd]; rfl) rfl ?_
  first | refine to_lds rfl rfl rfl ?_ | refine to_ldes rfl (by assumption) rfl rfl ?_
  first | refine to_fa rfl rfl rfl (by simp only [Nat.reduceAdd]; rfl) rfl ?_ | refine to_fae rfl rfl rfl (by simp only [Nat.reduceAdd]; rfl) rfl ?_
  first | refine to_lds rfl rfl rfl ?_ | refine to_ldes rfl (by assumption) rfl rfl ?_
  refine to_as rfl rfl ?_
  refine to_as rfl rfl ?_
  refine to_nil ?_
  refine tn_code ?_
  refine t_ret2 rfl rfl (res_tmp rfl) (res_tmp rfl) (fun w' s => ?_)
  rfl

set_option maxRecDepth 20000 in
theorem r_Differs1 (sh : Sh) (pt : Pt) (gd n : Int) (v : Sp) (w : World) (hs : isSh sh = true) (hn : -1000000 ≤ n ∧ n ≤ 1000000) (hv : (-1000000 ≤ v.1 ∧ v.1 ≤ 1000000) ∧ (-1000000 ≤ v.2 ∧ v.2 ≤ 1000000)) : Calls Tryz.prog 83 #[tbV sh pt gd, (.int .i64 n), spanV v] w (RetV w (.tuple #[.int .i64 (v.1 - fig sh n), .int .i64 (v.2 - fig sh n)])) := by
  have hfb := fig_b (sh := sh) (v := n) (B := 1000000) hs (by omega)
  refine calls_T0 (av := [_, _, _]) Tryz.func83 rfl rfl rfl ?_
  refine t_seq ?_
  refine t_reg ?_
  refine to_box rfl rfl (fun b3 => ?_)
  refine to_box rfl rfl (fun b5 => ?_)
  refine to_as rfl rfl ?_
  refine to_as rfl rfl ?_
  refine to_nil ?_
  refine tn_code ?_
  refine t_seq ?_
  refine t_regD rfl (by kernel_rfl) (by kernel_rfl) ?_
  first | refine to_fa rfl rfl rfl (by simp only [Nat.reduceAdd]; rfl) rfl ?_ | refine to_fae rfl rfl rfl (by simp only [Nat.reduceAdd]; rfl) rfl ?_
  first | refine to_lds rfl rfl rfl ?_ | refine to_ldes rfl (by assumption) rfl rfl ?_
  first | refine to_lda rfl rfl rfl ?_ | refine to_ldea rfl (by assumption) rfl rfl ?_
  refine to_mv rfl rfl ?_
  refine to_call0 rfl rfl (fun w s => r_figure sh pt _ _ w hs (by omega)) rfl ?_
  refine to_sub rfl rfl (by omega) rfl ?_
  first | refine to_fa rfl rfl rfl (by simp only [Nat.reduceAdd]; rfl) rfl ?_ | refine to_fae rfl rfl rfl (by simp only [Nat.reduceAdd]; rfl) rfl ?_
  first | refine to_lds rfl rfl rfl ?_ | refine to_ldes rfl (by assumption) rfl rfl ?_
  first | refine to_lda rfl rfl rfl ?_ | refine to_ldea rfl (by assumption) rfl rfl ?_
  refine to_mv rfl rfl ?_
  refine to_call0 rfl rfl (fun w s => r_figure sh pt _ _ w hs (by omega)) rfl ?_
  refine to_sub rfl rfl (by omega) rfl ?_
  refine to_as rfl rfl ?_
  refine to_as rfl rfl ?_
  refine to_nil ?_
  refine tn_code ?_
  refine t_ret2 rfl rfl (res_tmp rfl) (res_tmp rfl) (fun w' s => ?_)
  rfl

set_option maxRecDepth 20000 in
theorem r_spans_t (sh : Sh) (pt : Pt) (k : Nat) (e : Int) (q : Nat) (cp : List Value) (A B : Int → Sp → Int) (v : Sp) (w : World) (hre : Ro w 0 w.heap.size pt.ea sh.errs.length pt.ec 1 (ints sh.errs)) (hrr : Ro w 0 w.heap.size pt.ra sh.rows.length pt.rc 1 (ints sh.rows)) (hs : isSh sh = true) (he : sh.errs[k]? = some e) [hf : FnOk Tryz.prog q] (hq : ∀ w', Below w.heap.size w w' → ∀ n z, sumO (fig sh) e sh.rows n = some z → Calls Tryz.prog q ([] ++ ([tbV sh pt (k : Int), .int .i64 n, spanV z] ++ cp)).toArray w' (RetV w' (.tuple #[.int .i64 (A n z), .int .i64 (B n z)]))) (hv : IsE (fun x => ∃ n z, sumO (fig sh) e sh.rows n = some z ∧ (x = A n z ∨ x = B n z)) (some v)) : Calls Tryz.prog 79 #[shV sh pt, (.int .i64 (k : Int)), .func (.func q) ([] : List Value).toArray cp.toArray] w (RetV w (.tuple #[spanV v, .int .i64 0])) := by
  have heb := errs_b (isSh_e hs) e (List.mem_of_getElem? he)
  have hbb := isSh_b hs
  have hxe := map_get (f := intC) he
  have hke := (List.getElem?_eq_some_iff.1 he).1
  refine calls_T0 (av := [_, _, _]) Tryz.func79 rfl rfl rfl ?_
  refine t_seq ?_
  refine t_reg ?_
  refine to_box rfl rfl (fun b3 => ?_)
  refine to_alloc rfl (fun b6 => ?_)
  refine to_as rfl rfl ?_
  refine to_nil ?_
  refine tn_code ?_
  refine t_seq ?_
  refine t_reg ?_
  first | refine to_lda rfl rfl rfl ?_ | refine to_ldea rfl (by assumption) rfl rfl ?_
  refine to_mv rfl rfl ?_
  refine to_call0 rfl rfl (fun w s => r_open_t sh pt k e w (rdw s) (rdw s) hs he) rfl ?_
  refine to_mv rfl rfl ?_
  refine to_ex rfl rfl rfl ?_
  refine to_ex rfl rfl rfl ?_
  refine to_alloc rfl (fun b8 => ?_)
  first | refine to_st rfl rfl rfl rfl ?_ | refine to_ste rfl rfl (by assumption) rfl rfl ?_
  refine to_as rfl rfl ?_
  refine to_nil ?_
  refine tn_code ?_
  refine t_seq ?_
  refine t_seq ?_
  refine t_reg ?_
  refine to_mv rfl rfl ?_
  refine to_neq rfl rfl rfl ?_
  refine to_fix (s := 22) (b' := false) rfl (rfl) ?_
  refine to_nil ?_
  refine tn_code ?_
  refine t_ifF rfl ?_
  refine t_skip ?_
  refine tn_code ?_
  refine t_seq ?_
  refine t_reg ?_
  refine to_as rfl rfl ?_
  refine to_nil ?_
  refine tn_code ?_
  refine t_seq ?_
  refine t_seq ?_
  refine t_reg ?_
  first | refine to_lda rfl rfl rfl ?_ | refine to_ldea rfl (by assumption) rfl rfl ?_
  refine to_callR rfl rfl (fun w s => r_sums sh pt k e 0 w (rdw s) (rdw s) hs he (by omega)) rfl (fun v26 lo26 w26 hlo26 hR26 => ?_)
  obtain ⟨rm26, lm26, cm26, rfl, hnb26, hok26⟩ := hR26
  refine to_rgN rfl rfl (fun b27 => ?_)
  refine to_nil ?_
  refine tn_code ?_
  refine t_blk ?_
  refine t_nilrow 3 1 ?_
  have hlm := okN_len hok26 (fun k v h => (sums_bd (rs := sh.rows) hs heb (fun z hz => hz) (by omega) h).1)
  refine t_loop2 (ι := List En × Option En × List Int × Option Addr × Nat) (fun ((left, cur, l, a', c') : List En × Option En × List Int × Option Addr × Nat) => ColI A B lm26 left l) (fun ((left, cur, l, a', c') : List En × Option En × List Int × Option Addr × Nat) => [(2, .func (.func q) ([] : List Value).toArray cp.toArray), (3, (.pointer (some ⟨b3, 0, none⟩))), (6, (.pointer (some ⟨b6, 0, none⟩))), (8, (.pointer (some ⟨b8, 0, none⟩))), (10, .slice a' l.length c'), (27, (.pointer (some ⟨b27, 0, none⟩)))]) (fun ((left, cur, l, a', c') : List En × Option En × List Int × Option Addr × Nat) => [.row a' l.length c' 3 1 (ints l), .own b27 (isIN rm26 lm26 cm26 left cur), .own b3 (isC (shC sh pt) 33), .own b6 (isC [.int .i64 0, .int .i64 0] 53), .own b8 (isC (tbC sh pt (k : Int)) 86), .snap lo26 w26.heap.size w26, .snap 0 w.heap.size w]) (fun ((left, cur, l, a', c') : List En × Option En × List Int × Option Addr × Nat) => left.length) ((lm26, none, [], none, 0)) [.row none 0 0 3 1 [], .own b27 (isIN rm26 lm26 cm26 lm26 none), .own b3 (isC (shC sh pt) 33), .own b6 (isC [.int .i64 0, .int .i64 0] 53), .own b8 (isC (tbC sh pt (k : Int)) 86), .snap lo26 w26.heap.size w26, .snap 0 w.heap.size w] (rfl) (col_start A B lm26) (⟨rfl, rfl, rfl, rfl, rfl, rfl, trivial⟩) ?_
  rintro ⟨left, cur, l, a', c'⟩ hcol
  try dsimp only at hk
  show T _ _ _ ⟨_, [(2, .func (.func q) ([] : List Value).toArray cp.toArray), (3, (.pointer (some ⟨b3, 0, none⟩))), (6, (.pointer (some ⟨b6, 0, none⟩))), (8, (.pointer (some ⟨b8, 0, none⟩))), (10, .slice a' l.length c'), (27, (.pointer (some ⟨b27, 0, none⟩)))], _⟩ [.row a' l.length c' 3 1 (ints l), .own b27 (isIN rm26 lm26 cm26 left cur), .own b3 (isC (shC sh pt) 33), .own b6 (isC [.int .i64 0, .int .i64 0] 53), .own b8 (isC (tbC sh pt (k : Int)) 86), .snap lo26 w26.heap.size w26, .snap 0 w.heap.size w]
  refine t_seq ?_
  refine t_reg ?_
  refine to_nxN rfl hok26 rfl (fun hl0 => ?_) (fun en hen henl hG => ?_)
  · subst hl0
    have hcl := hcol.2.1
    refine to_ex rfl rfl rfl ?_
    refine to_nil ?_
    refine tn_code ?_
    refine t_seq ?_
    refine t_ifF rfl ?_
    refine t_exit ?_
    refine tx_code ?_
    refine tx_inv ?_
    refine tx_blk ?_
    refine tn_code ?_
    refine t_seq ?_
    refine t_reg ?_
    refine to_mv rfl rfl ?_
    refine to_call0 rfl rfl (fun w s => r_ends l _ _ v w (rdw s) ⟨(col_end hok26 hcol hv).2, by have := hcol.2.1; omega⟩ (col_end hok26 hcol hv).1) rfl ?_
    first | refine to_st rfl rfl rfl rfl ?_ | refine to_ste rfl rfl (by assumption) rfl rfl ?_
    refine to_as rfl rfl ?_
    refine to_nil ?_
    refine tn_code ?_
    refine t_ret2 rfl rfl (res_cellA rfl rfl) (res_tmp rfl) (fun w' s => ?_)
    rfl
  · have hcl := hcol.2.1
    have hgb := sums_bd (rs := sh.rows) hs heb (fun z hz => hz) (by omega) hG
    refine to_ex rfl rfl rfl ?_
    refine to_nil ?_
    refine tn_code ?_
    refine t_seq ?_
    refine t_ifT rfl ?_
    refine t_skip ?_
    refine tn_code ?_
    refine t_blk ?_
    refine t_seq ?_
    refine t_reg ?_
    refine to_enN rfl hok26 henl rfl ?_
    refine to_ex rfl rfl rfl ?_
    refine to_ex rfl rfl rfl ?_
    refine to_alloc rfl (fun b12 => ?_)
    refine to_as rfl rfl ?_
    first | refine to_st rfl rfl rfl rfl ?_ | refine to_ste rfl rfl (by assumption) rfl rfl ?_
    refine to_nil ?_
    refine tn_code ?_
    refine t_seq ?_
    refine t_reg ?_
    refine to_mv rfl rfl ?_
    first | refine to_lda rfl rfl rfl ?_ | refine to_ldea rfl (by assumption) rfl rfl ?_
    refine to_mv rfl rfl ?_
    first | refine to_lda rfl rfl rfl ?_ | refine to_ldea rfl (by assumption) rfl rfl ?_
    refine to_call0 rfl rfl (fun w s => hq w (below_of s) _ _ hG) rfl ?_
    refine to_mv rfl rfl ?_
    refine to_ex rfl rfl rfl ?_
    refine to_ex rfl rfl rfl ?_
    refine to_as rfl rfl ?_
    refine to_as rfl rfl ?_
    refine to_nil ?_
    refine tn_code ?_
    refine t_reg ?_
    refine to_mv rfl rfl ?_
    refine to_mv rfl rfl ?_
    refine to_mv rfl rfl ?_
    refine to_bsl rfl rfl rfl rfl (fun a44 => ?_)
    refine to_app rfl rfl rfl (by simp [scals, scal]) (by decide) (by omega) (by decide) rfl (fun a45 c45 => ?_)
    refine to_as rfl rfl ?_
    refine to_nil ?_
    refine tn_blk ?_
    exact tn_loop2 ((dropE left en, some en, l ++ [A en.1 en.2.1, B en.1 en.2.1], a45, c45)) [.row a45 (l.length + 2) c45 3 1 (ints l ++ [[Value.int .i64 (A en.1 en.2.1)], [Value.int .i64 (B en.1 en.2.1)]]), .own b27 (isIN rm26 lm26 cm26 (dropE left en) (some en)), .own b3 (isC (shC sh pt) 33), .own b6 (isC [.int .i64 0, .int .i64 0] 53), .own b8 (isC (tbC sh pt (k : Int)) 86), .snap lo26 w26.heap.size w26, .snap 0 w.heap.size w] (by dsimp only; rw [ints_two]; simp only [List.length_append]; rfl) (col_step hok26 hcol hen) (drop_len hen) (⟨rfl, rfl, rfl, rfl, congrArg (fun z => some (Value.slice a45 z c45)) (by simp), rfl, trivial⟩)

set_option maxRecDepth 20000 in
theorem r_spans_f (sh : Sh) (pt : Pt) (gd : Int) (q : Nat) (cp : List Value) (w : World) (hre : Ro w 0 w.heap.size pt.ea sh.errs.length pt.ec 1 (ints sh.errs)) (hrr : Ro w 0 w.heap.size pt.ra sh.rows.length pt.rc 1 (ints sh.rows)) (hl : sh.errs.length ≤ 1000000) (ho : okG sh gd = false) : Calls Tryz.prog 79 #[shV sh pt, (.int .i64 gd), .func (.func q) ([] : List Value).toArray cp.toArray] w (RetV w (.tuple #[spanV (0, 0), .int .i64 2])) := by
  refine calls_T0 (av := [_, _, _]) Tryz.func79 rfl rfl rfl ?_
  refine t_seq ?_
  refine t_reg ?_
  refine to_box rfl rfl (fun b3 => ?_)
  refine to_alloc rfl (fun b6 => ?_)
  refine to_as rfl rfl ?_
  refine to_nil ?_
  refine tn_code ?_
  refine t_seq ?_
  refine t_reg ?_
  first | refine to_lda rfl rfl rfl ?_ | refine to_ldea rfl (by assumption) rfl rfl ?_
  refine to_mv rfl rfl ?_
  refine to_call0 rfl rfl (fun w s => r_open_f sh pt gd w (rdw s) (rdw s) hl ho) rfl ?_
  refine to_mv rfl rfl ?_
  refine to_ex rfl rfl rfl ?_
  refine to_ex rfl rfl rfl ?_
  refine to_alloc rfl (fun b8 => ?_)
  first | refine to_st rfl rfl rfl rfl ?_ | refine to_ste rfl rfl (by assumption) rfl rfl ?_
  refine to_as rfl rfl ?_
  refine to_nil ?_
  refine tn_code ?_
  refine t_seq ?_
  refine t_seq ?_
  refine t_reg ?_
  refine to_mv rfl rfl ?_
  refine to_neq rfl rfl rfl ?_
  refine to_fix (s := 22) (b' := true) rfl (rfl) ?_
  refine to_nil ?_
  refine tn_code ?_
  refine t_ifT rfl ?_
  refine t_seq ?_
  refine t_reg ?_
  refine to_bs rfl rfl ?_
  refine to_mv rfl rfl ?_
  first | refine to_st rfl rfl rfl rfl ?_ | refine to_ste rfl rfl (by assumption) rfl rfl ?_
  refine to_as rfl rfl ?_
  refine to_nil ?_
  refine tn_code ?_
  refine t_ret2 rfl rfl (res_cellA rfl rfl) (res_tmp rfl) (fun w' s => ?_)
  rfl

def rTot (sh : Sh) (e : Int) : Sp := (endT (fig sh) e sh.rows (fun k _ => fig sh k)).getD (0, 0)
def rAdd (sh : Sh) (e : Int) : Sp := (endT (fig sh) e sh.rows (fun _ a => a)).getD (0, 0)
def rDif (sh : Sh) (e : Int) : Sp := (endT (fig sh) e sh.rows (fun k a => a - fig sh k)).getD (0, 0)

set_option maxRecDepth 20000 in
theorem r_Total_t (sh : Sh) (pt : Pt) (k : Nat) (e : Int) (w : World) (hre : Ro w 0 w.heap.size pt.ea sh.errs.length pt.ec 1 (ints sh.errs)) (hrr : Ro w 0 w.heap.size pt.ra sh.rows.length pt.rc 1 (ints sh.rows)) (hs : isSh sh = true) (he : sh.errs[k]? = some e) : Calls Tryz.prog 41 #[shV sh pt, (.int .i64 (k : Int))] w (RetV w (.tuple #[spanV (rTot sh e), .int .i64 0])) := by
  have heb := errs_b (isSh_e hs) e (List.mem_of_getElem? he)
  have hbb := isSh_b hs
  have hxe := map_get (f := intC) he
  have hke := (List.getElem?_eq_some_iff.1 he).1
  refine calls_T0 (av := [_, _]) Tryz.func41 rfl rfl rfl ?_
  refine t_seq ?_
  refine t_reg ?_
  refine to_box rfl rfl (fun b2 => ?_)
  refine to_alloc rfl (fun b4 => ?_)
  refine to_as rfl rfl ?_
  refine to_nil ?_
  refine tn_code ?_
  refine t_seq ?_
  refine t_reg ?_
  first | refine to_lda rfl rfl rfl ?_ | refine to_ldea rfl (by assumption) rfl rfl ?_
  refine to_mv rfl rfl ?_
  refine to_call0 rfl rfl (fun w s => r_spans_t sh pt k e _ [] (fun n _ => fig sh n) (fun n _ => fig sh n) (rTot sh e) w (rdw s) (rdw s) hs he (fun w' hb n z hG => r_Total1 sh pt _ n z w' hs (by have := sums_bd (rs := sh.rows) hs heb (fun z hz => hz) (by omega) hG; omega)) (endT_sums heb.1 sh.rows (fun k _ => fig sh k) (fun _ _ _ _ => Int.le_refl _))) rfl ?_
  refine to_ex rfl rfl rfl ?_
  refine to_ex rfl rfl rfl ?_
  first | refine to_st rfl rfl rfl rfl ?_ | refine to_ste rfl rfl (by assumption) rfl rfl ?_
  refine to_as rfl rfl ?_
  refine to_nil ?_
  refine tn_code ?_
  refine t_ret2 rfl rfl (res_cellA rfl rfl) (res_tmp rfl) (fun w' s => ?_)
  rfl

set_option maxRecDepth 20000 in
theorem r_Total_f (sh : Sh) (pt : Pt) (gd : Int) (w : World) (hre : Ro w 0 w.heap.size pt.ea sh.errs.length pt.ec 1 (ints sh.errs)) (hrr : Ro w 0 w.heap.size pt.ra sh.rows.length pt.rc 1 (ints sh.rows)) (hl : sh.errs.length ≤ 1000000) (ho : okG sh gd = false) : Calls Tryz.prog 41 #[shV sh pt, (.int .i64 gd)] w (RetV w (.tuple #[spanV (0, 0), .int .i64 2])) := by
  refine calls_T0 (av := [_, _]) Tryz.func41 rfl rfl rfl ?_
  refine t_seq ?_
  refine t_reg ?_
  refine to_box rfl rfl (fun b2 => ?_)
  refine to_alloc rfl (fun b4 => ?_)
  refine to_as rfl rfl ?_
  refine to_nil ?_
  refine tn_code ?_
  refine t_seq ?_
  refine t_reg ?_
  first | refine to_lda rfl rfl rfl ?_ | refine to_ldea rfl (by assumption) rfl rfl ?_
  refine to_mv rfl rfl ?_
  refine to_call0 rfl rfl (fun w s => r_spans_f sh pt gd _ [] w (rdw s) (rdw s) hl ho) rfl ?_
  refine to_ex rfl rfl rfl ?_
  refine to_ex rfl rfl rfl ?_
  first | refine to_st rfl rfl rfl rfl ?_ | refine to_ste rfl rfl (by assumption) rfl rfl ?_
  refine to_as rfl rfl ?_
  refine to_nil ?_
  refine tn_code ?_
  refine t_ret2 rfl rfl (res_cellA rfl rfl) (res_tmp rfl) (fun w' s => ?_)
  rfl

set_option maxRecDepth 20000 in
theorem r_Adds_t (sh : Sh) (pt : Pt) (k : Nat) (e : Int) (w : World) (hre : Ro w 0 w.heap.size pt.ea sh.errs.length pt.ec 1 (ints sh.errs)) (hrr : Ro w 0 w.heap.size pt.ra sh.rows.length pt.rc 1 (ints sh.rows)) (hs : isSh sh = true) (he : sh.errs[k]? = some e) : Calls Tryz.prog 42 #[shV sh pt, (.int .i64 (k : Int))] w (RetV w (.tuple #[spanV (rAdd sh e), .int .i64 0])) := by
  have heb := errs_b (isSh_e hs) e (List.mem_of_getElem? he)
  have hbb := isSh_b hs
  have hxe := map_get (f := intC) he
  have hke := (List.getElem?_eq_some_iff.1 he).1
  refine calls_T0 (av := [_, _]) Tryz.func42 rfl rfl rfl ?_
  refine t_seq ?_
  refine t_reg ?_
  refine to_box rfl rfl (fun b2 => ?_)
  refine to_alloc rfl (fun b4 => ?_)
  refine to_as rfl rfl ?_
  refine to_nil ?_
  refine tn_code ?_
  refine t_seq ?_
  refine t_reg ?_
  first | refine to_lda rfl rfl rfl ?_ | refine to_ldea rfl (by assumption) rfl rfl ?_
  refine to_mv rfl rfl ?_
  refine to_call0 rfl rfl (fun w s => r_spans_t sh pt k e _ [] (fun _ z => z.1) (fun _ z => z.2) (rAdd sh e) w (rdw s) (rdw s) hs he (fun w' hb n z hG => r_Adds1 sh pt _ n z w') (endT_sums heb.1 sh.rows (fun _ a => a) (fun _ _ _ h => h))) rfl ?_
  refine to_ex rfl rfl rfl ?_
  refine to_ex rfl rfl rfl ?_
  first | refine to_st rfl rfl rfl rfl ?_ | refine to_ste rfl rfl (by assumption) rfl rfl ?_
  refine to_as rfl rfl ?_
  refine to_nil ?_
  refine tn_code ?_
  refine t_ret2 rfl rfl (res_cellA rfl rfl) (res_tmp rfl) (fun w' s => ?_)
  rfl

set_option maxRecDepth 20000 in
theorem r_Adds_f (sh : Sh) (pt : Pt) (gd : Int) (w : World) (hre : Ro w 0 w.heap.size pt.ea sh.errs.length pt.ec 1 (ints sh.errs)) (hrr : Ro w 0 w.heap.size pt.ra sh.rows.length pt.rc 1 (ints sh.rows)) (hl : sh.errs.length ≤ 1000000) (ho : okG sh gd = false) : Calls Tryz.prog 42 #[shV sh pt, (.int .i64 gd)] w (RetV w (.tuple #[spanV (0, 0), .int .i64 2])) := by
  refine calls_T0 (av := [_, _]) Tryz.func42 rfl rfl rfl ?_
  refine t_seq ?_
  refine t_reg ?_
  refine to_box rfl rfl (fun b2 => ?_)
  refine to_alloc rfl (fun b4 => ?_)
  refine to_as rfl rfl ?_
  refine to_nil ?_
  refine tn_code ?_
  refine t_seq ?_
  refine t_reg ?_
  first | refine to_lda rfl rfl rfl ?_ | refine to_ldea rfl (by assumption) rfl rfl ?_
  refine to_mv rfl rfl ?_
  refine to_call0 rfl rfl (fun w s => r_spans_f sh pt gd _ [] w (rdw s) (rdw s) hl ho) rfl ?_
  refine to_ex rfl rfl rfl ?_
  refine to_ex rfl rfl rfl ?_
  first | refine to_st rfl rfl rfl rfl ?_ | refine to_ste rfl rfl (by assumption) rfl rfl ?_
  refine to_as rfl rfl ?_
  refine to_nil ?_
  refine tn_code ?_
  refine t_ret2 rfl rfl (res_cellA rfl rfl) (res_tmp rfl) (fun w' s => ?_)
  rfl

set_option maxRecDepth 20000 in
theorem r_Differs_t (sh : Sh) (pt : Pt) (k : Nat) (e : Int) (w : World) (hre : Ro w 0 w.heap.size pt.ea sh.errs.length pt.ec 1 (ints sh.errs)) (hrr : Ro w 0 w.heap.size pt.ra sh.rows.length pt.rc 1 (ints sh.rows)) (hs : isSh sh = true) (he : sh.errs[k]? = some e) : Calls Tryz.prog 43 #[shV sh pt, (.int .i64 (k : Int))] w (RetV w (.tuple #[spanV (rDif sh e), .int .i64 0])) := by
  have heb := errs_b (isSh_e hs) e (List.mem_of_getElem? he)
  have hbb := isSh_b hs
  have hxe := map_get (f := intC) he
  have hke := (List.getElem?_eq_some_iff.1 he).1
  refine calls_T0 (av := [_, _]) Tryz.func43 rfl rfl rfl ?_
  refine t_seq ?_
  refine t_reg ?_
  refine to_box rfl rfl (fun b2 => ?_)
  refine to_alloc rfl (fun b4 => ?_)
  refine to_as rfl rfl ?_
  refine to_nil ?_
  refine tn_code ?_
  refine t_seq ?_
  refine t_reg ?_
  first | refine to_lda rfl rfl rfl ?_ | refine to_ldea rfl (by assumption) rfl rfl ?_
  refine to_mv rfl rfl ?_
  refine to_call0 rfl rfl (fun w s => r_spans_t sh pt k e _ [] (fun n z => z.1 - fig sh n) (fun n z => z.2 - fig sh n) (rDif sh e) w (rdw s) (rdw s) hs he (fun w' hb n z hG => r_Differs1 sh pt _ n z w' hs (by have := sums_bd (rs := sh.rows) hs heb (fun z hz => hz) (by omega) hG; omega) (by have := sums_bd (rs := sh.rows) hs heb (fun z hz => hz) (by omega) hG; omega)) (endT_sums heb.1 sh.rows (fun k a => a - fig sh k) (fun _ _ _ h => by omega))) rfl ?_
  refine to_ex rfl rfl rfl ?_
  refine to_ex rfl rfl rfl ?_
  first | refine to_st rfl rfl rfl rfl ?_ | refine to_ste rfl rfl (by assumption) rfl rfl ?_
  refine to_as rfl rfl ?_
  refine to_nil ?_
  refine tn_code ?_
  refine t_ret2 rfl rfl (res_cellA rfl rfl) (res_tmp rfl) (fun w' s => ?_)
  rfl

set_option maxRecDepth 20000 in
theorem r_Differs_f (sh : Sh) (pt : Pt) (gd : Int) (w : World) (hre : Ro w 0 w.heap.size pt.ea sh.errs.length pt.ec 1 (ints sh.errs)) (hrr : Ro w 0 w.heap.size pt.ra sh.rows.length pt.rc 1 (ints sh.rows)) (hl : sh.errs.length ≤ 1000000) (ho : okG sh gd = false) : Calls Tryz.prog 43 #[shV sh pt, (.int .i64 gd)] w (RetV w (.tuple #[spanV (0, 0), .int .i64 2])) := by
  refine calls_T0 (av := [_, _]) Tryz.func43 rfl rfl rfl ?_
  refine t_seq ?_
  refine t_reg ?_
  refine to_box rfl rfl (fun b2 => ?_)
  refine to_alloc rfl (fun b4 => ?_)
  refine to_as rfl rfl ?_
  refine to_nil ?_
  refine tn_code ?_
  refine t_seq ?_
  refine t_reg ?_
  first | refine to_lda rfl rfl rfl ?_ | refine to_ldea rfl (by assumption) rfl rfl ?_
  refine to_mv rfl rfl ?_
  refine to_call0 rfl rfl (fun w s => r_spans_f sh pt gd _ [] w (rdw s) (rdw s) hl ho) rfl ?_
  refine to_ex rfl rfl rfl ?_
  refine to_ex rfl rfl rfl ?_
  first | refine to_st rfl rfl rfl rfl ?_ | refine to_ste rfl rfl (by assumption) rfl rfl ?_
  refine to_as rfl rfl ?_
  refine to_nil ?_
  refine tn_code ?_
  refine t_ret2 rfl rfl (res_cellA rfl rfl) (res_tmp rfl) (fun w' s => ?_)
  rfl

end Go.Proofs


namespace Go.Proofs
open Go Go.Sx Go.RowKit

def untS (sh : Sh) (k : Nat) : Sh := { sh with rows := sh.rows.take (k + 1) }
theorem untS_len {sh : Sh} {k : Nat} (hk : k < sh.rows.length) : (untS sh k).rows.length = k + 1 := by simp [untS]; omega
theorem untS_ok {sh : Sh} {k : Nat} (hs : isSh sh = true) (hk : k < sh.rows.length) : isSh (untS sh k) = true := by
  have hb := isSh_b hs
  have hl := untS_len hk
  have h2 := hs
  simp only [isSh, Bool.and_eq_true] at h2 ⊢
  refine ⟨⟨⟨h2.1.1.1, ?_⟩, h2.1.2⟩, ?_⟩
  · rw [hl]; exact inB_iff.2 (by omega)
  · rw [List.all_eq_true] at h2 ⊢
    exact fun x hx => h2.2 x (List.mem_of_mem_take hx)
def rFst (sh : Sh) (e : Int) : Int × Int := match (List.range sh.rows.length).find? (fun k => decide (rDif (untS sh k) e ≠ (0, 0))) with
  | some k => ((k : Int), 0)
  | none => (0, 5)
theorem rFst_some {sh : Sh} {e : Int} {k : Nat} (hk : k < sh.rows.length) (hall : ∀ j, j < k → rDif (untS sh j) e = (0, 0)) (h : rDif (untS sh k) e ≠ (0, 0)) : rFst sh e = ((k : Int), 0) := by
  have : (List.range sh.rows.length).find? (fun k => decide (rDif (untS sh k) e ≠ (0, 0))) = some k := by
    rw [List.find?_range_eq_some]
    exact ⟨by simpa using h, List.mem_range.2 hk, fun j hj => by simpa using hall j hj⟩
  simp only [rFst, this]
theorem rFst_none {sh : Sh} {e : Int} (hall : ∀ j, j < sh.rows.length → rDif (untS sh j) e = (0, 0)) : rFst sh e = (0, 5) := by
  have : (List.range sh.rows.length).find? (fun k => decide (rDif (untS sh k) e ≠ (0, 0))) = none := by
    rw [List.find?_range_eq_none]
    exact fun j hj => by simpa using hall j hj
  simp only [rFst, this]
theorem dif_unt (sh : Sh) (pt : Pt) (k : Nat) (e : Int) (i : Nat) (w : World) (hre : Ro w 0 w.heap.size pt.ea sh.errs.length pt.ec 1 (ints sh.errs)) (hrr : Ro w 0 w.heap.size pt.ra sh.rows.length pt.rc 1 (ints sh.rows)) (hs : isSh sh = true) (he : sh.errs[k]? = some e) (hi : i < sh.rows.length) : Calls Tryz.prog 43 #[.agg [.int .i64 sh.unit, .int .i64 sh.rule, .slice pt.ea sh.errs.length pt.ec, .slice pt.ra (i + 1) pt.rc].toArray, .int .i64 (k : Int)] w (RetV w (.tuple #[spanV (rDif (untS sh i) e), .int .i64 0])) := by
  have hr2 := ro_take hrr (k := i + 1) (by omega)
  rw [← List.map_take] at hr2
  have h := r_Differs_t (untS sh i) pt k e w hre (by rw [untS_len hi]; exact hr2) (untS_ok hs hi) he
  have h3 : shV (untS sh i) pt = .agg [.int .i64 sh.unit, .int .i64 sh.rule, .slice pt.ea sh.errs.length pt.ec, .slice pt.ra (i + 1) pt.rc].toArray := by
    simp only [shV, shC, untS_len hi]; rfl
  rw [h3] at h
  exact h

set_option maxRecDepth 20000 in
theorem r_First_t (sh : Sh) (pt : Pt) (k : Nat) (e : Int) (w : World) (hre : Ro w 0 w.heap.size pt.ea sh.errs.length pt.ec 1 (ints sh.errs)) (hrr : Ro w 0 w.heap.size pt.ra sh.rows.length pt.rc 1 (ints sh.rows)) (hs : isSh sh = true) (he : sh.errs[k]? = some e) : Calls Tryz.prog 48 #[shV sh pt, (.int .i64 (k : Int))] w (RetV w (.tuple #[.int .i64 (rFst sh e).1, .int .i64 (rFst sh e).2])) := by
  have heb := errs_b (isSh_e hs) e (List.mem_of_getElem? he)
  have hbb := isSh_b hs
  have hxe := map_get (f := intC) he
  have hke := (List.getElem?_eq_some_iff.1 he).1
  have hrle := hrr.le
  refine calls_T0 (av := [_, _]) Tryz.func48 rfl rfl rfl ?_
  refine t_seq ?_
  refine t_reg ?_
  refine to_box rfl rfl (fun b2 => ?_)
  refine to_as rfl rfl ?_
  refine to_as rfl rfl ?_
  refine to_nil ?_
  refine tn_code ?_
  refine t_seq ?_
  refine t_seq ?_
  refine t_reg ?_
  first | refine to_lda rfl rfl rfl ?_ | refine to_ldea rfl (by assumption) rfl rfl ?_
  refine to_mv rfl rfl ?_
  refine to_call0 rfl rfl (fun w s => r_open_t sh pt k e w (rdw s) (rdw s) hs he) rfl ?_
  refine to_mv rfl rfl ?_
  refine to_ex rfl rfl rfl ?_
  refine to_ex rfl rfl rfl ?_
  refine to_alloc rfl (fun b6 => ?_)
  first | refine to_st rfl rfl rfl rfl ?_ | refine to_ste rfl rfl (by assumption) rfl rfl ?_
  refine to_as rfl rfl ?_
  refine to_nil ?_
  refine tn_code ?_
  refine t_seq ?_
  refine t_reg ?_
  refine to_mv rfl rfl ?_
  refine to_neq rfl rfl rfl ?_
  refine to_fix (s := 19) (b' := false) rfl (rfl) ?_
  refine to_nil ?_
  refine tn_code ?_
  refine t_ifF rfl ?_
  refine t_skip ?_
  refine tn_code ?_
  refine t_seq ?_
  refine t_seq ?_
  refine t_reg ?_
  first | refine to_fa rfl rfl rfl (by simp only [Nat.reduceAdd]; rfl) rfl ?_ | refine to_fae rfl rfl rfl (by simp only [Nat.reduceAdd]; rfl) rfl ?_
  first | refine to_lds rfl rfl rfl ?_ | refine to_ldes rfl (by assumption) rfl rfl ?_
  refine to_lenS rfl rfl ?_
  refine to_mv rfl rfl ?_
  refine to_nil ?_
  refine tn_code ?_
  refine t_blk ?_
  refine t_loop2 (ι := Nat) (fun i => i ≤ sh.rows.length ∧ ∀ j, j < i → rDif (untS sh j) e = (0, 0)) (fun i => [(1, (.int .i64 (k : Int))), (2, (.pointer (some ⟨b2, 0, none⟩))), (23, .int .i64 (sh.rows.length : Int)), (24, .int .i64 (i : Int))]) (fun i => [.own b2 (isC (shC sh pt) 33), .snap 0 w.heap.size w]) (fun i => sh.rows.length - i) (0) [.own b2 (isC (shC sh pt) 33), .snap 0 w.heap.size w] (rfl) (⟨Nat.zero_le _, fun j hj => absurd hj (Nat.not_lt_zero _)⟩) (⟨rfl, rfl, rfl, rfl, trivial⟩) ?_
  rintro i ⟨hk, hall⟩
  show T _ _ _ ⟨_, [(1, (.int .i64 (k : Int))), (2, (.pointer (some ⟨b2, 0, none⟩))), (23, .int .i64 (sh.rows.length : Int)), (24, .int .i64 (i : Int))], _⟩ [.own b2 (isC (shC sh pt) 33), .snap 0 w.heap.size w]
  refine t_seq ?_
  refine t_reg ?_
  refine to_lss rfl rfl rfl ?_
  refine to_nil ?_
  refine tn_code ?_
  refine t_seq ?_
  refine t_if rfl (fun h1 => ?_) (fun h1 => ?_)
  · try simp only [decide_eq_true_eq, decide_eq_false_iff_not, Bool.not_eq_true', Bool.not_eq_false', Int.not_lt, Int.not_le, ne_eq, Decidable.not_not] at h1
    try have h1b := inB_iff.1 h1
    have hil : i < sh.rows.length := by omega
    refine t_skip ?_
    refine tn_code ?_
    refine t_seq ?_
    refine t_blk ?_
    refine t_seq ?_
    refine t_reg ?_
    refine to_mv rfl rfl ?_
    refine to_as rfl rfl ?_
    refine to_nil ?_
    refine tn_code ?_
    refine t_seq ?_
    refine t_reg ?_
    first | refine to_lda rfl rfl rfl ?_ | refine to_ldea rfl (by assumption) rfl rfl ?_
    refine to_alloc rfl (fun b9 => ?_)
    first | refine to_st rfl rfl rfl rfl ?_ | refine to_ste rfl rfl (by assumption) rfl rfl ?_
    refine to_nil ?_
    refine tn_code ?_
    refine t_seq ?_
    refine t_reg ?_
    first | refine to_fa rfl rfl rfl (by simp only [Nat.reduceAdd]; rfl) rfl ?_ | refine to_fae rfl rfl rfl (by simp only [Nat.reduceAdd]; rfl) rfl ?_
    first | refine to_lds rfl rfl rfl ?_ | refine to_ldes rfl (by assumption) rfl rfl ?_
    refine to_mv rfl rfl ?_
    refine to_add rfl rfl (by omega) rfl ?_
    refine to_slH (k := i + 1) rfl rfl (by omega) rfl ?_
    first | refine to_fa rfl rfl rfl (by simp only [Nat.reduceAdd]; rfl) rfl ?_ | refine to_fae rfl rfl rfl (by simp only [Nat.reduceAdd]; rfl) rfl ?_
    first | refine to_st rfl rfl rfl rfl ?_ | refine to_ste rfl rfl (by assumption) rfl rfl ?_
    refine to_nil ?_
    refine tn_code ?_
    refine t_seq ?_
    refine t_reg ?_
    first | refine to_lda rfl rfl rfl ?_ | refine to_ldea rfl (by assumption) rfl rfl ?_
    refine to_mv rfl rfl ?_
    refine to_call0 rfl rfl (fun w s => dif_unt sh pt k e i w (rdw s) (rdw s) hs he hil) rfl ?_
    refine to_mv rfl rfl ?_
    refine to_ex rfl rfl rfl ?_
    refine to_ex rfl rfl rfl ?_
    refine to_alloc rfl (fun b10 => ?_)
    first | refine to_st rfl rfl rfl rfl ?_ | refine to_ste rfl rfl (by assumption) rfl rfl ?_
    refine to_as rfl rfl ?_
    refine to_nil ?_
    refine tn_code ?_
    refine t_seq ?_
    refine t_reg ?_
    first | refine to_fa rfl rfl rfl (by simp only [Nat.reduceAdd]; rfl) rfl ?_ | refine to_fae rfl rfl rfl (by simp only [Nat.reduceAdd]; rfl) rfl ?_
    first | refine to_lds rfl rfl rfl ?_ | refine to_ldes rfl (by assumption) rfl rfl ?_
    refine to_neq rfl rfl rfl ?_
    refine to_mv rfl rfl ?_
    refine to_gs rfl rfl rfl (fun h2 => ?_) (fun h2 => ?_)
    · try simp only [decide_eq_true_eq, decide_eq_false_iff_not, Bool.not_eq_true', Bool.not_eq_false', Int.not_lt, Int.not_le, ne_eq, Decidable.not_not] at h2
      try have h2b := inB_iff.1 h2
      refine to_gf rfl rfl rfl rfl ?_
      refine to_gf rfl rfl rfl rfl ?_
      refine to_gf rfl rfl rfl rfl ?_
      refine to_pkT rfl rfl rfl ?_
      refine to_nil ?_
      refine tn_code ?_
      refine t_ifT rfl ?_
      refine t_seq ?_
      refine t_reg ?_
      refine to_mv rfl rfl ?_
      refine to_as rfl rfl ?_
      refine to_as rfl rfl ?_
      refine to_nil ?_
      refine tn_code ?_
      refine t_ret2 rfl rfl (res_tmp rfl) (res_tmp rfl) (fun w' s => ?_)
      first | (rw [rFst_none hall]) | (rw [rFst_some hil hall (fun hh => by simp_all)])
    · try simp only [decide_eq_true_eq, decide_eq_false_iff_not, Bool.not_eq_true', Bool.not_eq_false', Int.not_lt, Int.not_le, ne_eq, Decidable.not_not] at h2
      try have h2b := inB_iff.1 h2
      refine to_gt rfl rfl ?_
      first | refine to_fa rfl rfl rfl (by simp only [Nat.reduceAdd]; rfl) rfl ?_ | refine to_fae rfl rfl rfl (by simp only [Nat.reduceAdd]; rfl) rfl ?_
      refine to_gt rfl rfl ?_
      first | refine to_lds rfl rfl rfl ?_ | refine to_ldes rfl (by assumption) rfl rfl ?_
      refine to_gt rfl rfl ?_
      refine to_neq rfl rfl rfl ?_
      refine to_pkF rfl rfl rfl ?_
      refine to_nil ?_
      refine tn_code ?_
      refine t_if rfl (fun h3 => ?_) (fun h3 => ?_)
      · try simp only [decide_eq_true_eq, decide_eq_false_iff_not, Bool.not_eq_true', Bool.not_eq_false', Int.not_lt, Int.not_le, ne_eq, Decidable.not_not] at h3
        try have h3b := inB_iff.1 h3
        have hne : rDif (untS sh i) e ≠ (0, 0) := fun hh => by simp_all
        refine t_seq ?_
        refine t_reg ?_
        refine to_mv rfl rfl ?_
        refine to_as rfl rfl ?_
        refine to_as rfl rfl ?_
        refine to_nil ?_
        refine tn_code ?_
        refine t_ret2 rfl rfl (res_tmp rfl) (res_tmp rfl) (fun w' s => ?_)
        first | (rw [rFst_none hall]) | (rw [rFst_some hil hall (fun hh => by simp_all)])
      · try simp only [decide_eq_true_eq, decide_eq_false_iff_not, Bool.not_eq_true', Bool.not_eq_false', Int.not_lt, Int.not_le, ne_eq, Decidable.not_not] at h3
        try have h3b := inB_iff.1 h3
        refine t_skip ?_
        refine tn_blk ?_
        refine tn_code ?_
        refine t_reg ?_
        refine to_add rfl rfl (by omega) rfl ?_
        refine to_mv rfl rfl ?_
        refine to_nil ?_
        exact tn_loop2 (i + 1) [.own b2 (isC (shC sh pt) 33), .snap 0 w.heap.size w] (rfl) (⟨by omega, all_succ hall (Prod.ext (by simp_all) (by simp_all))⟩) (by omega) (⟨rfl, rfl, rfl, rfl, trivial⟩)
  · try simp only [decide_eq_true_eq, decide_eq_false_iff_not, Bool.not_eq_true', Bool.not_eq_false', Int.not_lt, Int.not_le, ne_eq, Decidable.not_not] at h1
    try have h1b := inB_iff.1 h1
    have hk2 : i = sh.rows.length := by omega
    subst hk2
    refine t_exit ?_
    refine tx_code ?_
    refine tx_inv ?_
    refine tx_blk ?_
    refine tn_code ?_
    refine t_seq ?_
    refine t_reg ?_
    refine to_as rfl rfl ?_
    refine to_as rfl rfl ?_
    refine to_nil ?_
    refine tn_code ?_
    refine t_ret2 rfl rfl (res_tmp rfl) (res_tmp rfl) (fun w' s => ?_)
    first | (rw [rFst_none hall]) | (rw [rFst_some hil hall (fun hh => by simp_all)])

set_option maxRecDepth 20000 in
theorem r_First_f (sh : Sh) (pt : Pt) (gd : Int) (w : World) (hre : Ro w 0 w.heap.size pt.ea sh.errs.length pt.ec 1 (ints sh.errs)) (hrr : Ro w 0 w.heap.size pt.ra sh.rows.length pt.rc 1 (ints sh.rows)) (hl : sh.errs.length ≤ 1000000) (ho : okG sh gd = false) : Calls Tryz.prog 48 #[shV sh pt, (.int .i64 gd)] w (RetV w (.tuple #[.int .i64 0, .int .i64 2])) := by
  refine calls_T0 (av := [_, _]) Tryz.func48 rfl rfl rfl ?_
  refine t_seq ?_
  refine t_reg ?_
  refine to_box rfl rfl (fun b2 => ?_)
  refine to_as rfl rfl ?_
  refine to_as rfl rfl ?_
  refine to_nil ?_
  refine tn_code ?_
  refine t_seq ?_
  refine t_seq ?_
  refine t_reg ?_
  first | refine to_lda rfl rfl rfl ?_ | refine to_ldea rfl (by assumption) rfl rfl ?_
  refine to_mv rfl rfl ?_
  refine to_call0 rfl rfl (fun w s => r_open_f sh pt gd w (rdw s) (rdw s) hl ho) rfl ?_
  refine to_mv rfl rfl ?_
  refine to_ex rfl rfl rfl ?_
  refine to_ex rfl rfl rfl ?_
  refine to_alloc rfl (fun b6 => ?_)
  first | refine to_st rfl rfl rfl rfl ?_ | refine to_ste rfl rfl (by assumption) rfl rfl ?_
  refine to_as rfl rfl ?_
  refine to_nil ?_
  refine tn_code ?_
  refine t_seq ?_
  refine t_reg ?_
  refine to_mv rfl rfl ?_
  refine to_neq rfl rfl rfl ?_
  refine to_fix (s := 19) (b' := true) rfl (rfl) ?_
  refine to_nil ?_
  refine tn_code ?_
  refine t_ifT rfl ?_
  refine t_seq ?_
  refine t_reg ?_
  refine to_mv rfl rfl ?_
  refine to_as rfl rfl ?_
  refine to_as rfl rfl ?_
  refine to_nil ?_
  refine tn_code ?_
  refine t_ret2 rfl rfl (res_tmp rfl) (res_tmp rfl) (fun w' s => ?_)
  rfl

theorem sumk_bd {xs : List Int} (hn : xs.length ≤ 1000) (hb : ∀ x ∈ xs, -1099511627776 ≤ x ∧ x ≤ 1099511627776) (k : Nat) : -1099511627776000 ≤ sumI (xs.take k) ∧ sumI (xs.take k) ≤ 1099511627776000 := by
  have h := sum_bd (B := 1099511627776) (by decide) (xs := xs.take k) (fun x hx => hb x (List.mem_of_mem_take hx))
  have h2 : (xs.take k).length ≤ 1000 := by simp; omega
  omega

set_option maxRecDepth 20000 in
theorem r_sum (xs : List Int) (a : Option Addr) (c : Nat) (w : World) (hr : Ro w 0 w.heap.size a xs.length c 1 (ints xs)) (hn : xs.length ≤ 1000) (hb : ∀ x ∈ xs, -1099511627776 ≤ x ∧ x ≤ 1099511627776) : Calls Tryz.prog 110 #[.slice a xs.length c] w (RetV w ((.int .i64 (sumI xs)))) := by
  refine calls_T0 (av := [_]) Tryz.func110 rfl rfl rfl ?_
  refine t_seq ?_
  refine t_reg ?_
  refine to_as rfl rfl ?_
  refine to_nil ?_
  refine tn_code ?_
  refine t_seq ?_
  refine t_reg ?_
  refine to_as rfl rfl ?_
  refine to_nil ?_
  refine tn_code ?_
  refine t_seq ?_
  refine t_seq ?_
  refine t_reg ?_
  refine to_mv rfl rfl ?_
  refine to_lenS rfl rfl ?_
  refine to_mv rfl rfl ?_
  refine to_nil ?_
  refine tn_code ?_
  refine t_blk ?_
  refine t_loop2 (ι := Nat) (fun k => k ≤ xs.length) (fun k => [(3, (.int .i64 (sumI (xs.take k)))), (6, .slice a xs.length c), (7, .int .i64 (xs.length : Int)), (8, .int .i64 (k : Int))]) (fun k => [.snap 0 w.heap.size w]) (fun k => xs.length - k) (0) [.snap 0 w.heap.size w] (rfl) (Nat.zero_le _) (⟨rfl, rfl, rfl, rfl, trivial⟩) ?_
  rintro k hk
  show T _ _ _ ⟨_, [(3, (.int .i64 (sumI (xs.take k)))), (6, .slice a xs.length c), (7, .int .i64 (xs.length : Int)), (8, .int .i64 (k : Int))], _⟩ [.snap 0 w.heap.size w]
  refine t_seq ?_
  refine t_reg ?_
  refine to_lss rfl rfl rfl ?_
  refine to_nil ?_
  refine tn_code ?_
  refine t_seq ?_
  refine t_if rfl (fun h1 => ?_) (fun h1 => ?_)
  · try simp only [decide_eq_true_eq, decide_eq_false_iff_not, Bool.not_eq_true', Bool.not_eq_false', Int.not_lt, Int.not_le, ne_eq, Decidable.not_not] at h1
    try have h1b := inB_iff.1 h1
    obtain ⟨y, hy⟩ := some_get (xs := xs) (k := k) (by omega)
    have hx := map_get (f := intC) hy
    have hs := sumk_bd hn hb k
    have hyb := hb y (List.mem_of_getElem? hy)
    refine t_skip ?_
    refine tn_code ?_
    refine t_seq ?_
    refine t_blk ?_
    refine t_seq ?_
    refine t_reg ?_
    first | refine to_ix rfl rfl rfl (by first | omega | decide) (by first | omega | decide) rfl ?_ | refine to_ixi rfl rfl rfl (by omega) (by omega) (by omega) rfl ?_
    first | refine to_lds rfl rfl rfl ?_ | refine to_ldes rfl (by assumption) rfl rfl ?_
    refine to_as rfl rfl ?_
    refine to_nil ?_
    refine tn_code ?_
    refine t_reg ?_
    refine to_mv rfl rfl ?_
    refine to_mv rfl rfl ?_
    refine to_add rfl rfl (by omega) rfl ?_
    refine to_as rfl rfl ?_
    refine to_nil ?_
    refine tn_blk ?_
    refine tn_code ?_
    refine t_reg ?_
    refine to_add rfl rfl (by omega) rfl ?_
    refine to_mv rfl rfl ?_
    refine to_nil ?_
    exact tn_loop2 (k + 1) [.snap 0 w.heap.size w] (rfl) (by omega) (by omega) (⟨congrArg (fun z => some (Value.int .i64 z)) (sumI_take hy).symm, rfl, rfl, rfl, trivial⟩)
  · try simp only [decide_eq_true_eq, decide_eq_false_iff_not, Bool.not_eq_true', Bool.not_eq_false', Int.not_lt, Int.not_le, ne_eq, Decidable.not_not] at h1
    try have h1b := inB_iff.1 h1
    have hk2 : k = xs.length := by omega
    subst hk2
    rw [List.take_length]
    refine t_exit ?_
    refine tx_code ?_
    refine tx_inv ?_
    refine tx_blk ?_
    refine tn_code ?_
    refine t_seq ?_
    refine t_reg ?_
    refine to_mv rfl rfl ?_
    refine to_as rfl rfl ?_
    refine to_nil ?_
    refine tn_code ?_
    refine t_ret1 rfl rfl (res_tmp rfl) (fun w' s => ?_)
    rfl

def failT (sh : Sh) (t : List Int) : Bool := decide (figO (fig sh) t ≠ fig sh (sumI t))
def failB (sh : Sh) (e : Int) (m : Nat) (now : List Int) : Bool := (truR e (sh.rows.drop m)).any fun t => failT sh (now ++ t)
theorem figk_succ {F : Int → Int} {xs : List Int} {k : Nat} {y : Int} (h : xs[k]? = some y) : figO F (xs.take (k + 1)) = figO F (xs.take k) + F y := by rw [take_snoc h, figO_app]; simp [figO, sumI_cons, sumI_nil]
theorem failB_t {sh : Sh} {e : Int} {m : Nat} {now : List Int} (he : 0 ≤ e) {n : Int} {v : Sp} (hv : sumO (fig sh) e (sh.rows.drop m) n = some v) (h : figO (fig sh) now + v.1 ≠ fig sh (n + sumI now) ∨ figO (fig sh) now + v.2 ≠ fig sh (n + sumI now)) : failB sh e m now = true := by
  have hE := sumO_isE (F := fig sh) he (sh.rows.drop m) n
  rw [hv] at hE
  obtain ⟨⟨t, a1, a2, a3⟩, ⟨u, b1, b2, b3⟩, _⟩ := hE
  refine List.any_eq_true.2 ?_
  rcases h with h | h
  · refine ⟨t, (mem_truR he).2 a1, ?_⟩
    simp only [failT, decide_eq_true_eq, figO_app, sumI_app, a2, a3]
    rwa [Int.add_comm n] at h
  · refine ⟨u, (mem_truR he).2 b1, ?_⟩
    simp only [failT, decide_eq_true_eq, figO_app, sumI_app, b2, b3]
    rwa [Int.add_comm n] at h
theorem failB_f {sh : Sh} {e : Int} {m : Nat} {now : List Int} (he : 0 ≤ e) {l : List En} {c : Nat} (ok : OkN l c (sumO (fig sh) e (sh.rows.drop m)))
    (h : ∀ en ∈ l, figO (fig sh) now + en.2.1.1 = fig sh (en.1 + sumI now) ∧ figO (fig sh) now + en.2.1.2 = fig sh (en.1 + sumI now)) : failB sh e m now = false := by
  rw [failB, List.any_eq_false]
  intro t ht
  have ht2 := (mem_truR he).1 ht
  have hE := sumO_isE (F := fig sh) he (sh.rows.drop m) (sumI t)
  cases hq : sumO (fig sh) e (sh.rows.drop m) (sumI t) with
  | none => rw [hq] at hE; exact absurd ⟨t, ht2, rfl, rfl⟩ (hE _)
  | some v =>
    rw [hq] at hE
    have h1 := hE.2.2 _ ⟨t, ht2, rfl, rfl⟩
    rw [← ok.get] at hq
    obtain ⟨en, hen, h2, h3⟩ := lget_some hq
    have h4 := h en hen
    rw [h2, h3] at h4
    simp only [failT, figO_app, sumI_app, decide_eq_true_eq]
    rw [Int.add_comm (sumI now)]
    omega

theorem now_bd {sh : Sh} {now : List Int} (hs : isSh sh = true) (hnl : now.length ≤ 5) (hnb : ∀ x ∈ now, -100008 ≤ x ∧ x ≤ 100008) (k : Nat) : (-500045 ≤ figO (fig sh) (now.take k) ∧ figO (fig sh) (now.take k) ≤ 500045) ∧ -500045 ≤ sumI now ∧ sumI now ≤ 500045 := by
  have h1 := sum_bd (B := 100009) (by decide) (xs := (now.take k).map (fig sh)) (fun x hx => by
    obtain ⟨y, hy, rfl⟩ := List.mem_map.1 hx
    have := hnb y (List.mem_of_mem_take hy)
    exact fig_b (B := 100008) hs this)
  have h2 := sum_bd (B := 100009) (by decide) (xs := now) (fun x hx => by have := hnb x hx; omega)
  have h3 : (now.take k).length ≤ 5 := by simp; omega
  rw [List.length_map] at h1
  simp only [figO]
  omega

set_option maxRecDepth 20000 in
theorem r_fails (sh : Sh) (pt : Pt) (k : Nat) (e : Int) (now : List Int) (na : Option Addr) (nc : Nat) (m rr cc : Nat) (lm : List En) (w : World) (hre : Ro w 0 w.heap.size pt.ea sh.errs.length pt.ec 1 (ints sh.errs)) (hrr : Ro w 0 w.heap.size pt.ra sh.rows.length pt.rc 1 (ints sh.rows)) (hs : isSh sh = true) (he : sh.errs[k]? = some e) (hrn : Ro w 0 w.heap.size na now.length nc 1 (ints now)) (hnl : now.length ≤ 5) (hnb : ∀ x ∈ now, -100008 ≤ x ∧ x ≤ 100008) (hm : m ≤ sh.rows.length) (hmap : NB w 0 w.heap.size rr lm cc) (hok : OkN lm cc (sumO (fig sh) e (sh.rows.drop m))) : Calls Tryz.prog 90 #[tbV sh pt (k : Int), .slice na now.length nc, .map (some rr)] w (RetV w (.bool (failB sh e m now))) := by
  have heb := errs_b (isSh_e hs) e (List.mem_of_getElem? he)
  have hbb := isSh_b hs
  have hxe := map_get (f := intC) he
  have hke := (List.getElem?_eq_some_iff.1 he).1
  have hfb := now_bd hs hnl hnb
  refine calls_T0 (av := [_, _, _]) Tryz.func90 rfl rfl rfl ?_
  refine t_seq ?_
  refine t_reg ?_
  refine to_box rfl rfl (fun b3 => ?_)
  refine to_as rfl rfl ?_
  refine to_nil ?_
  refine tn_code ?_
  refine t_seq ?_
  refine t_reg ?_
  refine to_as rfl rfl ?_
  refine to_nil ?_
  refine tn_code ?_
  refine t_seq ?_
  refine t_seq ?_
  refine t_reg ?_
  refine to_mv rfl rfl ?_
  refine to_lenS rfl rfl ?_
  refine to_mv rfl rfl ?_
  refine to_nil ?_
  refine tn_code ?_
  refine t_blk ?_
  refine t_loop2 (ι := Nat) (fun j => j ≤ now.length) (fun j => [(1, .slice na now.length nc), (2, .map (some rr)), (3, (.pointer (some ⟨b3, 0, none⟩))), (7, (.int .i64 (figO (fig sh) (now.take j)))), (13, .slice na now.length nc), (14, .int .i64 (now.length : Int)), (15, .int .i64 (j : Int))]) (fun j => [.own b3 (isC (tbC sh pt (k : Int)) 86), .snap 0 w.heap.size w]) (fun j => now.length - j) (0) [.own b3 (isC (tbC sh pt (k : Int)) 86), .snap 0 w.heap.size w] (rfl) (Nat.zero_le _) (⟨rfl, rfl, rfl, rfl, rfl, rfl, rfl, trivial⟩) ?_
  rintro j hk
  show T _ _ _ ⟨_, [(1, .slice na now.length nc), (2, .map (some rr)), (3, (.pointer (some ⟨b3, 0, none⟩))), (7, (.int .i64 (figO (fig sh) (now.take j)))), (13, .slice na now.length nc), (14, .int .i64 (now.length : Int)), (15, .int .i64 (j : Int))], _⟩ [.own b3 (isC (tbC sh pt (k : Int)) 86), .snap 0 w.heap.size w]
  refine t_seq ?_
  refine t_reg ?_
  refine to_lss rfl rfl rfl ?_
  refine to_nil ?_
  refine tn_code ?_
  refine t_seq ?_
  refine t_if rfl (fun h1 => ?_) (fun h1 => ?_)
  · try simp only [decide_eq_true_eq, decide_eq_false_iff_not, Bool.not_eq_true', Bool.not_eq_false', Int.not_lt, Int.not_le, ne_eq, Decidable.not_not] at h1
    try have h1b := inB_iff.1 h1
    obtain ⟨y, hy⟩ := some_get (xs := now) (k := j) (by omega)
    have hx := map_get (f := intC) hy
    have hyb := hnb y (List.mem_of_getElem? hy)
    have hfy := fig_b (sh := sh) (v := y) (B := 100008) hs (by omega)
    have hfj := hfb j
    refine t_skip ?_
    refine tn_code ?_
    refine t_seq ?_
    refine t_blk ?_
    refine t_seq ?_
    refine t_reg ?_
    first | refine to_ix rfl rfl rfl (by first | omega | decide) (by first | omega | decide) rfl ?_ | refine to_ixi rfl rfl rfl (by omega) (by omega) (by omega) rfl ?_
    first | refine to_lds rfl rfl rfl ?_ | refine to_ldes rfl (by assumption) rfl rfl ?_
    refine to_as rfl rfl ?_
    refine to_nil ?_
    refine tn_code ?_
    refine t_reg ?_
    refine to_mv rfl rfl ?_
    first | refine to_lda rfl rfl rfl ?_ | refine to_ldea rfl (by assumption) rfl rfl ?_
    refine to_mv rfl rfl ?_
    refine to_call0 rfl rfl (fun w s => r_figure sh pt _ _ w hs (by omega)) rfl ?_
    refine to_add rfl rfl (by omega) rfl ?_
    refine to_as rfl rfl ?_
    refine to_nil ?_
    refine tn_blk ?_
    refine tn_code ?_
    refine t_reg ?_
    refine to_add rfl rfl (by omega) rfl ?_
    refine to_mv rfl rfl ?_
    refine to_nil ?_
    exact tn_loop2 (j + 1) [.own b3 (isC (tbC sh pt (k : Int)) 86), .snap 0 w.heap.size w] (rfl) (by omega) (by omega) (⟨rfl, rfl, rfl, congrArg (fun z => some (Value.int .i64 z)) (figk_succ hy).symm, rfl, rfl, rfl, trivial⟩)
  · try simp only [decide_eq_true_eq, decide_eq_false_iff_not, Bool.not_eq_true', Bool.not_eq_false', Int.not_lt, Int.not_le, ne_eq, Decidable.not_not] at h1
    try have h1b := inB_iff.1 h1
    have hk2 : j = now.length := by omega
    subst hk2
    rw [List.take_length]
    have hfj := hfb now.length
    rw [List.take_length] at hfj
    refine t_exit ?_
    refine tx_code ?_
    refine tx_inv ?_
    refine tx_blk ?_
    refine tn_code ?_
    refine t_seq ?_
    refine t_seq ?_
    refine t_reg ?_
    refine to_mv rfl rfl ?_
    refine to_rgN rfl rfl (fun b26 => ?_)
    refine to_nil ?_
    refine tn_code ?_
    refine t_blk ?_
    refine t_loop2 (ι := List En × Option En) (fun ((left, cur) : List En × Option En) => (∀ x ∈ left, x ∈ lm) ∧ ∀ en ∈ lm, ¬ en ∈ left → figO (fig sh) now + en.2.1.1 = fig sh (en.1 + sumI now) ∧ figO (fig sh) now + en.2.1.2 = fig sh (en.1 + sumI now)) (fun ((left, cur) : List En × Option En) => [(1, .slice na now.length nc), (3, (.pointer (some ⟨b3, 0, none⟩))), (7, (.int .i64 (figO (fig sh) now))), (26, (.pointer (some ⟨b26, 0, none⟩)))]) (fun ((left, cur) : List En × Option En) => [.own b26 (isIN rr lm cc left cur), .own b3 (isC (tbC sh pt (k : Int)) 86), .snap 0 w.heap.size w]) (fun ((left, cur) : List En × Option En) => left.length) ((lm, none)) [.own b26 (isIN rr lm cc lm none), .own b3 (isC (tbC sh pt (k : Int)) 86), .snap 0 w.heap.size w] (rfl) (⟨fun x hx => hx, fun en h1 h2 => absurd h1 h2⟩) (⟨rfl, rfl, rfl, rfl, trivial⟩) ?_
    rintro ⟨left, cur⟩ ⟨hsub, hall⟩
    try dsimp only at hsub hall
    try dsimp only at hk
    show T _ _ _ ⟨_, [(1, .slice na now.length nc), (3, (.pointer (some ⟨b3, 0, none⟩))), (7, (.int .i64 (figO (fig sh) now))), (26, (.pointer (some ⟨b26, 0, none⟩)))], _⟩ [.own b26 (isIN rr lm cc left cur), .own b3 (isC (tbC sh pt (k : Int)) 86), .snap 0 w.heap.size w]
    refine t_seq ?_
    refine t_reg ?_
    refine to_nxN rfl hok rfl (fun hl0 => ?_) (fun en hen henl hG => ?_)
    · subst hl0
      have hfin := failB_f heb.1 hok (fun en hen => hall en hen (by simp))
      refine to_ex rfl rfl rfl ?_
      refine to_nil ?_
      refine tn_code ?_
      refine t_seq ?_
      refine t_ifF rfl ?_
      refine t_exit ?_
      refine tx_code ?_
      refine tx_inv ?_
      refine tx_blk ?_
      refine tn_code ?_
      refine t_seq ?_
      refine t_reg ?_
      refine to_as rfl rfl ?_
      refine to_nil ?_
      refine tn_code ?_
      refine t_ret1 rfl rfl (res_tmp rfl) (fun w' s => ?_)
      first | (rw [hfin]) | (rw [failB_t heb.1 hG (by first | (left; assumption) | (right; assumption) | (simp_all; done))])
    · have hgb := sums_bd (rs := sh.rows.drop m) hs heb (fun z hz => List.mem_of_mem_drop hz) (by simp; omega) hG
      refine to_ex rfl rfl rfl ?_
      refine to_nil ?_
      refine tn_code ?_
      refine t_seq ?_
      refine t_ifT rfl ?_
      refine t_skip ?_
      refine tn_code ?_
      refine t_blk ?_
      refine t_seq ?_
      refine t_reg ?_
      refine to_enN rfl hok henl rfl ?_
      refine to_ex rfl rfl rfl ?_
      refine to_ex rfl rfl rfl ?_
      refine to_alloc rfl (fun b11 => ?_)
      refine to_as rfl rfl ?_
      first | refine to_st rfl rfl rfl rfl ?_ | refine to_ste rfl rfl (by assumption) rfl rfl ?_
      refine to_nil ?_
      refine tn_code ?_
      refine t_seq ?_
      refine t_regD rfl (by kernel_rfl) (by kernel_rfl) ?_
      first | refine to_lda rfl rfl rfl ?_ | refine to_ldea rfl (by assumption) rfl rfl ?_
      refine to_mv rfl rfl ?_
      refine to_mv rfl rfl ?_
      refine to_call0 rfl rfl (fun w s => r_sum _ _ _ w (rdw s) (by omega) (fun x hx => by have := hnb x hx; omega)) rfl ?_
      refine to_add rfl rfl (by omega) rfl ?_
      refine to_call0 rfl rfl (fun w s => r_figure sh pt _ _ w hs (by omega)) rfl ?_
      refine to_as rfl rfl ?_
      refine to_nil ?_
      refine tn_code ?_
      refine t_seq ?_
      refine t_reg ?_
      refine to_mv rfl rfl ?_
      first | refine to_fa rfl rfl rfl (by simp only [Nat.reduceAdd]; rfl) rfl ?_ | refine to_fae rfl rfl rfl (by simp only [Nat.reduceAdd]; rfl) rfl ?_
      first | refine to_lds rfl rfl rfl ?_ | refine to_ldes rfl (by assumption) rfl rfl ?_
      refine to_add rfl rfl (by omega) rfl ?_
      refine to_mv rfl rfl ?_
      refine to_neq rfl rfl rfl ?_
      refine to_mv rfl rfl ?_
      refine to_gs rfl rfl rfl (fun h2 => ?_) (fun h2 => ?_)
      · try simp only [decide_eq_true_eq, decide_eq_false_iff_not, Bool.not_eq_true', Bool.not_eq_false', Int.not_lt, Int.not_le, ne_eq, Decidable.not_not] at h2
        try have h2b := inB_iff.1 h2
        refine to_gf rfl rfl rfl rfl ?_
        refine to_gf rfl rfl rfl rfl ?_
        refine to_gf rfl rfl rfl rfl ?_
        refine to_gf rfl rfl rfl rfl ?_
        refine to_gf rfl rfl rfl rfl ?_
        refine to_gf rfl rfl rfl rfl ?_
        refine to_pkT rfl rfl rfl ?_
        refine to_nil ?_
        refine tn_code ?_
        refine t_ifT rfl ?_
        refine t_seq ?_
        refine t_reg ?_
        refine to_as rfl rfl ?_
        refine to_nil ?_
        refine tn_code ?_
        refine t_ret1 rfl rfl (res_tmp rfl) (fun w' s => ?_)
        first | (rw [hfin]) | (rw [failB_t heb.1 hG (by first | (left; assumption) | (right; assumption) | (simp_all; done))])
      · try simp only [decide_eq_true_eq, decide_eq_false_iff_not, Bool.not_eq_true', Bool.not_eq_false', Int.not_lt, Int.not_le, ne_eq, Decidable.not_not] at h2
        try have h2b := inB_iff.1 h2
        refine to_gt rfl rfl ?_
        refine to_mv rfl rfl ?_
        refine to_gt rfl rfl ?_
        first | refine to_fa rfl rfl rfl (by simp only [Nat.reduceAdd]; rfl) rfl ?_ | refine to_fae rfl rfl rfl (by simp only [Nat.reduceAdd]; rfl) rfl ?_
        refine to_gt rfl rfl ?_
        first | refine to_lds rfl rfl rfl ?_ | refine to_ldes rfl (by assumption) rfl rfl ?_
        refine to_gt rfl rfl ?_
        refine to_add rfl rfl (by omega) rfl ?_
        refine to_gt rfl rfl ?_
        refine to_mv rfl rfl ?_
        refine to_gt rfl rfl ?_
        refine to_neq rfl rfl rfl ?_
        refine to_pkF rfl rfl rfl ?_
        refine to_nil ?_
        refine tn_code ?_
        refine t_if rfl (fun h3 => ?_) (fun h3 => ?_)
        · try simp only [decide_eq_true_eq, decide_eq_false_iff_not, Bool.not_eq_true', Bool.not_eq_false', Int.not_lt, Int.not_le, ne_eq, Decidable.not_not] at h3
          try have h3b := inB_iff.1 h3
          refine t_seq ?_
          refine t_reg ?_
          refine to_as rfl rfl ?_
          refine to_nil ?_
          refine tn_code ?_
          refine t_ret1 rfl rfl (res_tmp rfl) (fun w' s => ?_)
          first | (rw [hfin]) | (rw [failB_t heb.1 hG (by first | (left; assumption) | (right; assumption) | (simp_all; done))])
        · try simp only [decide_eq_true_eq, decide_eq_false_iff_not, Bool.not_eq_true', Bool.not_eq_false', Int.not_lt, Int.not_le, ne_eq, Decidable.not_not] at h3
          try have h3b := inB_iff.1 h3
          refine t_skip ?_
          refine tn_blk ?_
          exact tn_loop2 ((dropE left en, some en)) [.own b26 (isIN rr lm cc (dropE left en) (some en)), .own b3 (isC (tbC sh pt (k : Int)) 86), .snap 0 w.heap.size w] (rfl) (⟨fun x hx => hsub x (drop_sub hx), fun z hz hn => by
              by_cases hq : z = en
              · subst hq; constructor <;> assumption
              · exact hall z hz (fun hh => hn ((mem_dropE hok hsub hen z).2 ⟨hh, hq⟩))⟩) (drop_len hen) (⟨rfl, rfl, rfl, rfl, trivial⟩)

end Go.Proofs

