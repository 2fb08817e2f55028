/- RoundSpoilt: for every input the law returns true, and each argument reads behind the call as it read before. Conditions: the package-level variables that the row lists hold what the program's text lays (tied by the card). -/
import Derived.Test.YtebellbkmioadabGreatDoorOwnC
import Derived.Test.YtebellbkmioadabGreatDoorOwnE
import Derived.Test.YtebellbkmioadabGreatDoorOwnF
import Derived.LaidOnce
import Derived.SevenTiedAt
import Derived.Test.YtebellbkmioadabGreatDoorTie
import Derived.Test.YtebellbkmioadabGreatDoorCards
set_option linter.unusedVariables false
set_option linter.unusedSimpArgs false
namespace Go.Proofs
open Go Go.Sx

/-! # Plain laws of round: rounding -/

/-! ## Numbers behind a figure -/

/-! ## Lists that lie on a map from one place on -/

end Go.Proofs


namespace Go.Proofs
open Go Go.Sx

/-! # Plain laws of round: what is sure -/

/-! ## More guard figures -/

/-! ## Totals of truths -/

/-! ## The other sign -/

end Go.Proofs


namespace Go.Proofs
open Go Go.Sx Go.RowKit

end Go.Proofs


namespace Go.Proofs
open Go Go.Sx Go.RowKit

end Go.Proofs


namespace Go.Proofs
open Go Go.Sx Go.RowKit

end Go.Proofs


namespace Go.Proofs
open Go Go.Sx Go.RowKit

end Go.Proofs


namespace Go.Proofs
open Go Go.Sx Go.RowKit

def shortB (sh : Sh) : Bool := decide (sh.errs.length ≤ 7) && decide (sh.rows.length ≤ 7)
theorem short_ok {sh : Sh} (h : isSh sh = true) : shortB sh = true := by
  have := isSh_b h
  simp [shortB]; omega
theorem c_short (sh : Sh) (pt : Pt) (w : World) : Calls Tryz.prog 24 #[shV sh pt] w (RetV w (.bool (shortB sh))) := law_short sh pt w
end Go.Proofs


namespace Go.Proofs
open Go Go.Sx Go.RowKit

set_option maxRecDepth 20000 in
theorem r_Print_t (sh : Sh) (pt : Pt) (w : World) (hre : Ro w 0 w.heap.size pt.ea sh.errs.length pt.ec 1 (ints sh.errs)) (hrr : Ro w 0 w.heap.size pt.ra sh.rows.length pt.rc 1 (ints sh.rows)) (hg : Gl w) (hs : isSh sh = true) : Calls Tryz.prog 31 #[shV sh pt] w (RetV w (.tuple #[strV (textZ sh), .int .i64 0])) := by
  have hnz := numsZ_of hs
  refine calls_T0 (av := [_]) Tryz.func31 rfl rfl rfl ?_
  refine t_seq ?_
  refine t_reg ?_
  refine to_box rfl rfl (fun b1 => ?_)
  refine to_as rfl rfl ?_
  refine to_as rfl rfl ?_
  refine to_nil ?_
  refine tn_code ?_
  refine t_seq ?_
  refine t_seq ?_
  refine t_reg ?_
  first | refine to_lda rfl rfl rfl ?_ | refine to_ldea rfl (by assumption) rfl rfl ?_
  refine to_call0 rfl rfl (fun w s => r_isSheet sh pt w (rdw s) (rdw s)) rfl ?_
  refine to_fix (s := 5) (b' := true) rfl (hs) ?_
  refine to_not rfl rfl ?_
  refine to_nil ?_
  refine tn_code ?_
  refine t_ifF rfl ?_
  refine t_skip ?_
  refine tn_code ?_
  refine t_seq ?_
  refine t_reg ?_
  first | refine to_lda rfl rfl rfl ?_ | refine to_ldea rfl (by assumption) rfl rfl ?_
  refine to_call0 rfl rfl (fun w s => r_text sh pt w (rdw s) (rdw s) hnz (gl_up hg (belowH_of s))) rfl ?_
  refine to_as rfl rfl ?_
  refine to_as rfl rfl ?_
  refine to_nil ?_
  refine tn_code ?_
  refine t_ret2 rfl rfl (res_tmp rfl) (res_tmp rfl) (fun w' s => ?_)
  rfl

set_option maxRecDepth 20000 in
theorem ref_SameSh (sh : Sh) (pt qt : Pt) (w : World) (hre : Ro w 0 w.heap.size pt.ea sh.errs.length pt.ec 1 (ints sh.errs)) (hrr : Ro w 0 w.heap.size pt.ra sh.rows.length pt.rc 1 (ints sh.rows)) (hqe : Ro w 0 w.heap.size qt.ea sh.errs.length qt.ec 1 (ints sh.errs)) (hqr : Ro w 0 w.heap.size qt.ra sh.rows.length qt.rc 1 (ints sh.rows)) (hl : sh.errs.length ≤ 1000 ∧ sh.rows.length ≤ 1000) : Calls Tryz.prog 34 #[shV sh pt, shV sh qt] w (RetV w (.bool true)) := by
  refine calls_T0 (av := [_, _]) Tryz.func34 rfl rfl rfl ?_
  refine t_seq ?_
  refine t_reg ?_
  refine to_box rfl rfl (fun b2 => ?_)
  refine to_box rfl rfl (fun b3 => ?_)
  refine to_as rfl rfl ?_
  refine to_nil ?_
  refine tn_code ?_
  refine t_seq ?_
  refine t_reg ?_
  first | refine to_fa rfl rfl rfl (by simp only [Nat.reduceAdd]; rfl) rfl ?_ | refine to_fae rfl rfl rfl (by simp only [Nat.reduceAdd]; rfl) rfl ?_
  first | refine to_lds rfl rfl rfl ?_ | refine to_ldes rfl (by assumption) rfl rfl ?_
  first | refine to_fa rfl rfl rfl (by simp only [Nat.reduceAdd]; rfl) rfl ?_ | refine to_fae rfl rfl rfl (by simp only [Nat.reduceAdd]; rfl) rfl ?_
  first | refine to_lds rfl rfl rfl ?_ | refine to_ldes rfl (by assumption) rfl rfl ?_
  refine to_eql rfl rfl rfl ?_
  refine to_fix (s := 9) (b' := true) rfl (by simp) ?_
  refine to_mv rfl rfl ?_
  refine to_gt rfl rfl ?_
  first | refine to_fa rfl rfl rfl (by simp only [Nat.reduceAdd]; rfl) rfl ?_ | refine to_fae rfl rfl rfl (by simp only [Nat.reduceAdd]; rfl) rfl ?_
  refine to_gt rfl rfl ?_
  first | refine to_lds rfl rfl rfl ?_ | refine to_ldes rfl (by assumption) rfl rfl ?_
  refine to_gt rfl rfl ?_
  first | refine to_fa rfl rfl rfl (by simp only [Nat.reduceAdd]; rfl) rfl ?_ | refine to_fae rfl rfl rfl (by simp only [Nat.reduceAdd]; rfl) rfl ?_
  refine to_gt rfl rfl ?_
  first | refine to_lds rfl rfl rfl ?_ | refine to_ldes rfl (by assumption) rfl rfl ?_
  refine to_gt rfl rfl ?_
  refine to_eql rfl rfl rfl ?_
  refine to_fix (s := 15) (b' := true) rfl (by simp) ?_
  refine to_pkT rfl rfl rfl ?_
  refine to_mv rfl rfl ?_
  refine to_gt rfl rfl ?_
  first | refine to_fa rfl rfl rfl (by simp only [Nat.reduceAdd]; rfl) rfl ?_ | refine to_fae rfl rfl rfl (by simp only [Nat.reduceAdd]; rfl) rfl ?_
  refine to_gt rfl rfl ?_
  first | refine to_lds rfl rfl rfl ?_ | refine to_ldes rfl (by assumption) rfl rfl ?_
  refine to_gt rfl rfl ?_
  first | refine to_fa rfl rfl rfl (by simp only [Nat.reduceAdd]; rfl) rfl ?_ | refine to_fae rfl rfl rfl (by simp only [Nat.reduceAdd]; rfl) rfl ?_
  refine to_gt rfl rfl ?_
  first | refine to_lds rfl rfl rfl ?_ | refine to_ldes rfl (by assumption) rfl rfl ?_
  refine to_gt rfl rfl ?_
  refine to_call0 rfl rfl (fun w s => ref_Same sh.errs sh.errs _ _ _ _ w (rdw s) (rdw s) hl.1) rfl ?_
  refine to_fix (s := 22) (b' := true) rfl (decide_eq_true rfl) ?_
  refine to_pkT rfl rfl rfl ?_
  refine to_mv rfl rfl ?_
  refine to_gt rfl rfl ?_
  first | refine to_fa rfl rfl rfl (by simp only [Nat.reduceAdd]; rfl) rfl ?_ | refine to_fae rfl rfl rfl (by simp only [Nat.reduceAdd]; rfl) rfl ?_
  refine to_gt rfl rfl ?_
  first | refine to_lds rfl rfl rfl ?_ | refine to_ldes rfl (by assumption) rfl rfl ?_
  refine to_gt rfl rfl ?_
  first | refine to_fa rfl rfl rfl (by simp only [Nat.reduceAdd]; rfl) rfl ?_ | refine to_fae rfl rfl rfl (by simp only [Nat.reduceAdd]; rfl) rfl ?_
  refine to_gt rfl rfl ?_
  first | refine to_lds rfl rfl rfl ?_ | refine to_ldes rfl (by assumption) rfl rfl ?_
  refine to_gt rfl rfl ?_
  refine to_call0 rfl rfl (fun w s => ref_Same sh.rows sh.rows _ _ _ _ w (rdw s) (rdw s) hl.2) rfl ?_
  refine to_fix (s := 29) (b' := true) rfl (decide_eq_true rfl) ?_
  refine to_pkT rfl rfl rfl ?_
  refine to_as rfl rfl ?_
  refine to_nil ?_
  refine tn_code ?_
  refine t_ret1 rfl rfl (res_tmp rfl) (fun w' s => ?_)
  rfl

theorem c_readq {tx : Bs} {b : Sh} {e : Int} {w : World} (hq : roundRead tx = (b, e)) (hg : Gl w) : Calls Tryz.prog 32 #[strV tx] w (Ret w (RShE b e)) := by
  have := r_Read tx w hg
  rw [hq] at this; exact this

set_option maxRecDepth 20000 in
theorem w_RoundSpoilt_bf (sh : Sh) (pt : Pt) (at_ d : Int) (w : World) (hre : Ro w 0 w.heap.size pt.ea sh.errs.length pt.ec 1 (ints sh.errs)) (hrr : Ro w 0 w.heap.size pt.ra sh.rows.length pt.rc 1 (ints sh.rows)) (hs : isSh sh = false) (hg : Gl w) : Calls Tryz.prog 8 #[shV sh pt, (.int .i64 at_), (.int .i64 d)] w (RetV w (.bool true)) := by
  refine calls_T0 (av := [_, _, _]) Tryz.func8 rfl rfl rfl ?_
  refine t_seq ?_
  refine t_reg ?_
  refine to_box rfl rfl (fun b3 => ?_)
  refine to_as rfl rfl ?_
  refine to_nil ?_
  refine tn_code ?_
  refine t_seq ?_
  refine t_seq ?_
  refine t_reg ?_
  first | refine to_lda rfl rfl rfl ?_ | refine to_ldea rfl (by assumption) rfl rfl ?_
  refine to_call0 rfl rfl (fun w s => c_short sh pt w) rfl ?_
  refine to_not rfl rfl ?_
  refine to_mv rfl rfl ?_
  refine to_gs rfl rfl rfl (fun h1 => ?_) (fun h1 => ?_)
  · try simp only [decide_eq_true_eq, decide_eq_false_iff_not, Bool.not_eq_true', Bool.not_eq_false', Int.not_lt, Int.not_le, ne_eq, Decidable.not_not] at h1
    try have h1b := inB_iff.1 h1
    refine to_gf rfl rfl rfl rfl ?_
    refine to_gf rfl rfl rfl rfl ?_
    refine to_gf rfl rfl rfl rfl ?_
    refine to_pkT rfl rfl rfl ?_
    refine to_mv rfl rfl ?_
    refine to_gf rfl rfl rfl rfl ?_
    refine to_gf rfl rfl rfl rfl ?_
    refine to_pkT rfl rfl rfl ?_
    refine to_mv rfl rfl ?_
    refine to_gf rfl rfl rfl rfl ?_
    refine to_gf rfl rfl rfl rfl ?_
    refine to_pkT rfl rfl rfl ?_
    refine to_nil ?_
    refine tn_code ?_
    refine t_ifT rfl ?_
    refine t_seq ?_
    refine t_reg ?_
    refine to_call0 rfl rfl (fun w s => law_known w (gl_up hg (belowH_of s))) rfl ?_
    refine to_as rfl rfl ?_
    refine to_nil ?_
    refine tn_code ?_
    refine t_ret1 rfl rfl (res_tmp rfl) (fun w' s => ?_)
    rfl
  · try simp only [decide_eq_true_eq, decide_eq_false_iff_not, Bool.not_eq_true', Bool.not_eq_false', Int.not_lt, Int.not_le, ne_eq, Decidable.not_not] at h1
    try have h1b := inB_iff.1 h1
    refine to_gt rfl rfl ?_
    first | refine to_lda rfl rfl rfl ?_ | refine to_ldea rfl (by assumption) rfl rfl ?_
    refine to_gt rfl rfl ?_
    refine to_call0 rfl rfl (fun w s => ref_Sheet sh pt w (rdw s) (rdw s)) rfl ?_
    refine to_fix (s := 17) (b' := false) rfl (hs) ?_
    refine to_gt rfl rfl ?_
    refine to_not rfl rfl ?_
    refine to_pkF rfl rfl rfl ?_
    refine to_mv rfl rfl ?_
    refine to_gf rfl rfl rfl rfl ?_
    refine to_gf rfl rfl rfl rfl ?_
    refine to_pkT rfl rfl rfl ?_
    refine to_mv rfl rfl ?_
    refine to_gf rfl rfl rfl rfl ?_
    refine to_gf rfl rfl rfl rfl ?_
    refine to_pkT rfl rfl rfl ?_
    refine to_nil ?_
    refine tn_code ?_
    refine t_ifT rfl ?_
    refine t_seq ?_
    refine t_reg ?_
    refine to_call0 rfl rfl (fun w s => law_known w (gl_up hg (belowH_of s))) rfl ?_
    refine to_as rfl rfl ?_
    refine to_nil ?_
    refine tn_code ?_
    refine t_ret1 rfl rfl (res_tmp rfl) (fun w' s => ?_)
    rfl

set_option maxRecDepth 20000 in
theorem w_RoundSpoilt_d1 (sh : Sh) (pt : Pt) (at_ d : Int) (w : World) (hre : Ro w 0 w.heap.size pt.ea sh.errs.length pt.ec 1 (ints sh.errs)) (hrr : Ro w 0 w.heap.size pt.ra sh.rows.length pt.rc 1 (ints sh.rows)) (hs : isSh sh = true) (hd1 : d < 0) (hg : Gl w) : Calls Tryz.prog 8 #[shV sh pt, (.int .i64 at_), (.int .i64 d)] w (RetV w (.bool true)) := by
  have hbb := isSh_b hs
  have hsh := short_ok hs
  refine calls_T0 (av := [_, _, _]) Tryz.func8 rfl rfl rfl ?_
  refine t_seq ?_
  refine t_reg ?_
  refine to_box rfl rfl (fun b3 => ?_)
  refine to_as rfl rfl ?_
  refine to_nil ?_
  refine tn_code ?_
  refine t_seq ?_
  refine t_seq ?_
  refine t_reg ?_
  first | refine to_lda rfl rfl rfl ?_ | refine to_ldea rfl (by assumption) rfl rfl ?_
  refine to_call0 rfl rfl (fun w s => c_short sh pt w) rfl ?_
  refine to_fix (s := 13) (b' := true) rfl (hsh) ?_
  refine to_not rfl rfl ?_
  refine to_mv rfl rfl ?_
  refine to_gt rfl rfl ?_
  first | refine to_lda rfl rfl rfl ?_ | refine to_ldea rfl (by assumption) rfl rfl ?_
  refine to_gt rfl rfl ?_
  refine to_call0 rfl rfl (fun w s => ref_Sheet sh pt w (rdw s) (rdw s)) rfl ?_
  refine to_fix (s := 17) (b' := true) rfl (hs) ?_
  refine to_gt rfl rfl ?_
  refine to_not rfl rfl ?_
  refine to_pkF rfl rfl rfl ?_
  refine to_mv rfl rfl ?_
  refine to_gt rfl rfl ?_
  refine to_mv rfl rfl ?_
  refine to_gt rfl rfl ?_
  refine to_lss rfl rfl rfl ?_
  refine to_fix (s := 22) (b' := true) rfl (decide_eq_true hd1) ?_
  refine to_pkF rfl rfl rfl ?_
  refine to_mv rfl rfl ?_
  refine to_gf rfl rfl rfl rfl ?_
  refine to_gf rfl rfl rfl rfl ?_
  refine to_pkT rfl rfl rfl ?_
  refine to_nil ?_
  refine tn_code ?_
  refine t_ifT rfl ?_
  refine t_seq ?_
  refine t_reg ?_
  refine to_call0 rfl rfl (fun w s => law_known w (gl_up hg (belowH_of s))) rfl ?_
  refine to_as rfl rfl ?_
  refine to_nil ?_
  refine tn_code ?_
  refine t_ret1 rfl rfl (res_tmp rfl) (fun w' s => ?_)
  rfl

set_option maxRecDepth 20000 in
theorem w_RoundSpoilt_d2 (sh : Sh) (pt : Pt) (at_ d : Int) (w : World) (hre : Ro w 0 w.heap.size pt.ea sh.errs.length pt.ec 1 (ints sh.errs)) (hrr : Ro w 0 w.heap.size pt.ra sh.rows.length pt.rc 1 (ints sh.rows)) (hs : isSh sh = true) (hd1 : ¬ d < 0) (hd2 : d > 9) (hg : Gl w) : Calls Tryz.prog 8 #[shV sh pt, (.int .i64 at_), (.int .i64 d)] w (RetV w (.bool true)) := by
  have hbb := isSh_b hs
  have hsh := short_ok hs
  refine calls_T0 (av := [_, _, _]) Tryz.func8 rfl rfl rfl ?_
  refine t_seq ?_
  refine t_reg ?_
  refine to_box rfl rfl (fun b3 => ?_)
  refine to_as rfl rfl ?_
  refine to_nil ?_
  refine tn_code ?_
  refine t_seq ?_
  refine t_seq ?_
  refine t_reg ?_
  first | refine to_lda rfl rfl rfl ?_ | refine to_ldea rfl (by assumption) rfl rfl ?_
  refine to_call0 rfl rfl (fun w s => c_short sh pt w) rfl ?_
  refine to_fix (s := 13) (b' := true) rfl (hsh) ?_
  refine to_not rfl rfl ?_
  refine to_mv rfl rfl ?_
  refine to_gt rfl rfl ?_
  first | refine to_lda rfl rfl rfl ?_ | refine to_ldea rfl (by assumption) rfl rfl ?_
  refine to_gt rfl rfl ?_
  refine to_call0 rfl rfl (fun w s => ref_Sheet sh pt w (rdw s) (rdw s)) rfl ?_
  refine to_fix (s := 17) (b' := true) rfl (hs) ?_
  refine to_gt rfl rfl ?_
  refine to_not rfl rfl ?_
  refine to_pkF rfl rfl rfl ?_
  refine to_mv rfl rfl ?_
  refine to_gt rfl rfl ?_
  refine to_mv rfl rfl ?_
  refine to_gt rfl rfl ?_
  refine to_lss rfl rfl rfl ?_
  refine to_fix (s := 22) (b' := false) rfl (decide_eq_false hd1) ?_
  refine to_pkF rfl rfl rfl ?_
  refine to_mv rfl rfl ?_
  refine to_gt rfl rfl ?_
  refine to_mv rfl rfl ?_
  refine to_gt rfl rfl ?_
  refine to_gtr rfl rfl rfl ?_
  refine to_fix (s := 26) (b' := true) rfl (decide_eq_true hd2) ?_
  refine to_pkF rfl rfl rfl ?_
  refine to_nil ?_
  refine tn_code ?_
  refine t_ifT rfl ?_
  refine t_seq ?_
  refine t_reg ?_
  refine to_call0 rfl rfl (fun w s => law_known w (gl_up hg (belowH_of s))) rfl ?_
  refine to_as rfl rfl ?_
  refine to_nil ?_
  refine tn_code ?_
  refine t_ret1 rfl rfl (res_tmp rfl) (fun w' s => ?_)
  rfl

set_option maxRecDepth 20000 in
theorem w_RoundSpoilt_a1 (sh : Sh) (pt : Pt) (at_ d : Int) (w : World) (hre : Ro w 0 w.heap.size pt.ea sh.errs.length pt.ec 1 (ints sh.errs)) (hrr : Ro w 0 w.heap.size pt.ra sh.rows.length pt.rc 1 (ints sh.rows)) (hs : isSh sh = true) (hd1 : ¬ d < 0) (hd2 : ¬ d > 9) (ha : at_ < 0) (hg : Gl w) : Calls Tryz.prog 8 #[shV sh pt, (.int .i64 at_), (.int .i64 d)] w (RetV w (.bool true)) := by
  have hbb := isSh_b hs
  have hsh := short_ok hs
  have htl := text_le hs
  refine calls_T0 (av := [_, _, _]) Tryz.func8 rfl rfl rfl ?_
  refine t_seq ?_
  refine t_reg ?_
  refine to_box rfl rfl (fun b3 => ?_)
  refine to_as rfl rfl ?_
  refine to_nil ?_
  refine tn_code ?_
  refine t_seq ?_
  refine t_seq ?_
  refine t_reg ?_
  first | refine to_lda rfl rfl rfl ?_ | refine to_ldea rfl (by assumption) rfl rfl ?_
  refine to_call0 rfl rfl (fun w s => c_short sh pt w) rfl ?_
  refine to_fix (s := 13) (b' := true) rfl (hsh) ?_
  refine to_not rfl rfl ?_
  refine to_mv rfl rfl ?_
  refine to_gt rfl rfl ?_
  first | refine to_lda rfl rfl rfl ?_ | refine to_ldea rfl (by assumption) rfl rfl ?_
  refine to_gt rfl rfl ?_
  refine to_call0 rfl rfl (fun w s => ref_Sheet sh pt w (rdw s) (rdw s)) rfl ?_
  refine to_fix (s := 17) (b' := true) rfl (hs) ?_
  refine to_gt rfl rfl ?_
  refine to_not rfl rfl ?_
  refine to_pkF rfl rfl rfl ?_
  refine to_mv rfl rfl ?_
  refine to_gt rfl rfl ?_
  refine to_mv rfl rfl ?_
  refine to_gt rfl rfl ?_
  refine to_lss rfl rfl rfl ?_
  refine to_fix (s := 22) (b' := false) rfl (decide_eq_false hd1) ?_
  refine to_pkF rfl rfl rfl ?_
  refine to_mv rfl rfl ?_
  refine to_gt rfl rfl ?_
  refine to_mv rfl rfl ?_
  refine to_gt rfl rfl ?_
  refine to_gtr rfl rfl rfl ?_
  refine to_fix (s := 26) (b' := false) rfl (decide_eq_false hd2) ?_
  refine to_pkF rfl rfl rfl ?_
  refine to_nil ?_
  refine tn_code ?_
  refine t_ifF rfl ?_
  refine t_skip ?_
  refine tn_code ?_
  refine t_seq ?_
  refine t_reg ?_
  first | refine to_lda rfl rfl rfl ?_ | refine to_ldea rfl (by assumption) rfl rfl ?_
  refine to_call0 rfl rfl (fun w s => r_Print_t sh pt w (rdw s) (rdw s) (gl_up hg (belowH_of s)) hs) rfl ?_
  refine to_mv rfl rfl ?_
  refine to_ex rfl rfl rfl ?_
  refine to_ex rfl rfl rfl ?_
  refine to_as rfl rfl ?_
  refine to_as rfl rfl ?_
  refine to_nil ?_
  refine tn_code ?_
  refine t_seq ?_
  refine t_seq ?_
  refine t_reg ?_
  refine to_mv rfl rfl ?_
  refine to_neq rfl rfl rfl ?_
  refine to_fix (s := 35) (b' := false) rfl (rfl) ?_
  refine to_nil ?_
  refine tn_code ?_
  refine t_ifF rfl ?_
  refine t_skip ?_
  refine tn_code ?_
  refine t_seq ?_
  refine t_seq ?_
  refine t_reg ?_
  refine to_mv rfl rfl ?_
  refine to_lss rfl rfl rfl ?_
  refine to_fix (s := 37) (b' := true) rfl (decide_eq_true ha) ?_
  refine to_mv rfl rfl ?_
  refine to_gf rfl rfl rfl rfl ?_
  refine to_gf rfl rfl rfl rfl ?_
  refine to_gf rfl rfl rfl rfl ?_
  refine to_gf rfl rfl rfl rfl ?_
  refine to_pkT rfl rfl rfl ?_
  refine to_mv rfl rfl ?_
  refine to_gf rfl rfl rfl rfl ?_
  refine to_gf rfl rfl rfl rfl ?_
  refine to_gf rfl rfl rfl rfl ?_
  refine to_gf rfl rfl rfl rfl ?_
  refine to_pkT rfl rfl rfl ?_
  refine to_mv rfl rfl ?_
  refine to_gf rfl rfl rfl rfl ?_
  refine to_gf rfl rfl rfl rfl ?_
  refine to_gf rfl rfl rfl rfl ?_
  refine to_gf rfl rfl rfl rfl ?_
  refine to_pkT rfl rfl rfl ?_
  refine to_mv rfl rfl ?_
  refine to_gf rfl rfl rfl rfl ?_
  refine to_gf rfl rfl rfl rfl ?_
  refine to_gf rfl rfl rfl rfl ?_
  refine to_gf rfl rfl rfl rfl ?_
  refine to_gf rfl rfl rfl rfl ?_
  refine to_gf rfl rfl rfl rfl ?_
  refine to_gf rfl rfl rfl rfl ?_
  refine to_pkT rfl rfl rfl ?_
  refine to_nil ?_
  refine tn_code ?_
  refine t_ifT rfl ?_
  refine t_seq ?_
  refine t_reg ?_
  refine to_call0 rfl rfl (fun w s => law_known w (gl_up hg (belowH_of s))) rfl ?_
  refine to_as rfl rfl ?_
  refine to_nil ?_
  refine tn_code ?_
  refine t_ret1 rfl rfl (res_tmp rfl) (fun w' s => ?_)
  rfl

set_option maxRecDepth 20000 in
theorem w_RoundSpoilt_a2 (sh : Sh) (pt : Pt) (at_ d : Int) (w : World) (hre : Ro w 0 w.heap.size pt.ea sh.errs.length pt.ec 1 (ints sh.errs)) (hrr : Ro w 0 w.heap.size pt.ra sh.rows.length pt.rc 1 (ints sh.rows)) (hs : isSh sh = true) (hd1 : ¬ d < 0) (hd2 : ¬ d > 9) (ha : ¬ at_ < 0) (ha2 : at_ ≥ (textZ sh).length) (hg : Gl w) : Calls Tryz.prog 8 #[shV sh pt, (.int .i64 at_), (.int .i64 d)] w (RetV w (.bool true)) := by
  have hbb := isSh_b hs
  have hsh := short_ok hs
  have htl := text_le hs
  refine calls_T0 (av := [_, _, _]) Tryz.func8 rfl rfl rfl ?_
  refine t_seq ?_
  refine t_reg ?_
  refine to_box rfl rfl (fun b3 => ?_)
  refine to_as rfl rfl ?_
  refine to_nil ?_
  refine tn_code ?_
  refine t_seq ?_
  refine t_seq ?_
  refine t_reg ?_
  first | refine to_lda rfl rfl rfl ?_ | refine to_ldea rfl (by assumption) rfl rfl ?_
  refine to_call0 rfl rfl (fun w s => c_short sh pt w) rfl ?_
  refine to_fix (s := 13) (b' := true) rfl (hsh) ?_
  refine to_not rfl rfl ?_
  refine to_mv rfl rfl ?_
  refine to_gt rfl rfl ?_
  first | refine to_lda rfl rfl rfl ?_ | refine to_ldea rfl (by assumption) rfl rfl ?_
  refine to_gt rfl rfl ?_
  refine to_call0 rfl rfl (fun w s => ref_Sheet sh pt w (rdw s) (rdw s)) rfl ?_
  refine to_fix (s := 17) (b' := true) rfl (hs) ?_
  refine to_gt rfl rfl ?_
  refine to_not rfl rfl ?_
  refine to_pkF rfl rfl rfl ?_
  refine to_mv rfl rfl ?_
  refine to_gt rfl rfl ?_
  refine to_mv rfl rfl ?_
  refine to_gt rfl rfl ?_
  refine to_lss rfl rfl rfl ?_
  refine to_fix (s := 22) (b' := false) rfl (decide_eq_false hd1) ?_
  refine to_pkF rfl rfl rfl ?_
  refine to_mv rfl rfl ?_
  refine to_gt rfl rfl ?_
  refine to_mv rfl rfl ?_
  refine to_gt rfl rfl ?_
  refine to_gtr rfl rfl rfl ?_
  refine to_fix (s := 26) (b' := false) rfl (decide_eq_false hd2) ?_
  refine to_pkF rfl rfl rfl ?_
  refine to_nil ?_
  refine tn_code ?_
  refine t_ifF rfl ?_
  refine t_skip ?_
  refine tn_code ?_
  refine t_seq ?_
  refine t_reg ?_
  first | refine to_lda rfl rfl rfl ?_ | refine to_ldea rfl (by assumption) rfl rfl ?_
  refine to_call0 rfl rfl (fun w s => r_Print_t sh pt w (rdw s) (rdw s) (gl_up hg (belowH_of s)) hs) rfl ?_
  refine to_mv rfl rfl ?_
  refine to_ex rfl rfl rfl ?_
  refine to_ex rfl rfl rfl ?_
  refine to_as rfl rfl ?_
  refine to_as rfl rfl ?_
  refine to_nil ?_
  refine tn_code ?_
  refine t_seq ?_
  refine t_seq ?_
  refine t_reg ?_
  refine to_mv rfl rfl ?_
  refine to_neq rfl rfl rfl ?_
  refine to_fix (s := 35) (b' := false) rfl (rfl) ?_
  refine to_nil ?_
  refine tn_code ?_
  refine t_ifF rfl ?_
  refine t_skip ?_
  refine tn_code ?_
  refine t_seq ?_
  refine t_seq ?_
  refine t_reg ?_
  refine to_mv rfl rfl ?_
  refine to_lss rfl rfl rfl ?_
  refine to_fix (s := 37) (b' := false) rfl (decide_eq_false (by omega)) ?_
  refine to_mv rfl rfl ?_
  refine to_gt rfl rfl ?_
  refine to_mv rfl rfl ?_
  refine to_gt rfl rfl ?_
  refine to_mv rfl rfl ?_
  refine to_gt rfl rfl ?_
  refine to_lenL rfl rfl ?_
  refine to_gt rfl rfl ?_
  refine to_geq rfl rfl rfl ?_
  refine to_fix (s := 42) (b' := true) rfl (decide_eq_true ha2) ?_
  refine to_pkF rfl rfl rfl ?_
  refine to_mv rfl rfl ?_
  refine to_gf rfl rfl rfl rfl ?_
  refine to_gf rfl rfl rfl rfl ?_
  refine to_gf rfl rfl rfl rfl ?_
  refine to_gf rfl rfl rfl rfl ?_
  refine to_pkT rfl rfl rfl ?_
  refine to_mv rfl rfl ?_
  refine to_gf rfl rfl rfl rfl ?_
  refine to_gf rfl rfl rfl rfl ?_
  refine to_gf rfl rfl rfl rfl ?_
  refine to_gf rfl rfl rfl rfl ?_
  refine to_pkT rfl rfl rfl ?_
  refine to_mv rfl rfl ?_
  refine to_gf rfl rfl rfl rfl ?_
  refine to_gf rfl rfl rfl rfl ?_
  refine to_gf rfl rfl rfl rfl ?_
  refine to_gf rfl rfl rfl rfl ?_
  refine to_gf rfl rfl rfl rfl ?_
  refine to_gf rfl rfl rfl rfl ?_
  refine to_gf rfl rfl rfl rfl ?_
  refine to_pkT rfl rfl rfl ?_
  refine to_nil ?_
  refine tn_code ?_
  refine t_ifT rfl ?_
  refine t_seq ?_
  refine t_reg ?_
  refine to_call0 rfl rfl (fun w s => law_known w (gl_up hg (belowH_of s))) rfl ?_
  refine to_as rfl rfl ?_
  refine to_nil ?_
  refine tn_code ?_
  refine t_ret1 rfl rfl (res_tmp rfl) (fun w' s => ?_)
  rfl

set_option maxRecDepth 20000 in
theorem w_RoundSpoilt_a3 (sh : Sh) (pt : Pt) (at_ d : Int) (w : World) (hre : Ro w 0 w.heap.size pt.ea sh.errs.length pt.ec 1 (ints sh.errs)) (hrr : Ro w 0 w.heap.size pt.ra sh.rows.length pt.rc 1 (ints sh.rows)) (hs : isSh sh = true) (hd1 : ¬ d < 0) (hd2 : ¬ d > 9) (k0 : Nat) (hat : at_ = (k0 : Int)) (ch : UInt8) (hc : (textZ sh)[k0]? = some ch) (h3 : ((ch.toNat : Nat) : Int) < 48) (hg : Gl w) : Calls Tryz.prog 8 #[shV sh pt, (.int .i64 at_), (.int .i64 d)] w (RetV w (.bool true)) := by
  have hbb := isSh_b hs
  have hsh := short_ok hs
  have htl := text_le hs
  subst hat
  have hk0 := (List.getElem?_eq_some_iff.1 hc).1
  have hcb := u8_le ch
  refine calls_T0 (av := [_, _, _]) Tryz.func8 rfl rfl rfl ?_
  refine t_seq ?_
  refine t_reg ?_
  refine to_box rfl rfl (fun b3 => ?_)
  refine to_as rfl rfl ?_
  refine to_nil ?_
  refine tn_code ?_
  refine t_seq ?_
  refine t_seq ?_
  refine t_reg ?_
  first | refine to_lda rfl rfl rfl ?_ | refine to_ldea rfl (by assumption) rfl rfl ?_
  refine to_call0 rfl rfl (fun w s => c_short sh pt w) rfl ?_
  refine to_fix (s := 13) (b' := true) rfl (hsh) ?_
  refine to_not rfl rfl ?_
  refine to_mv rfl rfl ?_
  refine to_gt rfl rfl ?_
  first | refine to_lda rfl rfl rfl ?_ | refine to_ldea rfl (by assumption) rfl rfl ?_
  refine to_gt rfl rfl ?_
  refine to_call0 rfl rfl (fun w s => ref_Sheet sh pt w (rdw s) (rdw s)) rfl ?_
  refine to_fix (s := 17) (b' := true) rfl (hs) ?_
  refine to_gt rfl rfl ?_
  refine to_not rfl rfl ?_
  refine to_pkF rfl rfl rfl ?_
  refine to_mv rfl rfl ?_
  refine to_gt rfl rfl ?_
  refine to_mv rfl rfl ?_
  refine to_gt rfl rfl ?_
  refine to_lss rfl rfl rfl ?_
  refine to_fix (s := 22) (b' := false) rfl (decide_eq_false hd1) ?_
  refine to_pkF rfl rfl rfl ?_
  refine to_mv rfl rfl ?_
  refine to_gt rfl rfl ?_
  refine to_mv rfl rfl ?_
  refine to_gt rfl rfl ?_
  refine to_gtr rfl rfl rfl ?_
  refine to_fix (s := 26) (b' := false) rfl (decide_eq_false hd2) ?_
  refine to_pkF rfl rfl rfl ?_
  refine to_nil ?_
  refine tn_code ?_
  refine t_ifF rfl ?_
  refine t_skip ?_
  refine tn_code ?_
  refine t_seq ?_
  refine t_reg ?_
  first | refine to_lda rfl rfl rfl ?_ | refine to_ldea rfl (by assumption) rfl rfl ?_
  refine to_call0 rfl rfl (fun w s => r_Print_t sh pt w (rdw s) (rdw s) (gl_up hg (belowH_of s)) hs) rfl ?_
  refine to_mv rfl rfl ?_
  refine to_ex rfl rfl rfl ?_
  refine to_ex rfl rfl rfl ?_
  refine to_as rfl rfl ?_
  refine to_as rfl rfl ?_
  refine to_nil ?_
  refine tn_code ?_
  refine t_seq ?_
  refine t_seq ?_
  refine t_reg ?_
  refine to_mv rfl rfl ?_
  refine to_neq rfl rfl rfl ?_
  refine to_fix (s := 35) (b' := false) rfl (rfl) ?_
  refine to_nil ?_
  refine tn_code ?_
  refine t_ifF rfl ?_
  refine t_skip ?_
  refine tn_code ?_
  refine t_seq ?_
  refine t_seq ?_
  refine t_reg ?_
  refine to_mv rfl rfl ?_
  refine to_lss rfl rfl rfl ?_
  refine to_fix (s := 37) (b' := false) rfl (decide_eq_false (by omega)) ?_
  refine to_mv rfl rfl ?_
  refine to_gt rfl rfl ?_
  refine to_mv rfl rfl ?_
  refine to_gt rfl rfl ?_
  refine to_mv rfl rfl ?_
  refine to_gt rfl rfl ?_
  refine to_lenL rfl rfl ?_
  refine to_gt rfl rfl ?_
  refine to_geq rfl rfl rfl ?_
  refine to_fix (s := 42) (b' := false) rfl (decide_eq_false (by omega)) ?_
  refine to_pkF rfl rfl rfl ?_
  refine to_mv rfl rfl ?_
  refine to_gt rfl rfl ?_
  refine to_mv rfl rfl ?_
  refine to_gt rfl rfl ?_
  refine to_mv rfl rfl ?_
  refine to_gt rfl rfl ?_
  refine to_sidx rfl rfl (by assumption) rfl ?_
  refine to_gt rfl rfl ?_
  refine to_lssk rfl rfl rfl ?_
  refine to_fix (s := 48) (b' := true) rfl (decide_eq_true h3) ?_
  refine to_pkF rfl rfl rfl ?_
  refine to_mv rfl rfl ?_
  refine to_gf rfl rfl rfl rfl ?_
  refine to_gf rfl rfl rfl rfl ?_
  refine to_gf rfl rfl rfl rfl ?_
  refine to_gf rfl rfl rfl rfl ?_
  refine to_pkT rfl rfl rfl ?_
  refine to_mv rfl rfl ?_
  refine to_gf rfl rfl rfl rfl ?_
  refine to_gf rfl rfl rfl rfl ?_
  refine to_gf rfl rfl rfl rfl ?_
  refine to_gf rfl rfl rfl rfl ?_
  refine to_gf rfl rfl rfl rfl ?_
  refine to_gf rfl rfl rfl rfl ?_
  refine to_gf rfl rfl rfl rfl ?_
  refine to_pkT rfl rfl rfl ?_
  refine to_nil ?_
  refine tn_code ?_
  refine t_ifT rfl ?_
  refine t_seq ?_
  refine t_reg ?_
  refine to_call0 rfl rfl (fun w s => law_known w (gl_up hg (belowH_of s))) rfl ?_
  refine to_as rfl rfl ?_
  refine to_nil ?_
  refine tn_code ?_
  refine t_ret1 rfl rfl (res_tmp rfl) (fun w' s => ?_)
  rfl

set_option maxRecDepth 20000 in
theorem w_RoundSpoilt_a4 (sh : Sh) (pt : Pt) (at_ d : Int) (w : World) (hre : Ro w 0 w.heap.size pt.ea sh.errs.length pt.ec 1 (ints sh.errs)) (hrr : Ro w 0 w.heap.size pt.ra sh.rows.length pt.rc 1 (ints sh.rows)) (hs : isSh sh = true) (hd1 : ¬ d < 0) (hd2 : ¬ d > 9) (k0 : Nat) (hat : at_ = (k0 : Int)) (ch : UInt8) (hc : (textZ sh)[k0]? = some ch) (h3 : ¬ ((ch.toNat : Nat) : Int) < 48) (h4 : ((ch.toNat : Nat) : Int) > 57) (hg : Gl w) : Calls Tryz.prog 8 #[shV sh pt, (.int .i64 at_), (.int .i64 d)] w (RetV w (.bool true)) := by
  have hbb := isSh_b hs
  have hsh := short_ok hs
  have htl := text_le hs
  subst hat
  have hk0 := (List.getElem?_eq_some_iff.1 hc).1
  have hcb := u8_le ch
  refine calls_T0 (av := [_, _, _]) Tryz.func8 rfl rfl rfl ?_
  refine t_seq ?_
  refine t_reg ?_
  refine to_box rfl rfl (fun b3 => ?_)
  refine to_as rfl rfl ?_
  refine to_nil ?_
  refine tn_code ?_
  refine t_seq ?_
  refine t_seq ?_
  refine t_reg ?_
  first | refine to_lda rfl rfl rfl ?_ | refine to_ldea rfl (by assumption) rfl rfl ?_
  refine to_call0 rfl rfl (fun w s => c_short sh pt w) rfl ?_
  refine to_fix (s := 13) (b' := true) rfl (hsh) ?_
  refine to_not rfl rfl ?_
  refine to_mv rfl rfl ?_
  refine to_gt rfl rfl ?_
  first | refine to_lda rfl rfl rfl ?_ | refine to_ldea rfl (by assumption) rfl rfl ?_
  refine to_gt rfl rfl ?_
  refine to_call0 rfl rfl (fun w s => ref_Sheet sh pt w (rdw s) (rdw s)) rfl ?_
  refine to_fix (s := 17) (b' := true) rfl (hs) ?_
  refine to_gt rfl rfl ?_
  refine to_not rfl rfl ?_
  refine to_pkF rfl rfl rfl ?_
  refine to_mv rfl rfl ?_
  refine to_gt rfl rfl ?_
  refine to_mv rfl rfl ?_
  refine to_gt rfl rfl ?_
  refine to_lss rfl rfl rfl ?_
  refine to_fix (s := 22) (b' := false) rfl (decide_eq_false hd1) ?_
  refine to_pkF rfl rfl rfl ?_
  refine to_mv rfl rfl ?_
  refine to_gt rfl rfl ?_
  refine to_mv rfl rfl ?_
  refine to_gt rfl rfl ?_
  refine to_gtr rfl rfl rfl ?_
  refine to_fix (s := 26) (b' := false) rfl (decide_eq_false hd2) ?_
  refine to_pkF rfl rfl rfl ?_
  refine to_nil ?_
  refine tn_code ?_
  refine t_ifF rfl ?_
  refine t_skip ?_
  refine tn_code ?_
  refine t_seq ?_
  refine t_reg ?_
  first | refine to_lda rfl rfl rfl ?_ | refine to_ldea rfl (by assumption) rfl rfl ?_
  refine to_call0 rfl rfl (fun w s => r_Print_t sh pt w (rdw s) (rdw s) (gl_up hg (belowH_of s)) hs) rfl ?_
  refine to_mv rfl rfl ?_
  refine to_ex rfl rfl rfl ?_
  refine to_ex rfl rfl rfl ?_
  refine to_as rfl rfl ?_
  refine to_as rfl rfl ?_
  refine to_nil ?_
  refine tn_code ?_
  refine t_seq ?_
  refine t_seq ?_
  refine t_reg ?_
  refine to_mv rfl rfl ?_
  refine to_neq rfl rfl rfl ?_
  refine to_fix (s := 35) (b' := false) rfl (rfl) ?_
  refine to_nil ?_
  refine tn_code ?_
  refine t_ifF rfl ?_
  refine t_skip ?_
  refine tn_code ?_
  refine t_seq ?_
  refine t_seq ?_
  refine t_reg ?_
  refine to_mv rfl rfl ?_
  refine to_lss rfl rfl rfl ?_
  refine to_fix (s := 37) (b' := false) rfl (decide_eq_false (by omega)) ?_
  refine to_mv rfl rfl ?_
  refine to_gt rfl rfl ?_
  refine to_mv rfl rfl ?_
  refine to_gt rfl rfl ?_
  refine to_mv rfl rfl ?_
  refine to_gt rfl rfl ?_
  refine to_lenL rfl rfl ?_
  refine to_gt rfl rfl ?_
  refine to_geq rfl rfl rfl ?_
  refine to_fix (s := 42) (b' := false) rfl (decide_eq_false (by omega)) ?_
  refine to_pkF rfl rfl rfl ?_
  refine to_mv rfl rfl ?_
  refine to_gt rfl rfl ?_
  refine to_mv rfl rfl ?_
  refine to_gt rfl rfl ?_
  refine to_mv rfl rfl ?_
  refine to_gt rfl rfl ?_
  refine to_sidx rfl rfl (by assumption) rfl ?_
  refine to_gt rfl rfl ?_
  refine to_lssk rfl rfl rfl ?_
  refine to_fix (s := 48) (b' := false) rfl (decide_eq_false h3) ?_
  refine to_pkF rfl rfl rfl ?_
  refine to_mv rfl rfl ?_
  refine to_gt rfl rfl ?_
  refine to_mv rfl rfl ?_
  refine to_gt rfl rfl ?_
  refine to_mv rfl rfl ?_
  refine to_gt rfl rfl ?_
  refine to_sidx rfl rfl (by assumption) rfl ?_
  refine to_gt rfl rfl ?_
  refine to_gtrk rfl rfl rfl ?_
  refine to_fix (s := 54) (b' := true) rfl (decide_eq_true h4) ?_
  refine to_pkF rfl rfl rfl ?_
  refine to_mv rfl rfl ?_
  refine to_gf rfl rfl rfl rfl ?_
  refine to_gf rfl rfl rfl rfl ?_
  refine to_gf rfl rfl rfl rfl ?_
  refine to_gf rfl rfl rfl rfl ?_
  refine to_gf rfl rfl rfl rfl ?_
  refine to_gf rfl rfl rfl rfl ?_
  refine to_gf rfl rfl rfl rfl ?_
  refine to_pkT rfl rfl rfl ?_
  refine to_nil ?_
  refine tn_code ?_
  refine t_ifT rfl ?_
  refine t_seq ?_
  refine t_reg ?_
  refine to_call0 rfl rfl (fun w s => law_known w (gl_up hg (belowH_of s))) rfl ?_
  refine to_as rfl rfl ?_
  refine to_nil ?_
  refine tn_code ?_
  refine t_ret1 rfl rfl (res_tmp rfl) (fun w' s => ?_)
  rfl

set_option maxRecDepth 20000 in
theorem w_RoundSpoilt_a5 (sh : Sh) (pt : Pt) (at_ d : Int) (w : World) (hre : Ro w 0 w.heap.size pt.ea sh.errs.length pt.ec 1 (ints sh.errs)) (hrr : Ro w 0 w.heap.size pt.ra sh.rows.length pt.rc 1 (ints sh.rows)) (hs : isSh sh = true) (hd1 : ¬ d < 0) (hd2 : ¬ d > 9) (k0 : Nat) (hat : at_ = (k0 : Int)) (ch : UInt8) (hc : (textZ sh)[k0]? = some ch) (h3 : ¬ ((ch.toNat : Nat) : Int) < 48) (h4 : ¬ ((ch.toNat : Nat) : Int) > 57) (h5 : ((ch.toNat : Nat) : Int) - 48 = d) (hg : Gl w) : Calls Tryz.prog 8 #[shV sh pt, (.int .i64 at_), (.int .i64 d)] w (RetV w (.bool true)) := by
  have hbb := isSh_b hs
  have hsh := short_ok hs
  have htl := text_le hs
  subst hat
  have hk0 := (List.getElem?_eq_some_iff.1 hc).1
  have hcb := u8_le ch
  refine calls_T0 (av := [_, _, _]) Tryz.func8 rfl rfl rfl ?_
  refine t_seq ?_
  refine t_reg ?_
  refine to_box rfl rfl (fun b3 => ?_)
  refine to_as rfl rfl ?_
  refine to_nil ?_
  refine tn_code ?_
  refine t_seq ?_
  refine t_seq ?_
  refine t_reg ?_
  first | refine to_lda rfl rfl rfl ?_ | refine to_ldea rfl (by assumption) rfl rfl ?_
  refine to_call0 rfl rfl (fun w s => c_short sh pt w) rfl ?_
  refine to_fix (s := 13) (b' := true) rfl (hsh) ?_
  refine to_not rfl rfl ?_
  refine to_mv rfl rfl ?_
  refine to_gt rfl rfl ?_
  first | refine to_lda rfl rfl rfl ?_ | refine to_ldea rfl (by assumption) rfl rfl ?_
  refine to_gt rfl rfl ?_
  refine to_call0 rfl rfl (fun w s => ref_Sheet sh pt w (rdw s) (rdw s)) rfl ?_
  refine to_fix (s := 17) (b' := true) rfl (hs) ?_
  refine to_gt rfl rfl ?_
  refine to_not rfl rfl ?_
  refine to_pkF rfl rfl rfl ?_
  refine to_mv rfl rfl ?_
  refine to_gt rfl rfl ?_
  refine to_mv rfl rfl ?_
  refine to_gt rfl rfl ?_
  refine to_lss rfl rfl rfl ?_
  refine to_fix (s := 22) (b' := false) rfl (decide_eq_false hd1) ?_
  refine to_pkF rfl rfl rfl ?_
  refine to_mv rfl rfl ?_
  refine to_gt rfl rfl ?_
  refine to_mv rfl rfl ?_
  refine to_gt rfl rfl ?_
  refine to_gtr rfl rfl rfl ?_
  refine to_fix (s := 26) (b' := false) rfl (decide_eq_false hd2) ?_
  refine to_pkF rfl rfl rfl ?_
  refine to_nil ?_
  refine tn_code ?_
  refine t_ifF rfl ?_
  refine t_skip ?_
  refine tn_code ?_
  refine t_seq ?_
  refine t_reg ?_
  first | refine to_lda rfl rfl rfl ?_ | refine to_ldea rfl (by assumption) rfl rfl ?_
  refine to_call0 rfl rfl (fun w s => r_Print_t sh pt w (rdw s) (rdw s) (gl_up hg (belowH_of s)) hs) rfl ?_
  refine to_mv rfl rfl ?_
  refine to_ex rfl rfl rfl ?_
  refine to_ex rfl rfl rfl ?_
  refine to_as rfl rfl ?_
  refine to_as rfl rfl ?_
  refine to_nil ?_
  refine tn_code ?_
  refine t_seq ?_
  refine t_seq ?_
  refine t_reg ?_
  refine to_mv rfl rfl ?_
  refine to_neq rfl rfl rfl ?_
  refine to_fix (s := 35) (b' := false) rfl (rfl) ?_
  refine to_nil ?_
  refine tn_code ?_
  refine t_ifF rfl ?_
  refine t_skip ?_
  refine tn_code ?_
  refine t_seq ?_
  refine t_seq ?_
  refine t_reg ?_
  refine to_mv rfl rfl ?_
  refine to_lss rfl rfl rfl ?_
  refine to_fix (s := 37) (b' := false) rfl (decide_eq_false (by omega)) ?_
  refine to_mv rfl rfl ?_
  refine to_gt rfl rfl ?_
  refine to_mv rfl rfl ?_
  refine to_gt rfl rfl ?_
  refine to_mv rfl rfl ?_
  refine to_gt rfl rfl ?_
  refine to_lenL rfl rfl ?_
  refine to_gt rfl rfl ?_
  refine to_geq rfl rfl rfl ?_
  refine to_fix (s := 42) (b' := false) rfl (decide_eq_false (by omega)) ?_
  refine to_pkF rfl rfl rfl ?_
  refine to_mv rfl rfl ?_
  refine to_gt rfl rfl ?_
  refine to_mv rfl rfl ?_
  refine to_gt rfl rfl ?_
  refine to_mv rfl rfl ?_
  refine to_gt rfl rfl ?_
  refine to_sidx rfl rfl (by assumption) rfl ?_
  refine to_gt rfl rfl ?_
  refine to_lssk rfl rfl rfl ?_
  refine to_fix (s := 48) (b' := false) rfl (decide_eq_false h3) ?_
  refine to_pkF rfl rfl rfl ?_
  refine to_mv rfl rfl ?_
  refine to_gt rfl rfl ?_
  refine to_mv rfl rfl ?_
  refine to_gt rfl rfl ?_
  refine to_mv rfl rfl ?_
  refine to_gt rfl rfl ?_
  refine to_sidx rfl rfl (by assumption) rfl ?_
  refine to_gt rfl rfl ?_
  refine to_gtrk rfl rfl rfl ?_
  refine to_fix (s := 54) (b' := false) rfl (decide_eq_false h4) ?_
  refine to_pkF rfl rfl rfl ?_
  refine to_mv rfl rfl ?_
  refine to_gt rfl rfl ?_
  refine to_mv rfl rfl ?_
  refine to_gt rfl rfl ?_
  refine to_mv rfl rfl ?_
  refine to_gt rfl rfl ?_
  refine to_sidx rfl rfl (by assumption) rfl ?_
  refine to_gt rfl rfl ?_
  refine to_subk rfl rfl (by first | exact IntWalk.i32_in _ (by omega) | exact IntWalk.u8_in _ (by omega)) rfl ?_
  refine to_gt rfl rfl ?_
  refine to_cv rfl (by first | exact wrap_id (by omega) | exact IntWalk.u8_in _ (by omega) | exact IntWalk.i32_in _ (by omega)) rfl ?_
  refine to_gt rfl rfl ?_
  refine to_mv rfl rfl ?_
  refine to_gt rfl rfl ?_
  refine to_eql rfl rfl rfl ?_
  refine to_fix (s := 63) (b' := true) rfl (decide_eq_true h5) ?_
  refine to_pkF rfl rfl rfl ?_
  refine to_nil ?_
  refine tn_code ?_
  refine t_ifT rfl ?_
  refine t_seq ?_
  refine t_reg ?_
  refine to_call0 rfl rfl (fun w s => law_known w (gl_up hg (belowH_of s))) rfl ?_
  refine to_as rfl rfl ?_
  refine to_nil ?_
  refine tn_code ?_
  refine t_ret1 rfl rfl (res_tmp rfl) (fun w' s => ?_)
  rfl

set_option maxRecDepth 20000 in
theorem w_RoundSpoilt_ok (sh : Sh) (pt : Pt) (at_ d : Int) (w : World) (hre : Ro w 0 w.heap.size pt.ea sh.errs.length pt.ec 1 (ints sh.errs)) (hrr : Ro w 0 w.heap.size pt.ra sh.rows.length pt.rc 1 (ints sh.rows)) (hs : isSh sh = true) (hd1 : ¬ d < 0) (hd2 : ¬ d > 9) (k0 : Nat) (hat : at_ = (k0 : Int)) (ch : UInt8) (hc : (textZ sh)[k0]? = some ch) (h3 : ¬ ((ch.toNat : Nat) : Int) < 48) (h4 : ¬ ((ch.toNat : Nat) : Int) > 57) (h5 : ¬ ((ch.toNat : Nat) : Int) - 48 = d) (hg : Gl w) : Calls Tryz.prog 8 #[shV sh pt, (.int .i64 at_), (.int .i64 d)] w (RetV w (.bool true)) := by
  have hbb := isSh_b hs
  have hsh := short_ok hs
  have htl := text_le hs
  subst hat
  have hk0 := (List.getElem?_eq_some_iff.1 hc).1
  have hcb := u8_le ch
  have hdv := (dg1_val (d := d) (by omega)).1
  have hdc : isDg ch = true := dg_t (by omega)
  have hq := spoilt hs hc hdc (d := d) (by omega) (fun e => h5 (by rw [e] at hdv; omega))
  refine calls_T0 (av := [_, _, _]) Tryz.func8 rfl rfl rfl ?_
  refine t_seq ?_
  refine t_reg ?_
  refine to_box rfl rfl (fun b3 => ?_)
  refine to_as rfl rfl ?_
  refine to_nil ?_
  refine tn_code ?_
  refine t_seq ?_
  refine t_seq ?_
  refine t_reg ?_
  first | refine to_lda rfl rfl rfl ?_ | refine to_ldea rfl (by assumption) rfl rfl ?_
  refine to_call0 rfl rfl (fun w s => c_short sh pt w) rfl ?_
  refine to_fix (s := 13) (b' := true) rfl (hsh) ?_
  refine to_not rfl rfl ?_
  refine to_mv rfl rfl ?_
  refine to_gt rfl rfl ?_
  first | refine to_lda rfl rfl rfl ?_ | refine to_ldea rfl (by assumption) rfl rfl ?_
  refine to_gt rfl rfl ?_
  refine to_call0 rfl rfl (fun w s => ref_Sheet sh pt w (rdw s) (rdw s)) rfl ?_
  refine to_fix (s := 17) (b' := true) rfl (hs) ?_
  refine to_gt rfl rfl ?_
  refine to_not rfl rfl ?_
  refine to_pkF rfl rfl rfl ?_
  refine to_mv rfl rfl ?_
  refine to_gt rfl rfl ?_
  refine to_mv rfl rfl ?_
  refine to_gt rfl rfl ?_
  refine to_lss rfl rfl rfl ?_
  refine to_fix (s := 22) (b' := false) rfl (decide_eq_false hd1) ?_
  refine to_pkF rfl rfl rfl ?_
  refine to_mv rfl rfl ?_
  refine to_gt rfl rfl ?_
  refine to_mv rfl rfl ?_
  refine to_gt rfl rfl ?_
  refine to_gtr rfl rfl rfl ?_
  refine to_fix (s := 26) (b' := false) rfl (decide_eq_false hd2) ?_
  refine to_pkF rfl rfl rfl ?_
  refine to_nil ?_
  refine tn_code ?_
  refine t_ifF rfl ?_
  refine t_skip ?_
  refine tn_code ?_
  refine t_seq ?_
  refine t_reg ?_
  first | refine to_lda rfl rfl rfl ?_ | refine to_ldea rfl (by assumption) rfl rfl ?_
  refine to_call0 rfl rfl (fun w s => r_Print_t sh pt w (rdw s) (rdw s) (gl_up hg (belowH_of s)) hs) rfl ?_
  refine to_mv rfl rfl ?_
  refine to_ex rfl rfl rfl ?_
  refine to_ex rfl rfl rfl ?_
  refine to_as rfl rfl ?_
  refine to_as rfl rfl ?_
  refine to_nil ?_
  refine tn_code ?_
  refine t_seq ?_
  refine t_seq ?_
  refine t_reg ?_
  refine to_mv rfl rfl ?_
  refine to_neq rfl rfl rfl ?_
  refine to_fix (s := 35) (b' := false) rfl (rfl) ?_
  refine to_nil ?_
  refine tn_code ?_
  refine t_ifF rfl ?_
  refine t_skip ?_
  refine tn_code ?_
  refine t_seq ?_
  refine t_seq ?_
  refine t_reg ?_
  refine to_mv rfl rfl ?_
  refine to_lss rfl rfl rfl ?_
  refine to_fix (s := 37) (b' := false) rfl (decide_eq_false (by omega)) ?_
  refine to_mv rfl rfl ?_
  refine to_gt rfl rfl ?_
  refine to_mv rfl rfl ?_
  refine to_gt rfl rfl ?_
  refine to_mv rfl rfl ?_
  refine to_gt rfl rfl ?_
  refine to_lenL rfl rfl ?_
  refine to_gt rfl rfl ?_
  refine to_geq rfl rfl rfl ?_
  refine to_fix (s := 42) (b' := false) rfl (decide_eq_false (by omega)) ?_
  refine to_pkF rfl rfl rfl ?_
  refine to_mv rfl rfl ?_
  refine to_gt rfl rfl ?_
  refine to_mv rfl rfl ?_
  refine to_gt rfl rfl ?_
  refine to_mv rfl rfl ?_
  refine to_gt rfl rfl ?_
  refine to_sidx rfl rfl (by assumption) rfl ?_
  refine to_gt rfl rfl ?_
  refine to_lssk rfl rfl rfl ?_
  refine to_fix (s := 48) (b' := false) rfl (decide_eq_false h3) ?_
  refine to_pkF rfl rfl rfl ?_
  refine to_mv rfl rfl ?_
  refine to_gt rfl rfl ?_
  refine to_mv rfl rfl ?_
  refine to_gt rfl rfl ?_
  refine to_mv rfl rfl ?_
  refine to_gt rfl rfl ?_
  refine to_sidx rfl rfl (by assumption) rfl ?_
  refine to_gt rfl rfl ?_
  refine to_gtrk rfl rfl rfl ?_
  refine to_fix (s := 54) (b' := false) rfl (decide_eq_false h4) ?_
  refine to_pkF rfl rfl rfl ?_
  refine to_mv rfl rfl ?_
  refine to_gt rfl rfl ?_
  refine to_mv rfl rfl ?_
  refine to_gt rfl rfl ?_
  refine to_mv rfl rfl ?_
  refine to_gt rfl rfl ?_
  refine to_sidx rfl rfl (by assumption) rfl ?_
  refine to_gt rfl rfl ?_
  refine to_subk rfl rfl (by first | exact IntWalk.i32_in _ (by omega) | exact IntWalk.u8_in _ (by omega)) rfl ?_
  refine to_gt rfl rfl ?_
  refine to_cv rfl (by first | exact wrap_id (by omega) | exact IntWalk.u8_in _ (by omega) | exact IntWalk.i32_in _ (by omega)) rfl ?_
  refine to_gt rfl rfl ?_
  refine to_mv rfl rfl ?_
  refine to_gt rfl rfl ?_
  refine to_eql rfl rfl rfl ?_
  refine to_fix (s := 63) (b' := false) rfl (decide_eq_false h5) ?_
  refine to_pkF rfl rfl rfl ?_
  refine to_nil ?_
  refine tn_code ?_
  refine t_ifF rfl ?_
  refine t_skip ?_
  refine tn_code ?_
  refine t_seq ?_
  refine t_reg ?_
  refine to_mv rfl rfl ?_
  refine to_sby rfl rfl (fun g9 c9 => ?_)
  refine to_as rfl rfl ?_
  refine to_nil ?_
  refine tn_code ?_
  refine t_seq ?_
  refine t_reg ?_
  refine to_mv rfl rfl ?_
  refine to_mv rfl rfl ?_
  refine to_mv rfl rfl ?_
  refine to_add rfl rfl (by omega) rfl ?_
  refine to_cv rfl (by first | exact wrap_id (by omega) | exact IntWalk.u8_in _ (by omega) | exact IntWalk.i32_in _ (by omega)) rfl ?_
  refine to_ixs rfl rfl rfl hk0 rfl ?_
  refine to_stB (c := dg1 d) rfl rfl hdv hk0 ?_
  refine to_nil ?_
  refine tn_code ?_
  refine t_seq ?_
  refine t_reg ?_
  refine to_mv rfl rfl ?_
  refine to_btb rfl (by rw [List.length_set]) rfl ?_
  refine to_callR rfl rfl (fun w s => c_readq hq (gl_up hg (belowH_of s))) rfl (fun v77 lo77 w77 hlo77 hR77 => ?_)
  obtain ⟨pt77, rfl, hro77, hrq77⟩ := hR77
  refine to_mv rfl rfl ?_
  refine to_ex rfl rfl rfl ?_
  refine to_ex rfl rfl rfl ?_
  refine to_alloc rfl (fun b10 => ?_)
  first | refine to_st rfl rfl rfl rfl ?_ | refine to_ste rfl rfl (by assumption) rfl rfl ?_
  refine to_as rfl rfl ?_
  refine to_nil ?_
  refine tn_code ?_
  refine t_seq ?_
  refine t_reg ?_
  refine to_mv rfl rfl ?_
  refine to_eql rfl rfl rfl ?_
  refine to_fix (s := 81) (b' := true) rfl (rfl) ?_
  refine to_mv rfl rfl ?_
  refine to_gt rfl rfl ?_
  first | refine to_lda rfl rfl rfl ?_ | refine to_ldea rfl (by assumption) rfl rfl ?_
  refine to_gt rfl rfl ?_
  refine to_bs rfl rfl ?_
  refine to_gt rfl rfl ?_
  refine to_call0 rfl rfl (fun w s => ref_SameSh sh0 pt77 ⟨none, 0, none, 0⟩ w (rdw s) (rdw s) (Ro.nil _ _ _ _) (Ro.nil _ _ _ _) (by decide)) rfl ?_
  refine to_fix (s := 85) (b' := true) rfl (rfl) ?_
  refine to_pkT rfl rfl rfl ?_
  refine to_mv rfl rfl ?_
  refine to_gt rfl rfl ?_
  refine to_call0 rfl rfl (fun w s => law_known w (gl_up hg (belowH_of s))) rfl ?_
  refine to_pkT rfl rfl rfl ?_
  refine to_as rfl rfl ?_
  refine to_nil ?_
  refine tn_code ?_
  refine t_ret1 rfl rfl (res_tmp rfl) (fun w' s => ?_)
  rfl

theorem w_RoundSpoilt (sh : Sh) (pt : Pt) (at_ d : Int) (w : World) (hre : Ro w 0 w.heap.size pt.ea sh.errs.length pt.ec 1 (ints sh.errs)) (hrr : Ro w 0 w.heap.size pt.ra sh.rows.length pt.rc 1 (ints sh.rows)) (hg : Gl w) : Calls Tryz.prog 8 #[shV sh pt, .int .i64 at_, .int .i64 d] w (RetV w (.bool true)) := by
  rcases bool_tf (isSh sh) with hb | hb
  · by_cases hd1 : d < 0
    · exact w_RoundSpoilt_d1 sh pt at_ d w hre hrr hb hd1 hg
    · by_cases hd2 : d > 9
      · exact w_RoundSpoilt_d2 sh pt at_ d w hre hrr hb hd1 hd2 hg
      · by_cases ha : at_ < 0
        · exact w_RoundSpoilt_a1 sh pt at_ d w hre hrr hb hd1 hd2 ha hg
        · by_cases ha2 : at_ ≥ (textZ sh).length
          · exact w_RoundSpoilt_a2 sh pt at_ d w hre hrr hb hd1 hd2 ha ha2 hg
          · obtain ⟨k0, hk⟩ := Int.eq_ofNat_of_zero_le (show 0 ≤ at_ by omega)
            obtain ⟨ch, hc⟩ := some_get (xs := textZ sh) (k := k0) (by omega)
            by_cases h3 : ((ch.toNat : Nat) : Int) < 48
            · exact w_RoundSpoilt_a3 sh pt at_ d w hre hrr hb hd1 hd2 k0 hk ch hc h3 hg
            · by_cases h4 : ((ch.toNat : Nat) : Int) > 57
              · exact w_RoundSpoilt_a4 sh pt at_ d w hre hrr hb hd1 hd2 k0 hk ch hc h3 h4 hg
              · by_cases h5 : ((ch.toNat : Nat) : Int) - 48 = d
                · exact w_RoundSpoilt_a5 sh pt at_ d w hre hrr hb hd1 hd2 k0 hk ch hc h3 h4 h5 hg
                · exact w_RoundSpoilt_ok sh pt at_ d w hre hrr hb hd1 hd2 k0 hk ch hc h3 h4 h5 hg
  · exact w_RoundSpoilt_bf sh pt at_ d w hre hrr hb hg

end Go.Proofs


namespace Go.Proofs.YtebellbkmioadabGreatDoor
open Go Go.Sx Go.RowKit Go.WideShapes Go.ChangeShapes

section
variable {H : Type} {enc : TypeId × Value → H}
set_option maxRecDepth 100000 in
theorem roundSpoilt_law (W : World) (base : Nat) (args : Array Value) (ds : List (DataW H)) (p : List MemPlace) (hval : ∀ (j : Nat) t v, Tryz.f8.params[j]? = some t → args[j]? = some v → Value.okWide Tryz.prog W .any base t v)
    (hA : DataW.TrodAll enc Tryz.prog W 0 (fun _ => true) true Tryz.f8.params.toList args.toList ds p) (hg : Gl W) : Calls Tryz.prog 8 args W (RetV W (.bool true)) := by
  obtain ⟨l⟩ := args
  rw [Tryz.params8] at hA hval
  obtain ⟨v0, l0, d0, e0, p0, q0, hl0, rfl, h0, hA0⟩ := trodAll_cons hA
  have hl0' : l = v0 :: l0 := hl0
  subst hl0'
  obtain ⟨v1, l1, d1, e1, p1, q1, hl1, rfl, h1, hA1⟩ := trodAll_cons hA0
  subst hl1
  obtain ⟨v2, l2, d2, e2, p2, q2, hl2, rfl, h2, hA2⟩ := trodAll_cons hA1
  subst hl2
  obtain rfl := trodAll_nil hA2
  obtain ⟨sh0, pt0, rfl, hre0, hrr0⟩ := open_sh (hval 0 25 v0 rfl rfl) h0
  obtain ⟨n1, rfl, _⟩ := open_i u3 (hval 1 3 v1 rfl rfl) h1
  obtain ⟨n2, rfl, _⟩ := open_i u3 (hval 2 3 v2 rfl rfl) h2
  exact w_RoundSpoilt sh0 pt0 n1 n2 W hre0 hrr0 hg
end

set_option maxRecDepth 100000 in
theorem roundSpoilt_lifted (os : Os) (started : os.Started) (H : Type) (enc : TypeId × Value → H) :
    ReturnsInHanded {} Tryz.checked os 8 .any (fun w args => (Rows.roundSpoiltSpec.pre enc Tryz.prog Tryz.f8 [] false w args ∧ laidMetH Tryz.prog laidL w) ∧ sizedMet enc Tryz.prog Tryz.f8 (OpenSpec.ofChange Rows.roundSpoiltSpec) false w args)
      (Rows.roundSpoiltSpec.post enc Tryz.prog Tryz.f8 false true false false) :=
  law_lifted started (by kernel_rfl) Tryz.func8 rfl rfl (by kernel_rfl) (fun ds h => by
      match ds, h with
      | [_, _, _], _ => rfl)
    (ChangeSpec.witness_shaped (enc := enc) (C := Tryz.checked) (os := os) (X := fun w _ => laidMetH Tryz.prog laidL w) false (World.laidAll Tryz.prog os laidL) #[.agg #[.int .i64 0, .int .i64 0, .slice none 0 0, .slice none 0 0], .int .i64 0, .int .i64 0] 8 (World.laidAll_os _ _ _)
      (World.shaped_of_ZipB (by kernel_rfl) (by kernel_rfl)) (by kernel_rfl) (by kernel_rfl) (by kernel_rfl)
      (by rw [MakeChecks.laidMetH_plain _ _ _ (by kernel_rfl)]; exact laidMet_laidAll _ (by kernel_rfl) (by kernel_rfl)))
    (fun W base args ds p hval hA hg => roundSpoilt_law W base args ds p hval hA hg)

theorem roundSpoilt_holds : Rows.RoundSpoiltSaid :=
  OpenClaim.holds_of_wide 8 Tryz.f8 rfl rfl rfl rfl rfl rfl rfl ⟨rfl, rfl, rfl, rfl, rfl⟩ rfl rfl rfl rfl rfl (by kernel_rfl) Tryz.func8 (by kernel_rfl)
    (of_decide_eq_true (by kernel_rfl)) (by unfold Func.isWrapper; first | (rw [if_pos (by decide +kernel)]; kernel_rfl) | (rw [if_neg (by decide +kernel)]; exact ⟨rfl, rfl⟩))
    (fun os started H enc _ => roundSpoilt_lifted os started H enc)

theorem roundSpoilt_card : Rows.RoundSpoiltCardSaid :=
  Claim7.holds_tied_plain_at .later [] [.data, .data, .data, .data, .pinned] true (true, "54bc54d732b00ab41745012f143d3a299984cc0782d0007b60a3d798b30a7197") true
    roundSpoilt_holds (fun _ h => by cases h) (by kernel_rfl) (fun _ h => by cases h) roundSpoilt_row_tie rfl ⟨rfl, rfl⟩ (by kernel_rfl) rfl
    (fun f fn hf hfn => by
      obtain rfl : f = 8 := Option.some.inj ((show Tryz.prog.funcNamed "ephemerist/ephemeristlaw04.RoundSpoilt" = some 8 by kernel_rfl).symm.trans hf) |>.symm
      obtain rfl : fn = Tryz.f8 := (Option.some.inj (Tryz.func8.symm.trans hfn)).symm
      exact ⟨by kernel_rfl, fun j t ht => by
        rw [Tryz.params8] at ht
        have hm : t ∈ [25, 3, 3] := by simpa using Array.mem_of_getElem? ht
        have hall : ([25, 3, 3].all fun u => !Tryz.prog.wantsStandIn u) = true := by kernel_rfl
        exact (show Tryz.prog.wantsStandIn t = false by simpa using List.all_eq_true.1 hall t hm)⟩)
    (by kernel_rfl)
end Go.Proofs.YtebellbkmioadabGreatDoor

