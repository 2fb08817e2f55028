/- RoundReads: for every input the law returns true, and each argument reads behind the call as it read before. Conditions: the package-level variables that the row lists hold what the program's text lays (tied by the card). -/
import Derived.Test.YtebellbkmioadabGreatDoorOwnC
import Derived.Test.YtebellbkmioadabGreatDoorOwnE
import Derived.Test.YtebellbkmioadabGreatDoorOwnF
import Derived.LaidOnce
import Derived.SevenTiedAt
import Derived.Test.YtebellbkmioadabGreatDoorTie
import Derived.Test.YtebellbkmioadabGreatDoorCards
set_option linter.unusedVariables false
set_option linter.unusedSimpArgs false
namespace Go.Proofs
open Go Go.Sx

/-! # Plain laws of round: rounding -/

/-! ## Numbers behind a figure -/

/-! ## Lists that lie on a map from one place on -/

end Go.Proofs


namespace Go.Proofs
open Go Go.Sx

/-! # Plain laws of round: what is sure -/

/-! ## More guard figures -/

/-! ## Totals of truths -/

/-! ## The other sign -/

end Go.Proofs


namespace Go.Proofs
open Go Go.Sx Go.RowKit

end Go.Proofs


namespace Go.Proofs
open Go Go.Sx Go.RowKit

end Go.Proofs


namespace Go.Proofs
open Go Go.Sx Go.RowKit

end Go.Proofs


namespace Go.Proofs
open Go Go.Sx Go.RowKit

end Go.Proofs


namespace Go.Proofs
open Go Go.Sx Go.RowKit

end Go.Proofs


namespace Go.Proofs
open Go Go.Sx Go.RowKit

set_option maxRecDepth 20000 in
theorem r_Print_t (sh : Sh) (pt : Pt) (w : World) (hre : Ro w 0 w.heap.size pt.ea sh.errs.length pt.ec 1 (ints sh.errs)) (hrr : Ro w 0 w.heap.size pt.ra sh.rows.length pt.rc 1 (ints sh.rows)) (hg : Gl w) (hs : isSh sh = true) : Calls Tryz.prog 31 #[shV sh pt] w (RetV w (.tuple #[strV (textZ sh), .int .i64 0])) := by
  have hnz := numsZ_of hs
  refine calls_T0 (av := [_]) Tryz.func31 rfl rfl rfl ?_
  refine t_seq ?_
  refine t_reg ?_
  refine to_box rfl rfl (fun b1 => ?_)
  refine to_as rfl rfl ?_
  refine to_as rfl rfl ?_
  refine to_nil ?_
  refine tn_code ?_
  refine t_seq ?_
  refine t_seq ?_
  refine t_reg ?_
  first | refine to_lda rfl rfl rfl ?_ | refine to_ldea rfl (by assumption) rfl rfl ?_
  refine to_call0 rfl rfl (fun w s => r_isSheet sh pt w (rdw s) (rdw s)) rfl ?_
  refine to_fix (s := 5) (b' := true) rfl (hs) ?_
  refine to_not rfl rfl ?_
  refine to_nil ?_
  refine tn_code ?_
  refine t_ifF rfl ?_
  refine t_skip ?_
  refine tn_code ?_
  refine t_seq ?_
  refine t_reg ?_
  first | refine to_lda rfl rfl rfl ?_ | refine to_ldea rfl (by assumption) rfl rfl ?_
  refine to_call0 rfl rfl (fun w s => r_text sh pt w (rdw s) (rdw s) hnz (gl_up hg (belowH_of s))) rfl ?_
  refine to_as rfl rfl ?_
  refine to_as rfl rfl ?_
  refine to_nil ?_
  refine tn_code ?_
  refine t_ret2 rfl rfl (res_tmp rfl) (res_tmp rfl) (fun w' s => ?_)
  rfl

set_option maxRecDepth 20000 in
theorem ref_SameSh (sh : Sh) (pt qt : Pt) (w : World) (hre : Ro w 0 w.heap.size pt.ea sh.errs.length pt.ec 1 (ints sh.errs)) (hrr : Ro w 0 w.heap.size pt.ra sh.rows.length pt.rc 1 (ints sh.rows)) (hqe : Ro w 0 w.heap.size qt.ea sh.errs.length qt.ec 1 (ints sh.errs)) (hqr : Ro w 0 w.heap.size qt.ra sh.rows.length qt.rc 1 (ints sh.rows)) (hl : sh.errs.length ≤ 1000 ∧ sh.rows.length ≤ 1000) : Calls Tryz.prog 34 #[shV sh pt, shV sh qt] w (RetV w (.bool true)) := by
  refine calls_T0 (av := [_, _]) Tryz.func34 rfl rfl rfl ?_
  refine t_seq ?_
  refine t_reg ?_
  refine to_box rfl rfl (fun b2 => ?_)
  refine to_box rfl rfl (fun b3 => ?_)
  refine to_as rfl rfl ?_
  refine to_nil ?_
  refine tn_code ?_
  refine t_seq ?_
  refine t_reg ?_
  first | refine to_fa rfl rfl rfl (by simp only [Nat.reduceAdd]; rfl) rfl ?_ | refine to_fae rfl rfl rfl (by simp only [Nat.reduceAdd]; rfl) rfl ?_
  first | refine to_lds rfl rfl rfl ?_ | refine to_ldes rfl (by assumption) rfl rfl ?_
  first | refine to_fa rfl rfl rfl (by simp only [Nat.reduceAdd]; rfl) rfl ?_ | refine to_fae rfl rfl rfl (by simp only [Nat.reduceAdd]; rfl) rfl ?_
  first | refine to_lds rfl rfl rfl ?_ | refine to_ldes rfl (by assumption) rfl rfl ?_
  refine to_eql rfl rfl rfl ?_
  refine to_fix (s := 9) (b' := true) rfl (by simp) ?_
  refine to_mv rfl rfl ?_
  refine to_gt rfl rfl ?_
  first | refine to_fa rfl rfl rfl (by simp only [Nat.reduceAdd]; rfl) rfl ?_ | refine to_fae rfl rfl rfl (by simp only [Nat.reduceAdd]; rfl) rfl ?_
  refine to_gt rfl rfl ?_
  first | refine to_lds rfl rfl rfl ?_ | refine to_ldes rfl (by assumption) rfl rfl ?_
  refine to_gt rfl rfl ?_
  first | refine to_fa rfl rfl rfl (by simp only [Nat.reduceAdd]; rfl) rfl ?_ | refine to_fae rfl rfl rfl (by simp only [Nat.reduceAdd]; rfl) rfl ?_
  refine to_gt rfl rfl ?_
  first | refine to_lds rfl rfl rfl ?_ | refine to_ldes rfl (by assumption) rfl rfl ?_
  refine to_gt rfl rfl ?_
  refine to_eql rfl rfl rfl ?_
  refine to_fix (s := 15) (b' := true) rfl (by simp) ?_
  refine to_pkT rfl rfl rfl ?_
  refine to_mv rfl rfl ?_
  refine to_gt rfl rfl ?_
  first | refine to_fa rfl rfl rfl (by simp only [Nat.reduceAdd]; rfl) rfl ?_ | refine to_fae rfl rfl rfl (by simp only [Nat.reduceAdd]; rfl) rfl ?_
  refine to_gt rfl rfl ?_
  first | refine to_lds rfl rfl rfl ?_ | refine to_ldes rfl (by assumption) rfl rfl ?_
  refine to_gt rfl rfl ?_
  first | refine to_fa rfl rfl rfl (by simp only [Nat.reduceAdd]; rfl) rfl ?_ | refine to_fae rfl rfl rfl (by simp only [Nat.reduceAdd]; rfl) rfl ?_
  refine to_gt rfl rfl ?_
  first | refine to_lds rfl rfl rfl ?_ | refine to_ldes rfl (by assumption) rfl rfl ?_
  refine to_gt rfl rfl ?_
  refine to_call0 rfl rfl (fun w s => ref_Same sh.errs sh.errs _ _ _ _ w (rdw s) (rdw s) hl.1) rfl ?_
  refine to_fix (s := 22) (b' := true) rfl (decide_eq_true rfl) ?_
  refine to_pkT rfl rfl rfl ?_
  refine to_mv rfl rfl ?_
  refine to_gt rfl rfl ?_
  first | refine to_fa rfl rfl rfl (by simp only [Nat.reduceAdd]; rfl) rfl ?_ | refine to_fae rfl rfl rfl (by simp only [Nat.reduceAdd]; rfl) rfl ?_
  refine to_gt rfl rfl ?_
  first | refine to_lds rfl rfl rfl ?_ | refine to_ldes rfl (by assumption) rfl rfl ?_
  refine to_gt rfl rfl ?_
  first | refine to_fa rfl rfl rfl (by simp only [Nat.reduceAdd]; rfl) rfl ?_ | refine to_fae rfl rfl rfl (by simp only [Nat.reduceAdd]; rfl) rfl ?_
  refine to_gt rfl rfl ?_
  first | refine to_lds rfl rfl rfl ?_ | refine to_ldes rfl (by assumption) rfl rfl ?_
  refine to_gt rfl rfl ?_
  refine to_call0 rfl rfl (fun w s => ref_Same sh.rows sh.rows _ _ _ _ w (rdw s) (rdw s) hl.2) rfl ?_
  refine to_fix (s := 29) (b' := true) rfl (decide_eq_true rfl) ?_
  refine to_pkT rfl rfl rfl ?_
  refine to_as rfl rfl ?_
  refine to_nil ?_
  refine tn_code ?_
  refine t_ret1 rfl rfl (res_tmp rfl) (fun w' s => ?_)
  rfl

theorem c_readq {tx : Bs} {b : Sh} {e : Int} {w : World} (hq : roundRead tx = (b, e)) (hg : Gl w) : Calls Tryz.prog 32 #[strV tx] w (Ret w (RShE b e)) := by
  have := r_Read tx w hg
  rw [hq] at this; exact this

end Go.Proofs


namespace Go.Proofs
open Go Go.Sx Go.RowKit

def RStrS (xs : List Bs) : Nat → World → Value → Prop := fun lo w1 v => ∃ a1 c1, v = .slice a1 xs.length c1 ∧ Ro w1 lo w1.heap.size a1 xs.length c1 1 (strs xs)

set_option maxRecDepth 20000 in
theorem T_Split (s0 : Bs) (c : UInt8) (w : World) (hl : s0.length ≤ 1000) : Calls Tryz.prog 69 #[strV s0, .int .u8 ((c.toNat : Nat) : Int)] w (Ret w (RStrS (splitL c s0))) := by
  refine calls_T (av := [_, _]) Tryz.func69 rfl rfl rfl ?_
  refine t_seq ?_
  refine t_reg ?_
  refine to_as rfl rfl ?_
  refine to_nil ?_
  refine tn_code ?_
  refine t_seq ?_
  refine t_reg ?_
  refine to_as rfl rfl ?_
  refine to_nil ?_
  refine tn_code ?_
  refine t_seq ?_
  refine t_reg ?_
  refine to_as rfl rfl ?_
  refine to_nil ?_
  refine tn_code ?_
  refine t_seq ?_
  refine t_seq ?_
  refine t_reg ?_
  refine to_as rfl rfl ?_
  refine to_nil ?_
  refine tn_code ?_
  refine t_blk ?_
  refine t_nilrow 9 1 ?_
  refine t_loop2 (ι := Nat × Nat × List Bs × Option Addr × Nat) (fun ((i, fr, P, a', c') : Nat × Nat × List Bs × Option Addr × Nat) => i ≤ s0.length ∧ fr ≤ i ∧ splitL c s0 = P ++ splitL c (s0.drop fr) ∧ (∀ x ∈ (s0.drop fr).take (i - fr), x ≠ c) ∧ P.length ≤ i) (fun ((i, fr, P, a', c') : Nat × Nat × List Bs × Option Addr × Nat) => [(0, strV s0), (1, .int .u8 ((c.toNat : Nat) : Int)), (5, .slice a' P.length c'), (6, (.int .i64 (fr : Int))), (7, (.int .i64 (i : Int)))]) (fun ((i, fr, P, a', c') : Nat × Nat × List Bs × Option Addr × Nat) => [.row a' P.length c' 9 1 (strs P), .snap 0 w.heap.size w]) (fun ((i, fr, P, a', c') : Nat × Nat × List Bs × Option Addr × Nat) => s0.length - i) ((0, 0, [], none, 0)) [.row none 0 0 9 1 [], .snap 0 w.heap.size w] (rfl) (⟨Nat.zero_le _, Nat.le_refl _, rfl, fun x hx => by simp at hx, Nat.zero_le _⟩) (⟨rfl, rfl, rfl, rfl, rfl, trivial⟩) ?_
  rintro ⟨i, fr, P, a', c'⟩ ⟨hi, hfi, hsp, hno, hPl⟩
  try dsimp only at hk
  show T _ _ _ ⟨_, [(0, strV s0), (1, .int .u8 ((c.toNat : Nat) : Int)), (5, .slice a' P.length c'), (6, (.int .i64 (fr : Int))), (7, (.int .i64 (i : Int)))], _⟩ [.row a' P.length c' 9 1 (strs P), .snap 0 w.heap.size w]
  refine t_seq ?_
  refine t_seq ?_
  refine t_reg ?_
  refine to_mv rfl rfl ?_
  refine to_mv rfl rfl ?_
  refine to_lenL rfl rfl ?_
  refine to_lss rfl rfl rfl ?_
  refine to_nil ?_
  refine tn_code ?_
  refine t_if rfl (fun h1 => ?_) (fun h1 => ?_)
  · try simp only [decide_eq_true_eq, decide_eq_false_iff_not, Bool.not_eq_true', Bool.not_eq_false', Int.not_lt, Int.not_le, ne_eq, Decidable.not_not] at h1
    try have h1b := inB_iff.1 h1
    obtain ⟨ch, hc⟩ := some_get (xs := s0) (k := i) (by omega)
    have hcb := u8_le ch
    refine t_skip ?_
    refine tn_code ?_
    refine t_seq ?_
    refine t_blk ?_
    refine t_seq ?_
    refine t_reg ?_
    refine to_mv rfl rfl ?_
    refine to_mv rfl rfl ?_
    refine to_sidx rfl rfl (by assumption) rfl ?_
    refine to_mv rfl rfl ?_
    refine to_eqlk rfl rfl rfl ?_
    refine to_nil ?_
    refine tn_code ?_
    refine t_if rfl (fun h2 => ?_) (fun h2 => ?_)
    · try simp only [decide_eq_true_eq, decide_eq_false_iff_not, Bool.not_eq_true', Bool.not_eq_false', Int.not_lt, Int.not_le, ne_eq, Decidable.not_not] at h2
      try have h2b := inB_iff.1 h2
      have heq := u8_eq (a := ch) (b := c) h2
      refine t_seq ?_
      refine t_reg ?_
      refine to_mv rfl rfl ?_
      refine to_mv rfl rfl ?_
      refine to_mv rfl rfl ?_
      refine to_mv rfl rfl ?_
      refine to_ssM rfl rfl rfl (by omega) (by omega) rfl ?_
      refine to_bsl rfl rfl rfl rfl (fun a24 => ?_)
      refine to_app rfl rfl rfl (by simp [scals, scal]) (by decide) (by omega) (by decide) rfl (fun a25 c25 => ?_)
      refine to_as rfl rfl ?_
      refine to_nil ?_
      refine tn_code ?_
      refine t_reg ?_
      refine to_mv rfl rfl ?_
      refine to_add rfl rfl (by omega) rfl ?_
      refine to_as rfl rfl ?_
      refine to_nil ?_
      refine tn_blk ?_
      refine tn_code ?_
      refine t_reg ?_
      refine to_mv rfl rfl ?_
      refine to_add rfl rfl (by omega) rfl ?_
      refine to_as rfl rfl ?_
      refine to_nil ?_
      exact tn_loop2 ((i + 1, i + 1, P ++ [((s0.drop fr).take (i - fr))], a25, c25)) [.row a25 (P.length + 1) c25 9 1 (strs P ++ [[strV ((s0.drop fr).take (i - fr))]]), .snap 0 w.heap.size w] (by simp) (⟨by omega, Nat.le_refl _, by rw [hsp, split_hit hc heq hfi hno]; simp, fun x hx => by simp at hx, by simp; omega⟩) (by dsimp only; omega) (⟨rfl, rfl, congrArg some (by simp), rfl, rfl, trivial⟩)
    · try simp only [decide_eq_true_eq, decide_eq_false_iff_not, Bool.not_eq_true', Bool.not_eq_false', Int.not_lt, Int.not_le, ne_eq, Decidable.not_not] at h2
      try have h2b := inB_iff.1 h2
      have heq := u8_ne (a := ch) (b := c) h2
      refine t_skip ?_
      refine tn_blk ?_
      refine tn_code ?_
      refine t_reg ?_
      refine to_mv rfl rfl ?_
      refine to_add rfl rfl (by omega) rfl ?_
      refine to_as rfl rfl ?_
      refine to_nil ?_
      exact tn_loop2 ((i + 1, fr, P, a', c')) [.row a' P.length c' 9 1 (strs P), .snap 0 w.heap.size w] (rfl) (⟨by omega, by omega, hsp, take_more hc heq hfi hno, by omega⟩) (by dsimp only; omega) (⟨rfl, rfl, rfl, rfl, rfl, trivial⟩)
  · try simp only [decide_eq_true_eq, decide_eq_false_iff_not, Bool.not_eq_true', Bool.not_eq_false', Int.not_lt, Int.not_le, ne_eq, Decidable.not_not] at h1
    try have h1b := inB_iff.1 h1
    have hi2 : i = s0.length := by omega
    subst hi2
    refine t_exit ?_
    refine tx_code ?_
    refine tx_inv ?_
    refine tx_blk ?_
    refine tn_code ?_
    refine t_seq ?_
    refine t_reg ?_
    refine to_mv rfl rfl ?_
    refine to_mv rfl rfl ?_
    refine to_mv rfl rfl ?_
    refine to_ssL rfl rfl (by omega) rfl ?_
    refine to_bsl rfl rfl rfl rfl (fun a32 => ?_)
    refine to_app rfl rfl rfl (by simp [scals, scal]) (by decide) (by omega) (by decide) rfl (fun a33 c33 => ?_)
    refine to_as rfl rfl ?_
    refine to_nil ?_
    refine tn_code ?_
    refine t_ret1 rfl rfl (res_tmp rfl) (fun w' s => ?_)
    have hf : splitL c (s0.drop fr) = [s0.drop fr] := split_none (fun x hx => hno x (by rw [List.take_of_length_le (by rw [List.length_drop]; exact Nat.le_refl _)]; exact hx))
    rw [RStrS, hsp, hf]
    refine ⟨_, _, congrArg (fun z => Value.slice a33 z c33) (by simp), ?_⟩
    have h9 := ro_row s (a := a33)
    simpa using h9

/-- A number of the reference's. -/
def NumQ (l : Bs) : Nat → World → Value → Prop := fun _ _ u => ∃ (n : Int) (bb : Bool), u = .tuple #[.int .i64 n, .bool bb] ∧ okZ n ∧ ((numZ l = some n ∧ bb = true) ∨ (numZ l = none ∧ bb = false))
theorem numQ_no {l : Bs} {lo : Nat} {w : World} (h : numZ l = none) : NumQ l lo w (.tuple #[.int .i64 0, .bool false]) := ⟨0, false, rfl, by unfold okZ; omega, .inr ⟨h, rfl⟩⟩
theorem absW_p {c0 : UInt8} {tl : Bs} (h : c0 ≠ 45) : absW (c0 :: tl) = c0 :: tl := by simp [absW, h]
theorem absW_m (tl : Bs) : absW (45 :: tl) = tl := by simp [absW]
theorem sgnV_p {c0 : UInt8} {tl : Bs} (h : c0 ≠ 45) : sgnV (c0 :: tl) = valK (c0 :: tl) (c0 :: tl).length := by simp [sgnV, absW_p h, h]
theorem sgnV_m (tl : Bs) : sgnV (45 :: tl) = -(valK tl tl.length) := by simp [sgnV, absW_m]

set_option maxRecDepth 20000 in
theorem num_nil  (w : World)  : Calls Tryz.prog 95 #[strV [], (.int .i64 6)] w (Ret w (NumQ [])) := by
  refine calls_T (av := [_, _]) Tryz.func95 rfl rfl rfl ?_
  refine t_seq ?_
  refine t_reg ?_
  refine to_as rfl rfl ?_
  refine to_as rfl rfl ?_
  refine to_nil ?_
  refine tn_code ?_
  refine t_seq ?_
  refine t_reg ?_
  refine to_mv rfl rfl ?_
  refine to_as rfl rfl ?_
  refine to_as rfl rfl ?_
  refine to_nil ?_
  refine tn_code ?_
  refine t_seq ?_
  refine t_seq ?_
  refine t_reg ?_
  refine to_mv rfl rfl ?_
  refine to_lenL rfl rfl ?_
  refine to_gtr rfl rfl rfl ?_
  refine to_fix (s := 13) (b' := false) rfl (rfl) ?_
  refine to_mv rfl rfl ?_
  refine to_gf rfl rfl rfl rfl ?_
  refine to_gf rfl rfl rfl rfl ?_
  refine to_gf rfl rfl rfl rfl ?_
  refine to_pkF rfl rfl rfl ?_
  refine to_nil ?_
  refine tn_code ?_
  refine t_ifF rfl ?_
  refine t_skip ?_
  refine tn_code ?_
  refine t_seq ?_
  refine t_seq ?_
  refine t_reg ?_
  refine to_mv rfl rfl ?_
  refine to_lenL rfl rfl ?_
  refine to_lss rfl rfl rfl ?_
  refine to_fix (s := 23) (b' := true) rfl (rfl) ?_
  refine to_mv rfl rfl ?_
  refine to_gf rfl rfl rfl rfl ?_
  refine to_gf rfl rfl rfl rfl ?_
  refine to_gf rfl rfl rfl rfl ?_
  refine to_gf rfl rfl rfl rfl ?_
  refine to_pkT rfl rfl rfl ?_
  refine to_nil ?_
  refine tn_code ?_
  refine t_ifT rfl ?_
  refine t_seq ?_
  refine t_reg ?_
  refine to_as rfl rfl ?_
  refine to_as rfl rfl ?_
  refine to_nil ?_
  refine tn_code ?_
  refine t_ret2 rfl rfl (res_tmp rfl) (res_tmp rfl) (fun w' s => ?_)
  exact numQ_no rfl

set_option maxRecDepth 20000 in
theorem num_p (c0 : UInt8) (tl : Bs) (w : World) (h0 : c0 ≠ 45) (hl : tl.length ≤ 1000) : Calls Tryz.prog 95 #[strV (c0 :: tl), (.int .i64 6)] w (Ret w (NumQ (c0 :: tl))) := by
  have hc0 : (c0 :: tl)[0]? = some c0 := rfl
  have hls : (c0 :: tl).length = tl.length + 1 := rfl
  have hne : ¬ ((c0.toNat : Nat) : Int) = 45 := fun e => h0 (UInt8.toNat_inj.1 (show c0.toNat = (45 : UInt8).toNat from ((show (c0.toNat : Nat) = 45 by omega).trans rfl)))
  refine calls_T (av := [_, _]) Tryz.func95 rfl rfl rfl ?_
  refine t_seq ?_
  refine t_reg ?_
  refine to_as rfl rfl ?_
  refine to_as rfl rfl ?_
  refine to_nil ?_
  refine tn_code ?_
  refine t_seq ?_
  refine t_reg ?_
  refine to_mv rfl rfl ?_
  refine to_as rfl rfl ?_
  refine to_as rfl rfl ?_
  refine to_nil ?_
  refine tn_code ?_
  refine t_seq ?_
  refine t_seq ?_
  refine t_reg ?_
  refine to_mv rfl rfl ?_
  refine to_lenL rfl rfl ?_
  refine to_gtr rfl rfl rfl ?_
  refine to_fix (s := 13) (b' := true) rfl (decide_eq_true (by omega)) ?_
  refine to_mv rfl rfl ?_
  refine to_gt rfl rfl ?_
  refine to_mv rfl rfl ?_
  refine to_gt rfl rfl ?_
  refine to_sidx rfl rfl (by assumption) rfl ?_
  refine to_gt rfl rfl ?_
  refine to_eqlk rfl rfl rfl ?_
  refine to_fix (s := 17) (b' := false) rfl (decide_eq_false hne) ?_
  refine to_pkT rfl rfl rfl ?_
  refine to_nil ?_
  refine tn_code ?_
  refine t_ifF rfl ?_
  refine t_skip ?_
  refine tn_code ?_
  refine t_seq ?_
  refine t_seq ?_
  refine t_reg ?_
  refine to_mv rfl rfl ?_
  refine to_lenL rfl rfl ?_
  refine to_lss rfl rfl rfl ?_
  refine to_fix (s := 23) (b' := false) rfl (decide_eq_false (by omega)) ?_
  refine to_mv rfl rfl ?_
  refine to_gt rfl rfl ?_
  refine to_mv rfl rfl ?_
  refine to_gt rfl rfl ?_
  refine to_lenL rfl rfl ?_
  refine to_gt rfl rfl ?_
  refine to_mv rfl rfl ?_
  refine to_gt rfl rfl ?_
  refine to_gtr rfl rfl rfl ?_
  refine to_pkF rfl rfl rfl ?_
  refine to_nil ?_
  refine tn_code ?_
  refine t_if rfl (fun h1 => ?_) (fun h1 => ?_)
  · try simp only [decide_eq_true_eq, decide_eq_false_iff_not, Bool.not_eq_true', Bool.not_eq_false', Int.not_lt, Int.not_le, ne_eq, Decidable.not_not] at h1
    try have h1b := inB_iff.1 h1
    refine t_seq ?_
    refine t_reg ?_
    refine to_as rfl rfl ?_
    refine to_as rfl rfl ?_
    refine to_nil ?_
    refine tn_code ?_
    refine t_ret2 rfl rfl (res_tmp rfl) (res_tmp rfl) (fun w' s => ?_)
    first | exact numQ_no (numZ_long (by rw [absW_p h0]; omega)) | exact numQ_no (numZ_bad (by rw [absW_p h0]; exact hc) (dg_f (by omega))) | (refine ⟨_, _, rfl, by unfold okZ; omega, ?_⟩; rw [Int.one_mul]; by_cases h9 : decZ (valK (c0 :: tl) (c0 :: tl).length) = (c0 :: tl); exact .inl ⟨by rw [numZ_t (by rw [absW_p h0]; simp) (by rw [absW_p h0]; omega) (by rw [absW_p h0]; exact hdg) (by rw [sgnV_p h0]; exact h9), sgnV_p h0], decide_eq_true h9⟩; exact .inr ⟨numZ_ne (by rw [sgnV_p h0]; exact h9), decide_eq_false h9⟩)
  · try simp only [decide_eq_true_eq, decide_eq_false_iff_not, Bool.not_eq_true', Bool.not_eq_false', Int.not_lt, Int.not_le, ne_eq, Decidable.not_not] at h1
    try have h1b := inB_iff.1 h1
    refine t_skip ?_
    refine tn_code ?_
    refine t_seq ?_
    refine t_reg ?_
    refine to_as rfl rfl ?_
    refine to_nil ?_
    refine tn_code ?_
    refine t_seq ?_
    refine t_seq ?_
    refine t_reg ?_
    refine to_as rfl rfl ?_
    refine to_nil ?_
    refine tn_code ?_
    refine t_blk ?_
    refine t_loop2 (ι := Nat) (fun k => k ≤ (c0 :: tl).length ∧ ∀ j, j < k → ∀ c, (c0 :: tl)[j]? = some c → isDg c = true) (fun k => [(0, strV (c0 :: tl)), (1, (.int .i64 6)), (6, (.int .i64 1)), (7, strV (c0 :: tl)), (8, (.int .i64 (valK (c0 :: tl) k))), (9, (.int .i64 (k : Int)))]) (fun k => [.snap 0 w.heap.size w]) (fun k => (c0 :: tl).length - k) (0) [.snap 0 w.heap.size w] (rfl) (⟨Nat.zero_le _, fun j hj => absurd hj (Nat.not_lt_zero _)⟩) (⟨rfl, rfl, rfl, rfl, rfl, rfl, trivial⟩) ?_
    rintro k ⟨hk, hdg⟩
    show T _ _ _ ⟨_, [(0, strV (c0 :: tl)), (1, (.int .i64 6)), (6, (.int .i64 1)), (7, strV (c0 :: tl)), (8, (.int .i64 (valK (c0 :: tl) k))), (9, (.int .i64 (k : Int)))], _⟩ [.snap 0 w.heap.size w]
    refine t_seq ?_
    refine t_seq ?_
    refine t_reg ?_
    refine to_mv rfl rfl ?_
    refine to_mv rfl rfl ?_
    refine to_lenL rfl rfl ?_
    refine to_lss rfl rfl rfl ?_
    refine to_nil ?_
    refine tn_code ?_
    refine t_if rfl (fun h2 => ?_) (fun h2 => ?_)
    · try simp only [decide_eq_true_eq, decide_eq_false_iff_not, Bool.not_eq_true', Bool.not_eq_false', Int.not_lt, Int.not_le, ne_eq, Decidable.not_not] at h2
      try have h2b := inB_iff.1 h2
      obtain ⟨ch, hc⟩ := some_get (xs := (c0 :: tl)) (k := k) (by omega)
      have hcb := u8_le ch
      have hvb := valK_b6 hdg hk (by omega)
      refine t_skip ?_
      refine tn_code ?_
      refine t_seq ?_
      refine t_blk ?_
      refine t_seq ?_
      refine t_seq ?_
      refine t_reg ?_
      refine to_mv rfl rfl ?_
      refine to_mv rfl rfl ?_
      refine to_sidx rfl rfl (by assumption) rfl ?_
      refine to_lssk rfl rfl rfl ?_
      refine to_mv rfl rfl ?_
      refine to_gs rfl rfl rfl (fun h3 => ?_) (fun h3 => ?_)
      · try simp only [decide_eq_true_eq, decide_eq_false_iff_not, Bool.not_eq_true', Bool.not_eq_false', Int.not_lt, Int.not_le, ne_eq, Decidable.not_not] at h3
        try have h3b := inB_iff.1 h3
        refine to_gf rfl rfl rfl rfl ?_
        refine to_gf rfl rfl rfl rfl ?_
        refine to_gf rfl rfl rfl rfl ?_
        refine to_gf rfl rfl rfl rfl ?_
        refine to_pkT rfl rfl rfl ?_
        refine to_nil ?_
        refine tn_code ?_
        refine t_ifT rfl ?_
        refine t_seq ?_
        refine t_reg ?_
        refine to_as rfl rfl ?_
        refine to_as rfl rfl ?_
        refine to_nil ?_
        refine tn_code ?_
        refine t_ret2 rfl rfl (res_tmp rfl) (res_tmp rfl) (fun w' s => ?_)
        first | exact numQ_no (numZ_long (by rw [absW_p h0]; omega)) | exact numQ_no (numZ_bad (by rw [absW_p h0]; exact hc) (dg_f (by omega))) | (refine ⟨_, _, rfl, by unfold okZ; omega, ?_⟩; rw [Int.one_mul]; by_cases h9 : decZ (valK (c0 :: tl) (c0 :: tl).length) = (c0 :: tl); exact .inl ⟨by rw [numZ_t (by rw [absW_p h0]; simp) (by rw [absW_p h0]; omega) (by rw [absW_p h0]; exact hdg) (by rw [sgnV_p h0]; exact h9), sgnV_p h0], decide_eq_true h9⟩; exact .inr ⟨numZ_ne (by rw [sgnV_p h0]; exact h9), decide_eq_false h9⟩)
      · try simp only [decide_eq_true_eq, decide_eq_false_iff_not, Bool.not_eq_true', Bool.not_eq_false', Int.not_lt, Int.not_le, ne_eq, Decidable.not_not] at h3
        try have h3b := inB_iff.1 h3
        refine to_gt rfl rfl ?_
        refine to_mv rfl rfl ?_
        refine to_gt rfl rfl ?_
        refine to_mv rfl rfl ?_
        refine to_gt rfl rfl ?_
        refine to_sidx rfl rfl (by assumption) rfl ?_
        refine to_gt rfl rfl ?_
        refine to_gtrk rfl rfl rfl ?_
        refine to_pkF rfl rfl rfl ?_
        refine to_nil ?_
        refine tn_code ?_
        refine t_if rfl (fun h4 => ?_) (fun h4 => ?_)
        · try simp only [decide_eq_true_eq, decide_eq_false_iff_not, Bool.not_eq_true', Bool.not_eq_false', Int.not_lt, Int.not_le, ne_eq, Decidable.not_not] at h4
          try have h4b := inB_iff.1 h4
          refine t_seq ?_
          refine t_reg ?_
          refine to_as rfl rfl ?_
          refine to_as rfl rfl ?_
          refine to_nil ?_
          refine tn_code ?_
          refine t_ret2 rfl rfl (res_tmp rfl) (res_tmp rfl) (fun w' s => ?_)
          first | exact numQ_no (numZ_long (by rw [absW_p h0]; omega)) | exact numQ_no (numZ_bad (by rw [absW_p h0]; exact hc) (dg_f (by omega))) | (refine ⟨_, _, rfl, by unfold okZ; omega, ?_⟩; rw [Int.one_mul]; by_cases h9 : decZ (valK (c0 :: tl) (c0 :: tl).length) = (c0 :: tl); exact .inl ⟨by rw [numZ_t (by rw [absW_p h0]; simp) (by rw [absW_p h0]; omega) (by rw [absW_p h0]; exact hdg) (by rw [sgnV_p h0]; exact h9), sgnV_p h0], decide_eq_true h9⟩; exact .inr ⟨numZ_ne (by rw [sgnV_p h0]; exact h9), decide_eq_false h9⟩)
        · try simp only [decide_eq_true_eq, decide_eq_false_iff_not, Bool.not_eq_true', Bool.not_eq_false', Int.not_lt, Int.not_le, ne_eq, Decidable.not_not] at h4
          try have h4b := inB_iff.1 h4
          refine t_skip ?_
          refine tn_code ?_
          have hdc := dg_t (c := ch) (by omega)
          have hdg2 : ∀ j, j < k + 1 → ∀ c, (c0 :: tl)[j]? = some c → isDg c = true := by
            intro j hj cc hcc
            rcases Nat.lt_succ_iff_lt_or_eq.1 hj with h' | rfl
            · exact hdg j h' cc hcc
            · rw [hc] at hcc; cases hcc; exact hdc
          have hvb2 := valK_b6 hdg2 (by omega) (by omega)
          rw [valK_succ hc] at hvb2
          refine t_reg ?_
          refine to_mv rfl rfl ?_
          refine to_mul rfl rfl (by first | omega | exact mul_ok (by omega) (by omega) (by omega) (by omega)) rfl ?_
          refine to_mv rfl rfl ?_
          refine to_mv rfl rfl ?_
          refine to_sidx rfl rfl (by assumption) rfl ?_
          refine to_subk rfl rfl (by first | exact IntWalk.i32_in _ (by omega) | exact IntWalk.u8_in _ (by omega)) rfl ?_
          refine to_cv rfl (by first | exact wrap_id (by omega) | exact IntWalk.u8_in _ (by omega) | exact IntWalk.i32_in _ (by omega)) rfl ?_
          refine to_add rfl rfl (by omega) rfl ?_
          refine to_as rfl rfl ?_
          refine to_nil ?_
          refine tn_blk ?_
          refine tn_code ?_
          refine t_reg ?_
          refine to_mv rfl rfl ?_
          refine to_add rfl rfl (by omega) rfl ?_
          refine to_as rfl rfl ?_
          refine to_nil ?_
          exact tn_loop2 (k + 1) [.snap 0 w.heap.size w] (rfl) (⟨by omega, hdg2⟩) (by omega) (⟨rfl, rfl, rfl, rfl, congrArg (fun z => some (Value.int .i64 z)) (by rw [valK_succ hc]), rfl, trivial⟩)
    · try simp only [decide_eq_true_eq, decide_eq_false_iff_not, Bool.not_eq_true', Bool.not_eq_false', Int.not_lt, Int.not_le, ne_eq, Decidable.not_not] at h2
      try have h2b := inB_iff.1 h2
      have hk2 : k = (c0 :: tl).length := by omega
      subst hk2
      have hvb := valK_b6 hdg hk (by omega)
      refine t_exit ?_
      refine tx_code ?_
      refine tx_inv ?_
      refine tx_blk ?_
      refine tn_code ?_
      refine t_seq ?_
      refine t_reg ?_
      refine to_mv rfl rfl ?_
      refine to_mv rfl rfl ?_
      refine to_mul rfl rfl (by first | omega | exact mul_ok (by omega) (by omega) (by omega) (by omega)) rfl ?_
      refine to_mv rfl rfl ?_
      refine to_mv rfl rfl ?_
      refine to_mul rfl rfl (by first | omega | exact mul_ok (by omega) (by omega) (by omega) (by omega)) rfl ?_
      refine to_call0 rfl rfl (fun w s => T_Decimal (1 * valK (c0 :: tl) (c0 :: tl).length) w (by unfold okZ; omega)) rfl ?_
      refine to_mv rfl rfl ?_
      refine to_seq rfl rfl rfl ?_
      refine to_as rfl rfl ?_
      refine to_as rfl rfl ?_
      refine to_nil ?_
      refine tn_code ?_
      refine t_ret2 rfl rfl (res_tmp rfl) (res_tmp rfl) (fun w' s => ?_)
      first | exact numQ_no (numZ_long (by rw [absW_p h0]; omega)) | exact numQ_no (numZ_bad (by rw [absW_p h0]; exact hc) (dg_f (by omega))) | (refine ⟨_, _, rfl, by unfold okZ; omega, ?_⟩; rw [Int.one_mul]; by_cases h9 : decZ (valK (c0 :: tl) (c0 :: tl).length) = (c0 :: tl); exact .inl ⟨by rw [numZ_t (by rw [absW_p h0]; simp) (by rw [absW_p h0]; omega) (by rw [absW_p h0]; exact hdg) (by rw [sgnV_p h0]; exact h9), sgnV_p h0], decide_eq_true h9⟩; exact .inr ⟨numZ_ne (by rw [sgnV_p h0]; exact h9), decide_eq_false h9⟩)

set_option maxRecDepth 20000 in
theorem num_m (tl : Bs) (w : World) (hl : tl.length ≤ 1000) : Calls Tryz.prog 95 #[strV (45 :: tl), (.int .i64 6)] w (Ret w (NumQ (45 :: tl))) := by
  have hc0 : ((45 : UInt8) :: tl)[0]? = some 45 := rfl
  have hls : ((45 : UInt8) :: tl).length = tl.length + 1 := rfl
  have hdl : (List.drop 1 ((45 : UInt8) :: tl)).length = tl.length := rfl
  refine calls_T (av := [_, _]) Tryz.func95 rfl rfl rfl ?_
  refine t_seq ?_
  refine t_reg ?_
  refine to_as rfl rfl ?_
  refine to_as rfl rfl ?_
  refine to_nil ?_
  refine tn_code ?_
  refine t_seq ?_
  refine t_reg ?_
  refine to_mv rfl rfl ?_
  refine to_as rfl rfl ?_
  refine to_as rfl rfl ?_
  refine to_nil ?_
  refine tn_code ?_
  refine t_seq ?_
  refine t_seq ?_
  refine t_reg ?_
  refine to_mv rfl rfl ?_
  refine to_lenL rfl rfl ?_
  refine to_gtr rfl rfl rfl ?_
  refine to_fix (s := 13) (b' := true) rfl (decide_eq_true (by omega)) ?_
  refine to_mv rfl rfl ?_
  refine to_gt rfl rfl ?_
  refine to_mv rfl rfl ?_
  refine to_gt rfl rfl ?_
  refine to_sidx rfl rfl (by assumption) rfl ?_
  refine to_gt rfl rfl ?_
  refine to_eqlk rfl rfl rfl ?_
  refine to_fix (s := 17) (b' := true) rfl (rfl) ?_
  refine to_pkT rfl rfl rfl ?_
  refine to_nil ?_
  refine tn_code ?_
  refine t_ifT rfl ?_
  refine t_regD rfl (by kernel_rfl) (by kernel_rfl) ?_
  refine to_mv rfl rfl ?_
  refine to_ssL (k := 1) rfl rfl (by omega) rfl ?_
  refine to_as rfl rfl ?_
  refine to_as rfl rfl ?_
  refine to_nil ?_
  refine tn_code ?_
  refine t_seq ?_
  refine t_seq ?_
  refine t_reg ?_
  refine to_mv rfl rfl ?_
  refine to_lenL rfl rfl ?_
  refine to_lss rfl rfl rfl ?_
  refine to_mv rfl rfl ?_
  refine to_gs rfl rfl rfl (fun h1 => ?_) (fun h1 => ?_)
  · try simp only [decide_eq_true_eq, decide_eq_false_iff_not, Bool.not_eq_true', Bool.not_eq_false', Int.not_lt, Int.not_le, ne_eq, Decidable.not_not] at h1
    try have h1b := inB_iff.1 h1
    refine to_gf rfl rfl rfl rfl ?_
    refine to_gf rfl rfl rfl rfl ?_
    refine to_gf rfl rfl rfl rfl ?_
    refine to_gf rfl rfl rfl rfl ?_
    refine to_pkT rfl rfl rfl ?_
    refine to_nil ?_
    refine tn_code ?_
    refine t_ifT rfl ?_
    refine t_seq ?_
    refine t_reg ?_
    refine to_as rfl rfl ?_
    refine to_as rfl rfl ?_
    refine to_nil ?_
    refine tn_code ?_
    refine t_ret2 rfl rfl (res_tmp rfl) (res_tmp rfl) (fun w' s => ?_)
    first | exact numQ_no (numZ_nil (by rw [absW_m]; exact List.length_eq_zero_iff.1 (by omega))) | exact numQ_no (numZ_long (by rw [absW_m]; omega)) | exact numQ_no (numZ_bad (by rw [absW_m]; exact hc) (dg_f (by omega))) | (refine ⟨_, _, rfl, by unfold okZ; omega, ?_⟩; rw [show -1 * valK tl tl.length = -(valK tl tl.length) from by omega]; by_cases h9 : decZ (-(valK tl tl.length)) = (45 :: tl); exact .inl ⟨by rw [numZ_t (by rw [absW_m]; exact fun e => by have h8 := congrArg List.length e; rw [List.length_nil] at h8; omega) (by rw [absW_m]; omega) (by rw [absW_m]; exact hdg) (by rw [sgnV_m]; exact h9), sgnV_m], decide_eq_true h9⟩; exact .inr ⟨numZ_ne (by rw [sgnV_m]; exact h9), decide_eq_false h9⟩)
  · try simp only [decide_eq_true_eq, decide_eq_false_iff_not, Bool.not_eq_true', Bool.not_eq_false', Int.not_lt, Int.not_le, ne_eq, Decidable.not_not] at h1
    try have h1b := inB_iff.1 h1
    refine to_gt rfl rfl ?_
    refine to_mv rfl rfl ?_
    refine to_gt rfl rfl ?_
    refine to_lenL rfl rfl ?_
    refine to_gt rfl rfl ?_
    refine to_mv rfl rfl ?_
    refine to_gt rfl rfl ?_
    refine to_gtr rfl rfl rfl ?_
    refine to_pkF rfl rfl rfl ?_
    refine to_nil ?_
    refine tn_code ?_
    refine t_if rfl (fun h2 => ?_) (fun h2 => ?_)
    · try simp only [decide_eq_true_eq, decide_eq_false_iff_not, Bool.not_eq_true', Bool.not_eq_false', Int.not_lt, Int.not_le, ne_eq, Decidable.not_not] at h2
      try have h2b := inB_iff.1 h2
      refine t_seq ?_
      refine t_reg ?_
      refine to_as rfl rfl ?_
      refine to_as rfl rfl ?_
      refine to_nil ?_
      refine tn_code ?_
      refine t_ret2 rfl rfl (res_tmp rfl) (res_tmp rfl) (fun w' s => ?_)
      first | exact numQ_no (numZ_nil (by rw [absW_m]; exact List.length_eq_zero_iff.1 (by omega))) | exact numQ_no (numZ_long (by rw [absW_m]; omega)) | exact numQ_no (numZ_bad (by rw [absW_m]; exact hc) (dg_f (by omega))) | (refine ⟨_, _, rfl, by unfold okZ; omega, ?_⟩; rw [show -1 * valK tl tl.length = -(valK tl tl.length) from by omega]; by_cases h9 : decZ (-(valK tl tl.length)) = (45 :: tl); exact .inl ⟨by rw [numZ_t (by rw [absW_m]; exact fun e => by have h8 := congrArg List.length e; rw [List.length_nil] at h8; omega) (by rw [absW_m]; omega) (by rw [absW_m]; exact hdg) (by rw [sgnV_m]; exact h9), sgnV_m], decide_eq_true h9⟩; exact .inr ⟨numZ_ne (by rw [sgnV_m]; exact h9), decide_eq_false h9⟩)
    · try simp only [decide_eq_true_eq, decide_eq_false_iff_not, Bool.not_eq_true', Bool.not_eq_false', Int.not_lt, Int.not_le, ne_eq, Decidable.not_not] at h2
      try have h2b := inB_iff.1 h2
      refine t_skip ?_
      refine tn_code ?_
      refine t_seq ?_
      refine t_reg ?_
      refine to_as rfl rfl ?_
      refine to_nil ?_
      refine tn_code ?_
      refine t_seq ?_
      refine t_seq ?_
      refine t_reg ?_
      refine to_as rfl rfl ?_
      refine to_nil ?_
      refine tn_code ?_
      refine t_blk ?_
      refine t_loop2 (ι := Nat) (fun k => k ≤ tl.length ∧ ∀ j, j < k → ∀ c, tl[j]? = some c → isDg c = true) (fun k => [(0, strV (45 :: tl)), (1, (.int .i64 6)), (6, (.int .i64 (-1))), (7, strV tl), (8, (.int .i64 (valK tl k))), (9, (.int .i64 (k : Int)))]) (fun k => [.snap 0 w.heap.size w]) (fun k => tl.length - k) (0) [.snap 0 w.heap.size w] (rfl) (⟨Nat.zero_le _, fun j hj => absurd hj (Nat.not_lt_zero _)⟩) (⟨rfl, rfl, rfl, rfl, rfl, rfl, trivial⟩) ?_
      rintro k ⟨hk, hdg⟩
      show T _ _ _ ⟨_, [(0, strV (45 :: tl)), (1, (.int .i64 6)), (6, (.int .i64 (-1))), (7, strV tl), (8, (.int .i64 (valK tl k))), (9, (.int .i64 (k : Int)))], _⟩ [.snap 0 w.heap.size w]
      refine t_seq ?_
      refine t_seq ?_
      refine t_reg ?_
      refine to_mv rfl rfl ?_
      refine to_mv rfl rfl ?_
      refine to_lenL rfl rfl ?_
      refine to_lss rfl rfl rfl ?_
      refine to_nil ?_
      refine tn_code ?_
      refine t_if rfl (fun h3 => ?_) (fun h3 => ?_)
      · try simp only [decide_eq_true_eq, decide_eq_false_iff_not, Bool.not_eq_true', Bool.not_eq_false', Int.not_lt, Int.not_le, ne_eq, Decidable.not_not] at h3
        try have h3b := inB_iff.1 h3
        obtain ⟨ch, hc⟩ := some_get (xs := tl) (k := k) (by omega)
        have hcb := u8_le ch
        have hvb := valK_b6 hdg hk (by omega)
        refine t_skip ?_
        refine tn_code ?_
        refine t_seq ?_
        refine t_blk ?_
        refine t_seq ?_
        refine t_seq ?_
        refine t_reg ?_
        refine to_mv rfl rfl ?_
        refine to_mv rfl rfl ?_
        refine to_sidx rfl rfl (by assumption) rfl ?_
        refine to_lssk rfl rfl rfl ?_
        refine to_mv rfl rfl ?_
        refine to_gs rfl rfl rfl (fun h4 => ?_) (fun h4 => ?_)
        · try simp only [decide_eq_true_eq, decide_eq_false_iff_not, Bool.not_eq_true', Bool.not_eq_false', Int.not_lt, Int.not_le, ne_eq, Decidable.not_not] at h4
          try have h4b := inB_iff.1 h4
          refine to_gf rfl rfl rfl rfl ?_
          refine to_gf rfl rfl rfl rfl ?_
          refine to_gf rfl rfl rfl rfl ?_
          refine to_gf rfl rfl rfl rfl ?_
          refine to_pkT rfl rfl rfl ?_
          refine to_nil ?_
          refine tn_code ?_
          refine t_ifT rfl ?_
          refine t_seq ?_
          refine t_reg ?_
          refine to_as rfl rfl ?_
          refine to_as rfl rfl ?_
          refine to_nil ?_
          refine tn_code ?_
          refine t_ret2 rfl rfl (res_tmp rfl) (res_tmp rfl) (fun w' s => ?_)
          first | exact numQ_no (numZ_nil (by rw [absW_m]; exact List.length_eq_zero_iff.1 (by omega))) | exact numQ_no (numZ_long (by rw [absW_m]; omega)) | exact numQ_no (numZ_bad (by rw [absW_m]; exact hc) (dg_f (by omega))) | (refine ⟨_, _, rfl, by unfold okZ; omega, ?_⟩; rw [show -1 * valK tl tl.length = -(valK tl tl.length) from by omega]; by_cases h9 : decZ (-(valK tl tl.length)) = (45 :: tl); exact .inl ⟨by rw [numZ_t (by rw [absW_m]; exact fun e => by have h8 := congrArg List.length e; rw [List.length_nil] at h8; omega) (by rw [absW_m]; omega) (by rw [absW_m]; exact hdg) (by rw [sgnV_m]; exact h9), sgnV_m], decide_eq_true h9⟩; exact .inr ⟨numZ_ne (by rw [sgnV_m]; exact h9), decide_eq_false h9⟩)
        · try simp only [decide_eq_true_eq, decide_eq_false_iff_not, Bool.not_eq_true', Bool.not_eq_false', Int.not_lt, Int.not_le, ne_eq, Decidable.not_not] at h4
          try have h4b := inB_iff.1 h4
          refine to_gt rfl rfl ?_
          refine to_mv rfl rfl ?_
          refine to_gt rfl rfl ?_
          refine to_mv rfl rfl ?_
          refine to_gt rfl rfl ?_
          refine to_sidx rfl rfl (by assumption) rfl ?_
          refine to_gt rfl rfl ?_
          refine to_gtrk rfl rfl rfl ?_
          refine to_pkF rfl rfl rfl ?_
          refine to_nil ?_
          refine tn_code ?_
          refine t_if rfl (fun h5 => ?_) (fun h5 => ?_)
          · try simp only [decide_eq_true_eq, decide_eq_false_iff_not, Bool.not_eq_true', Bool.not_eq_false', Int.not_lt, Int.not_le, ne_eq, Decidable.not_not] at h5
            try have h5b := inB_iff.1 h5
            refine t_seq ?_
            refine t_reg ?_
            refine to_as rfl rfl ?_
            refine to_as rfl rfl ?_
            refine to_nil ?_
            refine tn_code ?_
            refine t_ret2 rfl rfl (res_tmp rfl) (res_tmp rfl) (fun w' s => ?_)
            first | exact numQ_no (numZ_nil (by rw [absW_m]; exact List.length_eq_zero_iff.1 (by omega))) | exact numQ_no (numZ_long (by rw [absW_m]; omega)) | exact numQ_no (numZ_bad (by rw [absW_m]; exact hc) (dg_f (by omega))) | (refine ⟨_, _, rfl, by unfold okZ; omega, ?_⟩; rw [show -1 * valK tl tl.length = -(valK tl tl.length) from by omega]; by_cases h9 : decZ (-(valK tl tl.length)) = (45 :: tl); exact .inl ⟨by rw [numZ_t (by rw [absW_m]; exact fun e => by have h8 := congrArg List.length e; rw [List.length_nil] at h8; omega) (by rw [absW_m]; omega) (by rw [absW_m]; exact hdg) (by rw [sgnV_m]; exact h9), sgnV_m], decide_eq_true h9⟩; exact .inr ⟨numZ_ne (by rw [sgnV_m]; exact h9), decide_eq_false h9⟩)
          · try simp only [decide_eq_true_eq, decide_eq_false_iff_not, Bool.not_eq_true', Bool.not_eq_false', Int.not_lt, Int.not_le, ne_eq, Decidable.not_not] at h5
            try have h5b := inB_iff.1 h5
            refine t_skip ?_
            refine tn_code ?_
            have hdc := dg_t (c := ch) (by omega)
            have hdg2 : ∀ j, j < k + 1 → ∀ c, tl[j]? = some c → isDg c = true := by
              intro j hj cc hcc
              rcases Nat.lt_succ_iff_lt_or_eq.1 hj with h' | rfl
              · exact hdg j h' cc hcc
              · rw [hc] at hcc; cases hcc; exact hdc
            have hvb2 := valK_b6 hdg2 (by omega) (by omega)
            rw [valK_succ hc] at hvb2
            refine t_reg ?_
            refine to_mv rfl rfl ?_
            refine to_mul rfl rfl (by first | omega | exact mul_ok (by omega) (by omega) (by omega) (by omega)) rfl ?_
            refine to_mv rfl rfl ?_
            refine to_mv rfl rfl ?_
            refine to_sidx rfl rfl (by assumption) rfl ?_
            refine to_subk rfl rfl (by first | exact IntWalk.i32_in _ (by omega) | exact IntWalk.u8_in _ (by omega)) rfl ?_
            refine to_cv rfl (by first | exact wrap_id (by omega) | exact IntWalk.u8_in _ (by omega) | exact IntWalk.i32_in _ (by omega)) rfl ?_
            refine to_add rfl rfl (by omega) rfl ?_
            refine to_as rfl rfl ?_
            refine to_nil ?_
            refine tn_blk ?_
            refine tn_code ?_
            refine t_reg ?_
            refine to_mv rfl rfl ?_
            refine to_add rfl rfl (by omega) rfl ?_
            refine to_as rfl rfl ?_
            refine to_nil ?_
            exact tn_loop2 (k + 1) [.snap 0 w.heap.size w] (rfl) (⟨by omega, hdg2⟩) (by omega) (⟨rfl, rfl, rfl, rfl, congrArg (fun z => some (Value.int .i64 z)) (by rw [valK_succ hc]), rfl, trivial⟩)
      · try simp only [decide_eq_true_eq, decide_eq_false_iff_not, Bool.not_eq_true', Bool.not_eq_false', Int.not_lt, Int.not_le, ne_eq, Decidable.not_not] at h3
        try have h3b := inB_iff.1 h3
        have hk2 : k = tl.length := by omega
        subst hk2
        have hvb := valK_b6 hdg hk (by omega)
        refine t_exit ?_
        refine tx_code ?_
        refine tx_inv ?_
        refine tx_blk ?_
        refine tn_code ?_
        refine t_seq ?_
        refine t_reg ?_
        refine to_mv rfl rfl ?_
        refine to_mv rfl rfl ?_
        refine to_mul rfl rfl (by first | omega | exact mul_ok (by omega) (by omega) (by omega) (by omega)) rfl ?_
        refine to_mv rfl rfl ?_
        refine to_mv rfl rfl ?_
        refine to_mul rfl rfl (by first | omega | exact mul_ok (by omega) (by omega) (by omega) (by omega)) rfl ?_
        refine to_call0 rfl rfl (fun w s => T_Decimal (-1 * valK tl tl.length) w (by unfold okZ; omega)) rfl ?_
        refine to_mv rfl rfl ?_
        refine to_seq rfl rfl rfl ?_
        refine to_as rfl rfl ?_
        refine to_as rfl rfl ?_
        refine to_nil ?_
        refine tn_code ?_
        refine t_ret2 rfl rfl (res_tmp rfl) (res_tmp rfl) (fun w' s => ?_)
        first | exact numQ_no (numZ_nil (by rw [absW_m]; exact List.length_eq_zero_iff.1 (by omega))) | exact numQ_no (numZ_long (by rw [absW_m]; omega)) | exact numQ_no (numZ_bad (by rw [absW_m]; exact hc) (dg_f (by omega))) | (refine ⟨_, _, rfl, by unfold okZ; omega, ?_⟩; rw [show -1 * valK tl tl.length = -(valK tl tl.length) from by omega]; by_cases h9 : decZ (-(valK tl tl.length)) = (45 :: tl); exact .inl ⟨by rw [numZ_t (by rw [absW_m]; exact fun e => by have h8 := congrArg List.length e; rw [List.length_nil] at h8; omega) (by rw [absW_m]; omega) (by rw [absW_m]; exact hdg) (by rw [sgnV_m]; exact h9), sgnV_m], decide_eq_true h9⟩; exact .inr ⟨numZ_ne (by rw [sgnV_m]; exact h9), decide_eq_false h9⟩)

theorem T_number (l : Bs) (w : World) (hl : l.length ≤ 1000) : Calls Tryz.prog 95 #[strV l, .int .i64 6] w (Ret w (NumQ l)) := by
  cases l with
  | nil => exact num_nil w
  | cons c0 tl =>
    simp only [List.length_cons] at hl
    by_cases h0 : c0 = 45
    · subst h0; exact num_m tl w (by omega)
    · exact num_p c0 tl w h0 (by omega)

def NumsQ (ws : List Bs) : Nat → World → Value → Prop := fun lo w1 v => ∃ (Q : List Int) (a1 : Option Addr) (c1 : Nat), v = .tuple #[.slice a1 Q.length c1, .bool (numsL ws).isSome] ∧ Ro w1 lo w1.heap.size a1 Q.length c1 1 (ints Q) ∧ (∀ ns, numsL ws = some ns → Q = ns) ∧ Q.length ≤ ws.length
def plainL (ws : List Bs) : Option (List Int) := match numsL ws with
  | some ns => if ns.all (fun x => decide (0 ≤ x)) = true then some ns else none
  | none => none
def PlainQ (ws : List Bs) : Nat → World → Value → Prop := fun lo w1 v => ∃ (Q : List Int) (a1 : Option Addr) (c1 : Nat), v = .tuple #[.slice a1 Q.length c1, .bool (plainL ws).isSome] ∧ Ro w1 lo w1.heap.size a1 Q.length c1 1 (ints Q) ∧ (∀ ns, plainL ws = some ns → Q = ns) ∧ Q.length ≤ ws.length
theorem nums_no {ws : List Bs} {lo : Nat} {w1 : World} (h : numsL ws = none) : NumsQ ws lo w1 (.tuple #[.slice none 0 0, .bool false]) := ⟨[], none, 0, by rw [h]; rfl, Ro.nil _ _ _ _, (fun ns h2 => by rw [h] at h2; cases h2), Nat.zero_le _⟩
theorem nums_yes {ws : List Bs} {Q : List Int} {lo : Nat} {w1 : World} {a1 : Option Addr} {c1 : Nat} (h : numsL ws = some Q) (hr : Ro w1 lo w1.heap.size a1 Q.length c1 1 (ints Q)) : NumsQ ws lo w1 (.tuple #[.slice a1 Q.length c1, .bool true]) := ⟨Q, a1, c1, by rw [h]; rfl, hr, fun ns h2 => by rw [h] at h2; exact Option.some.inj h2, by rw [(numsL_b h).1]; exact Nat.le_refl _⟩
theorem nums_step {ws : List Bs} {k : Nat} {Q : List Int} {wd : Bs} {n : Int} {bb : Bool} (h : numsL (ws.take k) = some Q) (hw : ws[k]? = some wd) (hn : numZ wd = some n ∧ bb = true ∨ numZ wd = none ∧ bb = false) (hb : bb = true) : numsL (ws.take (k + 1)) = some (Q ++ [n]) := by
  subst hb
  rw [take_snoc hw, numsL_snoc, h]
  rcases hn with ⟨hn, _⟩ | ⟨_, hn⟩
  · rw [hn]
  · cases hn
theorem nums_bad {ws : List Bs} {k : Nat} {wd : Bs} {n : Int} {bb : Bool} (hw : ws[k]? = some wd) (hn : numZ wd = some n ∧ bb = true ∨ numZ wd = none ∧ bb = false) (hb : bb = false) : numsL ws = none := by
  rcases hn with ⟨_, h⟩ | ⟨h, _⟩
  · rw [hb] at h; cases h
  · exact numsL_none hw h
theorem plain_end {ws : List Bs} {Q : List Int} (h : ∀ ns, numsL ws = some ns → Q = ns) : ((numsL ws).isSome && Q.all (fun x => decide (0 ≤ x))) = (plainL ws).isSome ∧ ∀ ns, plainL ws = some ns → Q = ns := by
  cases hq : numsL ws with
  | none => simp [plainL, hq]
  | some q =>
    have := h q hq
    subst this
    simp only [plainL, hq]
    cases hb : Q.all (fun x => decide (0 ≤ x)) with
    | true => simp
    | false => simp
theorem all_step {bb : Bool} {Q : List Int} {k : Nat} {x : Int} (hx : Q[k]? = some x) : (bb && (Q.take (k + 1)).all (fun x => decide (0 ≤ x))) = ((bb && (Q.take k).all (fun x => decide (0 ≤ x))) && decide (0 ≤ x)) := by
  rw [take_snoc hx, List.all_append, ← Bool.and_assoc]; simp

set_option maxRecDepth 20000 in
theorem T_Numbers (ws : List Bs) (a : Option Addr) (c : Nat) (w : World) (hr : Ro w 0 w.heap.size a ws.length c 1 (strs ws)) (hl : ws.length ≤ 1000) (hwl : ∀ wd ∈ ws, wd.length ≤ 1000) : Calls Tryz.prog 71 #[.slice a ws.length c, (.int .i64 6)] w (Ret w (NumsQ ws)) := by
  refine calls_T (av := [_, _]) Tryz.func71 rfl rfl rfl ?_
  refine t_seq ?_
  refine t_reg ?_
  refine to_as rfl rfl ?_
  refine to_as rfl rfl ?_
  refine to_nil ?_
  refine tn_code ?_
  refine t_seq ?_
  refine t_reg ?_
  refine to_as rfl rfl ?_
  refine to_nil ?_
  refine tn_code ?_
  refine t_seq ?_
  refine t_seq ?_
  refine t_reg ?_
  refine to_as rfl rfl ?_
  refine to_nil ?_
  refine tn_code ?_
  refine t_blk ?_
  refine t_nilrow 3 1 ?_
  refine t_loop2 (ι := Nat × List Int × Option Addr × Nat) (fun ((k, Q, a', c') : Nat × List Int × Option Addr × Nat) => k ≤ ws.length ∧ Q.length ≤ k ∧ numsL (ws.take k) = some Q) (fun ((k, Q, a', c') : Nat × List Int × Option Addr × Nat) => [(0, .slice a ws.length c), (1, (.int .i64 6)), (6, .slice a' Q.length c'), (7, (.int .i64 (k : Int)))]) (fun ((k, Q, a', c') : Nat × List Int × Option Addr × Nat) => [.row a' Q.length c' 3 1 (ints Q), .snap 0 w.heap.size w]) (fun ((k, Q, a', c') : Nat × List Int × Option Addr × Nat) => ws.length - k) ((0, [], none, 0)) [.row none 0 0 3 1 [], .snap 0 w.heap.size w] (rfl) (⟨Nat.zero_le _, Nat.zero_le _, rfl⟩) (⟨rfl, rfl, rfl, rfl, trivial⟩) ?_
  rintro ⟨k, Q, a', c'⟩ ⟨hk, hQl, hQi⟩
  try dsimp only at hk
  show T _ _ _ ⟨_, [(0, .slice a ws.length c), (1, (.int .i64 6)), (6, .slice a' Q.length c'), (7, (.int .i64 (k : Int)))], _⟩ [.row a' Q.length c' 3 1 (ints Q), .snap 0 w.heap.size w]
  refine t_seq ?_
  refine t_seq ?_
  refine t_reg ?_
  refine to_mv rfl rfl ?_
  refine to_mv rfl rfl ?_
  refine to_lenS rfl rfl ?_
  refine to_lss rfl rfl rfl ?_
  refine to_nil ?_
  refine tn_code ?_
  refine t_if rfl (fun h1 => ?_) (fun h1 => ?_)
  · try simp only [decide_eq_true_eq, decide_eq_false_iff_not, Bool.not_eq_true', Bool.not_eq_false', Int.not_lt, Int.not_le, ne_eq, Decidable.not_not] at h1
    try have h1b := inB_iff.1 h1
    obtain ⟨wd, hw⟩ := some_get (xs := ws) (k := k) (by omega)
    have hwx := map_get (f := strC) hw
    have hwb := hwl wd (List.mem_of_getElem? hw)
    refine t_skip ?_
    refine tn_code ?_
    refine t_seq ?_
    refine t_blk ?_
    refine t_seq ?_
    refine t_reg ?_
    refine to_mv rfl rfl ?_
    refine to_mv rfl rfl ?_
    first | refine to_ix rfl rfl rfl (by first | omega | decide) (by first | omega | decide) rfl ?_ | refine to_ixi rfl rfl rfl (by omega) (by omega) (by omega) rfl ?_
    first | refine to_lds rfl rfl rfl ?_ | refine to_ldes rfl (by assumption) rfl rfl ?_
    refine to_mv rfl rfl ?_
    refine to_callR rfl rfl (fun w s => T_number _ w (by omega)) rfl (fun v22 lo22 w22 hlo22 hR22 => ?_)
    obtain ⟨n22, bb22, rfl, hnb22, hnq22⟩ := hR22
    refine to_mv rfl rfl ?_
    refine to_ex rfl rfl rfl ?_
    refine to_ex rfl rfl rfl ?_
    refine to_as rfl rfl ?_
    refine to_as rfl rfl ?_
    refine to_nil ?_
    refine tn_code ?_
    refine t_seq ?_
    refine t_seq ?_
    refine t_reg ?_
    refine to_mv rfl rfl ?_
    refine to_not rfl rfl ?_
    refine to_nil ?_
    refine tn_code ?_
    refine t_if rfl (fun h2 => ?_) (fun h2 => ?_)
    · try simp only [decide_eq_true_eq, decide_eq_false_iff_not, Bool.not_eq_true', Bool.not_eq_false', Int.not_lt, Int.not_le, ne_eq, Decidable.not_not] at h2
      try have h2b := inB_iff.1 h2
      have hbb : bb22 = false := h2
      refine t_seq ?_
      refine t_reg ?_
      refine to_as rfl rfl ?_
      refine to_as rfl rfl ?_
      refine to_nil ?_
      refine tn_code ?_
      refine t_ret2 rfl rfl (res_tmp rfl) (res_tmp rfl) (fun w' s => ?_)
      first | exact nums_no (nums_bad hw hnq22 hbb) | exact nums_yes hQi (ro_row s)
    · try simp only [decide_eq_true_eq, decide_eq_false_iff_not, Bool.not_eq_true', Bool.not_eq_false', Int.not_lt, Int.not_le, ne_eq, Decidable.not_not] at h2
      try have h2b := inB_iff.1 h2
      have hbb : bb22 = true := h2
      refine t_skip ?_
      refine tn_code ?_
      refine t_reg ?_
      refine to_mv rfl rfl ?_
      refine to_mv rfl rfl ?_
      refine to_bsl rfl rfl rfl rfl (fun a29 => ?_)
      refine to_app rfl rfl rfl (by simp [scals, scal]) (by decide) (by omega) (by decide) rfl (fun a30 c30 => ?_)
      refine to_as rfl rfl ?_
      refine to_nil ?_
      refine tn_blk ?_
      refine tn_code ?_
      refine t_reg ?_
      refine to_mv rfl rfl ?_
      refine to_add rfl rfl (by omega) rfl ?_
      refine to_as rfl rfl ?_
      refine to_nil ?_
      exact tn_loop2 ((k + 1, Q ++ [n22], a30, c30)) [.row a30 (Q.length + 1) c30 3 1 (ints Q ++ [[.int .i64 n22]]), .snap 0 w.heap.size w] (by simp) (⟨by omega, by simp; omega, nums_step hQi hw hnq22 hbb⟩) (by dsimp only; omega) (⟨rfl, rfl, congrArg some (by simp), rfl, trivial⟩)
  · try simp only [decide_eq_true_eq, decide_eq_false_iff_not, Bool.not_eq_true', Bool.not_eq_false', Int.not_lt, Int.not_le, ne_eq, Decidable.not_not] at h1
    try have h1b := inB_iff.1 h1
    have hk2 : k = ws.length := by omega
    subst hk2
    rw [List.take_length] at hQi
    refine t_exit ?_
    refine tx_code ?_
    refine tx_inv ?_
    refine tx_blk ?_
    refine tn_code ?_
    refine t_seq ?_
    refine t_reg ?_
    refine to_mv rfl rfl ?_
    refine to_as rfl rfl ?_
    refine to_as rfl rfl ?_
    refine to_nil ?_
    refine tn_code ?_
    refine t_ret2 rfl rfl (res_tmp rfl) (res_tmp rfl) (fun w' s => ?_)
    first | exact nums_no (nums_bad hw hnq22 hbb) | exact nums_yes hQi (ro_row s)

set_option maxRecDepth 20000 in
theorem T_Plain (ws : List Bs) (a : Option Addr) (c : Nat) (w : World) (hr : Ro w 0 w.heap.size a ws.length c 1 (strs ws)) (hl : ws.length ≤ 1000) (hwl : ∀ wd ∈ ws, wd.length ≤ 1000) : Calls Tryz.prog 70 #[.slice a ws.length c, (.int .i64 6)] w (Ret w (PlainQ ws)) := by
  refine calls_T (av := [_, _]) Tryz.func70 rfl rfl rfl ?_
  refine t_seq ?_
  refine t_reg ?_
  refine to_as rfl rfl ?_
  refine to_as rfl rfl ?_
  refine to_nil ?_
  refine tn_code ?_
  refine t_seq ?_
  refine t_reg ?_
  refine to_mv rfl rfl ?_
  refine to_mv rfl rfl ?_
  refine to_callR rfl rfl (fun w s => T_Numbers _ _ _ w (rdw s) (by omega) (by assumption)) rfl (fun v12 lo12 w12 hlo12 hR12 => ?_)
  obtain ⟨Q12, pa12, pc12, rfl, hro12, hQq12, hQz12⟩ := hR12
  refine to_mv rfl rfl ?_
  refine to_ex rfl rfl rfl ?_
  refine to_ex rfl rfl rfl ?_
  refine to_as rfl rfl ?_
  refine to_as rfl rfl ?_
  refine to_nil ?_
  refine tn_code ?_
  refine t_seq ?_
  refine t_seq ?_
  have hQn : Q12.length ≤ 1000 := by omega
  refine t_reg ?_
  refine to_as rfl rfl ?_
  refine to_nil ?_
  refine tn_code ?_
  refine t_blk ?_
  refine t_loop2 (ι := Nat) (fun k => k ≤ Q12.length) (fun k => [(6, .slice pa12 Q12.length pc12), (7, .bool ((numsL ws).isSome && (Q12.take k).all (fun x => decide (0 ≤ x)))), (8, (.int .i64 (k : Int)))]) (fun k => [.snap lo12 w12.heap.size w12, .snap 0 w.heap.size w]) (fun k => Q12.length - k) (0) [.snap lo12 w12.heap.size w12, .snap 0 w.heap.size w] (rfl) (Nat.zero_le _) (⟨rfl, congrArg (fun z => some (Value.bool z)) (by simp), rfl, trivial⟩) ?_
  rintro k hk
  show T _ _ _ ⟨_, [(6, .slice pa12 Q12.length pc12), (7, .bool ((numsL ws).isSome && (Q12.take k).all (fun x => decide (0 ≤ x)))), (8, (.int .i64 (k : Int)))], _⟩ [.snap lo12 w12.heap.size w12, .snap 0 w.heap.size w]
  refine t_seq ?_
  refine t_seq ?_
  refine t_reg ?_
  refine to_mv rfl rfl ?_
  refine to_mv rfl rfl ?_
  refine to_lenS rfl rfl ?_
  refine to_lss rfl rfl rfl ?_
  refine to_nil ?_
  refine tn_code ?_
  refine t_if rfl (fun h1 => ?_) (fun h1 => ?_)
  · try simp only [decide_eq_true_eq, decide_eq_false_iff_not, Bool.not_eq_true', Bool.not_eq_false', Int.not_lt, Int.not_le, ne_eq, Decidable.not_not] at h1
    try have h1b := inB_iff.1 h1
    obtain ⟨x, hq⟩ := some_get (xs := Q12) (k := k) (by omega)
    have hqx := map_get (f := intC) hq
    refine t_skip ?_
    refine tn_code ?_
    refine t_seq ?_
    refine t_blk ?_
    refine t_reg ?_
    refine to_mv rfl rfl ?_
    refine to_mv rfl rfl ?_
    refine to_gs rfl rfl rfl (fun h2 => ?_) (fun h2 => ?_)
    · try simp only [decide_eq_true_eq, decide_eq_false_iff_not, Bool.not_eq_true', Bool.not_eq_false', Int.not_lt, Int.not_le, ne_eq, Decidable.not_not] at h2
      try have h2b := inB_iff.1 h2
      have hall := h2
      refine to_gt rfl rfl ?_
      refine to_mv rfl rfl ?_
      refine to_gt rfl rfl ?_
      refine to_mv rfl rfl ?_
      refine to_gt rfl rfl ?_
      first | refine to_ix rfl rfl rfl (by first | omega | decide) (by first | omega | decide) rfl ?_ | refine to_ixi rfl rfl rfl (by omega) (by omega) (by omega) rfl ?_
      refine to_gt rfl rfl ?_
      first | refine to_lds rfl rfl rfl ?_ | refine to_ldes rfl (by assumption) rfl rfl ?_
      refine to_gt rfl rfl ?_
      refine to_geq rfl rfl rfl ?_
      refine to_pkT rfl rfl rfl ?_
      refine to_as rfl rfl ?_
      refine to_nil ?_
      refine tn_blk ?_
      refine tn_code ?_
      refine t_reg ?_
      refine to_mv rfl rfl ?_
      refine to_add rfl rfl (by omega) rfl ?_
      refine to_as rfl rfl ?_
      refine to_nil ?_
      exact tn_loop2 (k + 1) [.snap lo12 w12.heap.size w12, .snap 0 w.heap.size w] (rfl) (by omega) (by omega) (⟨rfl, congrArg (fun z => some (Value.bool z)) (by rw [all_step hq, hall]; simp), rfl, trivial⟩)
    · try simp only [decide_eq_true_eq, decide_eq_false_iff_not, Bool.not_eq_true', Bool.not_eq_false', Int.not_lt, Int.not_le, ne_eq, Decidable.not_not] at h2
      try have h2b := inB_iff.1 h2
      have hall := h2
      refine to_gf rfl rfl rfl rfl ?_
      refine to_gf rfl rfl rfl rfl ?_
      refine to_gf rfl rfl rfl rfl ?_
      refine to_gf rfl rfl rfl rfl ?_
      refine to_gf rfl rfl rfl rfl ?_
      refine to_pkF rfl rfl rfl ?_
      refine to_as rfl rfl ?_
      refine to_nil ?_
      refine tn_blk ?_
      refine tn_code ?_
      refine t_reg ?_
      refine to_mv rfl rfl ?_
      refine to_add rfl rfl (by omega) rfl ?_
      refine to_as rfl rfl ?_
      refine to_nil ?_
      exact tn_loop2 (k + 1) [.snap lo12 w12.heap.size w12, .snap 0 w.heap.size w] (rfl) (by omega) (by omega) (⟨rfl, congrArg (fun z => some (Value.bool z)) (by rw [all_step hq, hall]; simp), rfl, trivial⟩)
  · try simp only [decide_eq_true_eq, decide_eq_false_iff_not, Bool.not_eq_true', Bool.not_eq_false', Int.not_lt, Int.not_le, ne_eq, Decidable.not_not] at h1
    try have h1b := inB_iff.1 h1
    have hk2 : k = Q12.length := by omega
    subst hk2
    refine t_exit ?_
    refine tx_code ?_
    refine tx_inv ?_
    refine tx_blk ?_
    refine tn_code ?_
    refine t_seq ?_
    refine t_reg ?_
    refine to_mv rfl rfl ?_
    refine to_mv rfl rfl ?_
    refine to_as rfl rfl ?_
    refine to_as rfl rfl ?_
    refine to_nil ?_
    refine tn_code ?_
    refine t_ret2 rfl rfl (res_tmp rfl) (res_tmp rfl) (fun w' s => ?_)
    have h9 := plain_end hQq12
    rw [List.take_length, h9.1]
    exact ⟨Q12, _, _, rfl, ro_snap s hlo12, h9.2, hQz12⟩

end Go.Proofs


namespace Go.Proofs
open Go Go.Sx Go.RowKit

theorem run_slLH {P : Program} {t e b1 b2 : TypeId} {zz : List ZV} {ei : TI} [ht : Ty P t ⟨.slice e, b1, b2, zz⟩] [he : Ty P e ei] {a : Option Addr} {l c k q : Nat} {w : World} (hk : k ≤ q) (hq : q ≤ c) :
    (Instr.sliceAt t (.slice a l c) (some (.int .i64 (Int.ofNat k))) (some (.int .i64 (Int.ofNat q))) none).run P w = .ok (.slice (if c = k then a else a.map (·.add (k * ei.size))) (q - k) (c - k)) w := by
  simp only [Instr.sliceAt, Sem.run_bind, run_underlying ht.slice, Result.andThen, Instr.slice, Instr.sliceBounds, run_ok, run_bound k q _ hk, run_bound q c _ hq, he.sizeOf, if_true]
theorem ro_mid {w1 : World} {lo hi l c sz : Nat} {a : Option Addr} {xs : List (List Value)} (hr : Ro w1 lo hi a l c sz xs) {k q : Nat} (hk : k ≤ q) (hq : q ≤ l) : Ro w1 lo hi (if c = k then a else a.map (·.add (k * sz))) (q - k) (c - k) sz ((xs.drop k).take (q - k)) := by
  refine ⟨by rw [List.length_take, List.length_drop, hr.len]; omega, fun r hr2 => hr.each r (List.mem_of_mem_drop (List.mem_of_mem_take hr2)), by have := hr.le; omega, ?_⟩
  rcases hr.here with ⟨h1, h2, h3⟩ | ⟨ad, h1, h2, h3, h4, h5⟩
  · subst h1; exact .inl ⟨by simp, by omega, by omega⟩
  · subst h1
    by_cases hck : c = k
    · rw [if_pos hck]
      refine .inr ⟨ad, rfl, h2, h3, h4, fun i q2 hq2 => ?_⟩
      have hq3 := (List.getElem?_eq_some_iff.1 hq2).1
      rw [List.length_take, List.length_drop] at hq3
      have := hr.len; have := hr.le; omega
    · rw [if_neg hck]
      refine .inr ⟨ad.add (k * sz), rfl, by rw [add_block _ _ h2], by rw [add_block _ _ h2]; exact h3, by rw [add_block _ _ h2]; exact h4, fun i q2 hq2 j v hv => ?_⟩
      have hlt := (List.getElem?_eq_some_iff.1 hq2).1
      rw [List.length_take] at hlt
      rw [List.getElem?_take_of_lt (by omega), List.getElem?_drop] at hq2
      have := h5 _ q2 hq2 j v hv
      rw [add_block _ _ h2]
      rw [show ad.off + k * sz + (i * sz + j) = ad.off + ((k + i) * sz + j) from by rw [Nat.add_mul]; omega]
      exact this
/-- 'x[l:h]', x a slice that is read: its part is read. -/
theorem to_slLH {x : Cx} {d : Bool} {ops : Array Oper} {rest : List Oper} {ks : List KI} {n : Nat} {m : List (Nat × Value)} {ds : List Deferred} {H : List Seg}
  {ty : TypeId} {pos : String} {aft : Array Edge} {dd : Nat} {t e b1 b2 sz bb : TypeId} {ek : TK} {ez : List ZV} {zz : List ZV} {y loO hiO : Operand} {a : Option Addr} {l c k q lo hi : Nat} {w1 : World} {xs : List (List Value)} (hy : ev m y = some (.slice a l c)) (hl : ev m loO = some (.int .i64 (Int.ofNat k))) (hh : ev m hiO = some (.int .i64 (Int.ofNat q))) [ht : Ty x.P t ⟨.slice e, b1, b2, zz⟩] [he : Ty x.P e ⟨ek, sz, bb, ez⟩]
    [hr : Ro w1 lo hi a l c sz xs] (hk : k ≤ q) (hq : q ≤ l) (hd : Nat.blt dd n = true)
    (h : ∀ a', Ro w1 lo hi a' (q - k) (c - k) sz ((xs.drop k).take (q - k)) → TO x d ops rest ks ⟨n, (dd, .slice a' (q - k) (c - k)) :: m, ds⟩ H) : TO x d ops (⟨some dd, .slice t y (some loO) (some hiO) none, ty, pos, aft, none⟩ :: rest) ks ⟨n, m, ds⟩ H :=
  to_pure _ (fun _ h => by cases h) (fun a' w ea s => by
    simp only [execOp, Option.map_none, Option.map_some]; rw [ea.ev hy, ea.ev hl, ea.ev hh]
    rw [Sem.run_bind, run_slLH (ei := ⟨ek, sz, bb, ez⟩) (e := e) (b1 := b1) (b2 := b2) (zz := zz) hk (Nat.le_trans hq hr.le)]
    rfl) hd (h _ (ro_mid hr hk hq))
/-! ### What the reference reads -/
def RefR (tx : Bs) : Nat → World → Value → Prop := fun lo w1 v => ∃ (b : Sh) (pt : Pt), v = .tuple #[shV b pt, .bool (parseZ tx).isSome] ∧ Ro w1 lo w1.heap.size pt.ea b.errs.length pt.ec 1 (ints b.errs) ∧ Ro w1 lo w1.heap.size pt.ra b.rows.length pt.rc 1 (ints b.rows) ∧ (∀ b', parseZ tx = some b' → b = b')
theorem refR_no {tx : Bs} {lo : Nat} {w1 : World} (h : parseZ tx = none) : RefR tx lo w1 (.tuple #[shV sh0 ⟨none, 0, none, 0⟩, .bool false]) := ⟨sh0, ⟨none, 0, none, 0⟩, by rw [h]; rfl, Ro.nil _ _ _ _, Ro.nil _ _ _ _, fun b' hb => by rw [h] at hb; cases hb⟩
theorem refR_yes {tx : Bs} {b : Sh} {pt : Pt} {lo : Nat} {w1 : World} (h : parseZ tx = some b) (h1 : Ro w1 lo w1.heap.size pt.ea b.errs.length pt.ec 1 (ints b.errs)) (h2 : Ro w1 lo w1.heap.size pt.ra b.rows.length pt.rc 1 (ints b.rows)) : RefR tx lo w1 (.tuple #[shV b pt, .bool true]) := ⟨b, pt, by rw [h]; rfl, h1, h2, fun b' hb => by rw [h] at hb; exact Option.some.inj hb⟩
def ruleK (w : Bs) : Nat → Int
  | 0 => 0
  | k + 1 => if w = ruleW (k + 1) then (k : Int) + 1 else ruleK w k
theorem ruleK_b (w : Bs) : ∀ k, 0 ≤ ruleK w k ∧ ruleK w k ≤ k
  | 0 => by simp [ruleK]
  | k + 1 => by
    have := ruleK_b w k
    simp only [ruleK]
    split <;> omega
theorem ruleK_t {w : Bs} (h : ruleK w 4 ≠ 0) : rulesB.contains w = true ∧ ruleK w 4 = ruleN w := by
  by_cases h1 : w = ruleW 1
  · subst h1; decide
  · by_cases h2 : w = ruleW 2
    · subst h2; decide
    · by_cases h3 : w = ruleW 3
      · subst h3; decide
      · by_cases h4 : w = ruleW 4
        · subst h4; decide
        · exfalso; apply h
          simp only [ruleK]
          rw [if_neg (by exact h4), if_neg (by exact h3), if_neg (by exact h2), if_neg (by exact h1)]
theorem ruleK_f {w : Bs} (h : ruleK w 4 = 0) : rulesB.contains w = false := by
  cases hc : rulesB.contains w with
  | false => rfl
  | true =>
    exfalso
    have hm : w ∈ rulesB := by simpa using hc
    simp only [rulesB, List.mem_cons, List.not_mem_nil, or_false] at hm
    rcases hm with rfl | rfl | rfl | rfl <;> exact absurd h (by decide)
/-- The sheet that the reference holds is the one that the given reading would hold. -/
def RI (tx : Bs) (i : Nat) (b : Sh) : Prop := (∀ x, shK (splitL 10 tx) i = some x → x = b) ∧ 0 ≤ b.unit ∧ okZ b.unit ∧ (1 ≤ b.rule ∧ b.rule ≤ 4) ∧ (∀ n ∈ b.errs, okZ n) ∧ (∀ n ∈ b.rows, okZ n) ∧ b.errs.length + b.rows.length + 1 = i
theorem parse_k {tx : Bs} {b : Sh} (h : parseZ tx = some b) : 3 ≤ (splitL 10 tx).length ∧ shK (splitL 10 tx) ((splitL 10 tx).length - 2) = some b ∧ textZ b = tx := by
  simp only [parseZ] at h
  split at h
  · split at h
    · cases h
    · rename_i b0 hk
      split at h
      · cases h; exact ⟨by assumption, hk, by assumption⟩
      · cases h
  · cases h
theorem shK_some {rows : List Bs} {i j : Nat} {y : Sh} (h : shK rows j = some y) (hi : i ≤ j) : ∃ x, shK rows i = some x := by
  cases hq : shK rows i with
  | some x => exact ⟨x, rfl⟩
  | none => rw [shK_none hq j hi] at h; cases h
/-- A row that the given reading refuses, and one is there. -/
theorem no_row {tx : Bs} {i : Nat} {r : Bs} (hr : (splitL 10 tx)[i]? = some r) (hi : i < (splitL 10 tx).length - 2 ∨ i = 0) (h : ∀ x, stepZ i r x = none) : parseZ tx = none := by
  cases hp : parseZ tx with
  | none => rfl
  | some b =>
    obtain ⟨h1, h2, _⟩ := parse_k hp
    obtain ⟨x, hx⟩ := shK_some (i := i + 1) h2 (by omega)
    obtain ⟨y, hy⟩ := shK_some (i := i) hx (by omega)
    rw [shK_succ hy hr, h] at hx
    cases hx
theorem ri_first {tx r0 : Bs} {n : Int} (hr : (splitL 10 tx)[0]? = some r0) (h3 : (splitL 32 r0).length = 3) {w2 : Bs} (hw2 : (splitL 32 r0)[2]? = some w2) (hn : numZ ((splitL 32 r0).getD 1 []) = some n) (h0 : 0 ≤ n) (hk : ¬ ruleK w2 4 = 0) : RI tx 1 ⟨n, ruleK w2 4, [], []⟩ := by
  have hd2 : (splitL 32 r0).getD 2 [] = w2 := by simp [List.getD, hw2]
  have ht := ruleK_t hk
  have hb := ruleK_b w2 4
  refine ⟨fun x hx => ?_, h0, (numZ_b hn).1, by (try dsimp only); omega, by simp, by simp, by simp⟩
  rw [shK_succ (x := sh0) rfl hr, step_0t (n := n) ⟨h3, by rw [hd2]; exact ht.1⟩ hn h0, hd2] at hx
  rw [ht.2]
  exact (Option.some.inj hx).symm
theorem step_word {i : Nat} {r : Bs} {x y : Sh} {n : Int} (hi : ¬ i = 0) (h : stepZ i r x = some y) (hn : numsL ((splitL 32 r).drop 1) = some [n]) :
    ((splitL 32 r).getD 0 [] = wGuard ∧ y = ⟨x.unit, x.rule, x.errs ++ [n], x.rows⟩) ∨ ((splitL 32 r).getD 0 [] = wRow ∧ y = ⟨x.unit, x.rule, x.errs, x.rows ++ [n]⟩) := by
  have hw : ∃ w0 w1, splitL 32 r = [w0, w1] ∧ numZ w1 = some n := by
    obtain ⟨w0, ws, hs⟩ := split_ne 32 r
    rw [hs] at hn
    have hl := (numsL_b hn).1
    simp only [List.drop_succ_cons, List.drop_zero, List.length_singleton] at hl hn
    match ws, hl, hn with
    | [w1], _, hn =>
      refine ⟨w0, w1, hs, ?_⟩
      simp only [numsL] at hn
      cases hz : numZ w1 with
      | none => rw [hz] at hn; cases hn
      | some q => rw [hz] at hn; simpa using hn
  obtain ⟨w0, w1, hs, hz⟩ := hw
  have h1 : (splitL 32 r).getD 1 [] = w1 := by rw [hs]; rfl
  have h2 : (splitL 32 r).length = 2 := by rw [hs]; rfl
  by_cases hg : (splitL 32 r).getD 0 [] = wGuard ∧ (splitL 32 r).length = 2
  · by_cases h0 : 0 ≤ n
    · rw [step_gt hi hg (by rw [h1]; exact hz) h0] at h
      exact .inl ⟨hg.1, (Option.some.inj h).symm⟩
    · rw [step_gm hi hg (by rw [h1]; exact hz) (by omega)] at h
      cases h
  · by_cases hr : (splitL 32 r).getD 0 [] = wRow ∧ (splitL 32 r).length = 2
    · rw [step_rt hi hr (by rw [h1]; exact hz)] at h
      exact .inr ⟨hr.1, (Option.some.inj h).symm⟩
    · rw [step_f hi hg hr] at h; cases h
theorem step_bad {i : Nat} {r : Bs} {x : Sh} (hi : ¬ i = 0) (hn : ∀ n, numsL ((splitL 32 r).drop 1) ≠ some [n]) : stepZ i r x = none := by
  have hw : (splitL 32 r).length = 2 → numZ ((splitL 32 r).getD 1 []) = none := by
    intro hl
    obtain ⟨w0, ws, hs⟩ := split_ne 32 r
    rw [hs] at hl hn ⊢
    match ws, hl with
    | [w1], _ =>
      cases hz : numZ w1 with
      | none => simpa using hz
      | some q => exact absurd (by simp [numsL, hz]) (hn q)
  by_cases hg : (splitL 32 r).getD 0 [] = wGuard ∧ (splitL 32 r).length = 2
  · exact step_gn hi hg (hw hg.2)
  · by_cases hr : (splitL 32 r).getD 0 [] = wRow ∧ (splitL 32 r).length = 2
    · exact step_rn hi hr (hw hr.2)
    · exact step_f hi hg hr
theorem ri_next {tx r : Bs} {i : Nat} {b : Sh} {n : Int} {w0 : Bs} (h : RI tx i b) (hr : (splitL 10 tx)[i]? = some r) (hi : ¬ i = 0) (hn : numsL ((splitL 32 r).drop 1) = some [n]) (hw : (splitL 32 r)[0]? = some w0) :
    (w0 = wGuard → RI tx (i + 1) ⟨b.unit, b.rule, b.errs ++ [n], b.rows⟩) ∧ (¬ w0 = wGuard → RI tx (i + 1) ⟨b.unit, b.rule, b.errs, b.rows ++ [n]⟩) := by
  have hd : (splitL 32 r).getD 0 [] = w0 := by simp [List.getD, hw]
  have hok : okZ n := (numsL_b hn).2 n (by simp)
  obtain ⟨h1, h2, h3, h4, h5, h6, h7⟩ := h
  refine ⟨fun hg => ⟨fun x hx => ?_, h2, h3, h4, ?_, h6, by simp; omega⟩, fun hg => ⟨fun x hx => ?_, h2, h3, h4, h5, ?_, by simp; omega⟩⟩
  · obtain ⟨y, hy⟩ := shK_some (i := i) hx (by omega)
    have := h1 y hy
    subst this
    rw [shK_succ hy hr] at hx
    rcases step_word hi hx hn with ⟨_, h⟩ | ⟨hq, _⟩
    · exact h
    · rw [hd, hg] at hq; exact absurd hq guard_row
  · intro q hq
    rcases List.mem_append.1 hq with hq | hq
    · exact h5 q hq
    · rw [List.mem_singleton.1 hq]; exact hok
  · obtain ⟨y, hy⟩ := shK_some (i := i) hx (by omega)
    have := h1 y hy
    subst this
    rw [shK_succ hy hr] at hx
    rcases step_word hi hx hn with ⟨hq, _⟩ | ⟨_, h⟩
    · rw [hd] at hq; exact absurd hq hg
    · exact h
  · intro q hq
    rcases List.mem_append.1 hq with hq | hq
    · exact h6 q hq
    · rw [List.mem_singleton.1 hq]; exact hok
theorem ri_nums {tx : Bs} {i : Nat} {b : Sh} (h : RI tx i b) (hi : i ≤ 900) : numsZ b := by
  obtain ⟨h1, h2, h3, h4, h5, h6, h7⟩ := h
  exact ⟨h3, h4, h5, h6, by omega⟩
theorem ri_same {tx : Bs} {i : Nat} {b b' : Sh} (h : RI tx i b) (hi : (splitL 10 tx).length - 2 ≤ i) (h1 : 1 ≤ i) (hi2 : i ≤ (splitL 10 tx).length - 2 ∨ i = 1) (hp : parseZ tx = some b') : b' = b := by
  obtain ⟨h3, hk, _⟩ := parse_k hp
  have : i = (splitL 10 tx).length - 2 := by omega
  subst this
  exact h.1 b' hk
theorem ri_ne {tx : Bs} {i : Nat} {b : Sh} (h : RI tx i b) (hi : (splitL 10 tx).length - 2 ≤ i) (h1 : 1 ≤ i) (hi2 : i ≤ (splitL 10 tx).length - 2 ∨ i = 1) (hne : ¬ textZ b = tx) : parseZ tx = none := by
  cases hp : parseZ tx with
  | none => rfl
  | some b' =>
    have := ri_same h hi h1 hi2 hp
    subst this
    exact absurd (parse_k hp).2.2 hne
theorem ri_neg {tx : Bs} {i : Nat} {b : Sh} (hl : tx.length ≤ 500) (h : RI tx i b) (hi : (splitL 10 tx).length - 2 ≤ i) (h1 : 1 ≤ i) (hi2 : i ≤ (splitL 10 tx).length - 2 ∨ i = 1) {n : Int} {k : Nat} (hn : b.errs[k]? = some n) (h0 : n < 0) : parseZ tx = none := by
  cases hp : parseZ tx with
  | none => rfl
  | some b' =>
    have := ri_same h hi h1 hi2 hp
    subst this
    have := ((parse_ok hl hp).2.2.2.1 n (List.mem_of_getElem? hn)).1
    omega
theorem ri_eq {tx : Bs} {i : Nat} {b : Sh} (h : RI tx i b) (hi : i ≤ 900) (he : textZ b = tx) (h0 : ∀ j, j < b.errs.length → ∀ n, b.errs[j]? = some n → 0 ≤ n) : parseZ tx = some b := by
  have := parse_rt (ri_nums h hi) h.2.1 (fun n hn => by obtain ⟨j, hj, hn⟩ := List.getElem_of_mem hn; exact h0 j hj n (by rw [List.getElem?_eq_getElem hj, hn]))
  rw [he] at this; exact this
theorem plain_one {ws : List Bs} {w1 : Bs} (h : plainL [w1] ≠ none) : ∃ n, plainL [w1] = some [n] ∧ numZ w1 = some n ∧ 0 ≤ n := by
  cases hz : numZ w1 with
  | none => exact absurd (by simp [plainL, numsL, hz]) h
  | some n =>
    by_cases h0 : 0 ≤ n
    · exact ⟨n, by simp [plainL, numsL, hz, h0], rfl, h0⟩
    · exact absurd (by simp [plainL, numsL, hz, h0]) h
theorem plain_no {r0 : Bs} {w1 : Bs} (hw : (splitL 32 r0)[1]? = some w1) (h : plainL [w1] = none) (x : Sh) : stepZ 0 r0 x = none := by
  have hd : (splitL 32 r0).getD 1 [] = w1 := by simp [List.getD, hw]
  cases hz : numZ w1 with
  | none => exact step_0n (by rw [hd]; exact hz)
  | some n =>
    by_cases h0 : 0 ≤ n
    · simp [plainL, numsL, hz, h0] at h
    · exact step_0m (by rw [hd]; exact hz) (by omega)
end Go.Proofs


namespace Go.Proofs
open Go Go.Sx Go.RowKit

theorem pos_next {xs : List Int} {k : Nat} {q : Int} (h : ∀ j, j < k → ∀ n, xs[j]? = some n → 0 ≤ n) (hq : xs[k]? = some q) (h0 : 0 ≤ q) : ∀ j, j < k + 1 → ∀ n, xs[j]? = some n → 0 ≤ n := by
  intro j hj n hn
  rcases Nat.lt_succ_iff_lt_or_eq.1 hj with h' | rfl
  · exact h j h' n hn
  · rw [hq] at hn; cases hn; exact h0
theorem len1 {l : List Int} (h : l.length = 1) : ∃ a, l = [a] := by
  match l, h with
  | [a], _ => exact ⟨a, rfl⟩
theorem nums_is {ws : List Bs} {Q : List Int} (h : (numsL ws).isSome = true) (hq : ∀ ns, numsL ws = some ns → Q = ns) : numsL ws = some Q := by
  obtain ⟨q, h⟩ := Option.isSome_iff_exists.1 h
  rw [hq q h, h]
theorem nums_no1 {ws : List Bs} (h : (numsL ws).isSome = false) : ∀ n, numsL ws ≠ some [n] := fun n e => by rw [e] at h; cases h
theorem nums_no2 {ws : List Bs} {Q : List Int} (h : (numsL ws).isSome = true) (hq : ∀ ns, numsL ws = some ns → Q = ns) (hl : ¬ Q.length = 1) : ∀ n, numsL ws ≠ some [n] := fun n e => by rw [hq _ e] at hl; exact hl rfl

theorem c_plain1 {L : List Bs} {w1 : Bs} {a : Option Addr} {c : Nat} {w : World} (hw : L[1]? = some w1) (hl : w1.length ≤ 1000) (hr : Ro w 0 w.heap.size a (2 - 1) c 1 (((strs L).drop 1).take (2 - 1))) : Calls Tryz.prog 70 #[.slice a (2 - 1) c, .int .i64 6] w (Ret w (PlainQ [w1])) := by
  have e : ((strs L).drop 1).take (2 - 1) = strs [w1] := by
    have h1 := (List.getElem?_eq_some_iff.1 hw)
    obtain ⟨h1, h2⟩ := h1
    simp only [strs]
    rw [List.drop_eq_getElem_cons (by simpa using h1)]
    simp [h2]
  rw [e] at hr
  exact T_Plain [w1] a c w hr (by simp) (fun wd hwd => by simp at hwd; subst hwd; exact hl)
theorem c_numsD {L : List Bs} {a : Option Addr} {c : Nat} {w : World} (hl : L.length ≤ 1000) (hwl : ∀ wd ∈ L, wd.length ≤ 1000) (hr : Ro w 0 w.heap.size a (L.length - 1) c 1 ((strs L).drop 1)) : Calls Tryz.prog 71 #[.slice a (L.length - 1) c, .int .i64 6] w (Ret w (NumsQ (L.drop 1))) := by
  have h9 := T_Numbers (L.drop 1) a c w (by rw [List.length_drop]; rw [← List.map_drop] at hr; exact hr) (by rw [List.length_drop]; omega) (fun wd hwd => hwl wd (List.mem_of_mem_drop hwd))
  rw [List.length_drop] at h9; exact h9

set_option maxRecDepth 20000 in
theorem ref_Read_l (tx : Bs) (w : World) (hls : tx.length ≤ 250) (r0 : Bs) (hr0 : (splitL 10 tx)[0]? = some r0) (hl3 : ¬ (splitL 32 r0).length = 3) : Calls Tryz.prog 35 #[strV tx] w (Ret w (RefR tx)) := by
  have hsl := splitL_len 10 tx
  have hx0 := map_get (f := strC) hr0
  have hrl0 := splitL_each 10 (List.mem_of_getElem? hr0)
  have hsl0 := splitL_len 32 r0
  refine calls_T (av := [_]) Tryz.func35 rfl rfl rfl ?_
  refine t_seq ?_
  refine t_reg ?_
  refine to_alloc rfl (fun b2 => ?_)
  refine to_as rfl rfl ?_
  refine to_nil ?_
  refine tn_code ?_
  refine t_seq ?_
  refine t_reg ?_
  refine to_mv rfl rfl ?_
  refine to_callR rfl rfl (fun w s => T_Split tx 10 w (by omega)) rfl (fun v16 lo16 w16 hlo16 hR16 => ?_)
  obtain ⟨pa16, pc16, rfl, hro16⟩ := hR16
  refine to_as rfl rfl ?_
  refine to_nil ?_
  refine tn_code ?_
  refine t_seq ?_
  refine t_reg ?_
  refine to_mv rfl rfl ?_
  first | refine to_ix rfl rfl rfl (by first | omega | decide) (by first | omega | decide) rfl ?_ | refine to_ixi rfl rfl rfl (by omega) (by omega) (by omega) rfl ?_
  first | refine to_lds rfl rfl rfl ?_ | refine to_ldes rfl (by assumption) rfl rfl ?_
  refine to_callR rfl rfl (fun w s => T_Split r0 32 w (by omega)) rfl (fun v20 lo20 w20 hlo20 hR20 => ?_)
  obtain ⟨pa20, pc20, rfl, hro20⟩ := hR20
  refine to_as rfl rfl ?_
  refine to_nil ?_
  refine tn_code ?_
  refine t_seq ?_
  refine t_seq ?_
  refine t_reg ?_
  refine to_mv rfl rfl ?_
  refine to_lenS rfl rfl ?_
  refine to_neq rfl rfl rfl ?_
  refine to_fix (s := 23) (b' := true) rfl (decide_eq_true (by omega)) ?_
  refine to_nil ?_
  refine tn_code ?_
  refine t_ifT rfl ?_
  refine t_seq ?_
  refine t_reg ?_
  refine to_bs rfl rfl ?_
  first | refine to_st rfl rfl rfl rfl ?_ | refine to_ste rfl rfl (by assumption) rfl rfl ?_
  refine to_as rfl rfl ?_
  refine to_nil ?_
  refine tn_code ?_
  refine t_ret2 rfl rfl (res_cellA rfl rfl) (res_tmp rfl) (fun w' s => ?_)
  exact refR_no (no_row hr0 (.inr rfl) (fun x => step_0f (fun hh => hl3 hh.1)))

set_option maxRecDepth 20000 in
theorem ref_Read_n (tx : Bs) (w : World) (hls : tx.length ≤ 250) (r0 : Bs) (hr0 : (splitL 10 tx)[0]? = some r0) (w1 w2 : Bs) (hl3 : (splitL 32 r0).length = 3) (hw1 : (splitL 32 r0)[1]? = some w1) (hw2 : (splitL 32 r0)[2]? = some w2) (hA : plainL [w1] = none) : Calls Tryz.prog 35 #[strV tx] w (Ret w (RefR tx)) := by
  have hsl := splitL_len 10 tx
  have hx0 := map_get (f := strC) hr0
  have hrl0 := splitL_each 10 (List.mem_of_getElem? hr0)
  have hsl0 := splitL_len 32 r0
  have hy1 := map_get (f := strC) hw1
  have hy2 := map_get (f := strC) hw2
  have hwl1 := splitL_each 32 (List.mem_of_getElem? hw1)
  have hwl2 := splitL_each 32 (List.mem_of_getElem? hw2)
  refine calls_T (av := [_]) Tryz.func35 rfl rfl rfl ?_
  refine t_seq ?_
  refine t_reg ?_
  refine to_alloc rfl (fun b2 => ?_)
  refine to_as rfl rfl ?_
  refine to_nil ?_
  refine tn_code ?_
  refine t_seq ?_
  refine t_reg ?_
  refine to_mv rfl rfl ?_
  refine to_callR rfl rfl (fun w s => T_Split tx 10 w (by omega)) rfl (fun v16 lo16 w16 hlo16 hR16 => ?_)
  obtain ⟨pa16, pc16, rfl, hro16⟩ := hR16
  refine to_as rfl rfl ?_
  refine to_nil ?_
  refine tn_code ?_
  refine t_seq ?_
  refine t_reg ?_
  refine to_mv rfl rfl ?_
  first | refine to_ix rfl rfl rfl (by first | omega | decide) (by first | omega | decide) rfl ?_ | refine to_ixi rfl rfl rfl (by omega) (by omega) (by omega) rfl ?_
  first | refine to_lds rfl rfl rfl ?_ | refine to_ldes rfl (by assumption) rfl rfl ?_
  refine to_callR rfl rfl (fun w s => T_Split r0 32 w (by omega)) rfl (fun v20 lo20 w20 hlo20 hR20 => ?_)
  obtain ⟨pa20, pc20, rfl, hro20⟩ := hR20
  refine to_as rfl rfl ?_
  refine to_nil ?_
  refine tn_code ?_
  refine t_seq ?_
  refine t_seq ?_
  refine t_reg ?_
  refine to_mv rfl rfl ?_
  refine to_lenS rfl rfl ?_
  refine to_neq rfl rfl rfl ?_
  refine to_fix (s := 23) (b' := false) rfl (decide_eq_false (by omega)) ?_
  refine to_nil ?_
  refine tn_code ?_
  refine t_ifF rfl ?_
  refine t_skip ?_
  refine tn_code ?_
  refine t_seq ?_
  refine t_reg ?_
  refine to_mv rfl rfl ?_
  refine to_slLH (k := 1) (q := 2) rfl rfl rfl (by omega) (by omega) rfl (fun a27 hS27 => ?_)
  refine to_callR rfl rfl (fun w s => c_plain1 hw1 (by omega) (rdw s)) rfl (fun v28 lo28 w28 hlo28 hR28 => ?_)
  obtain ⟨Q28, pa28, pc28, rfl, hro28, hQp28, hQz28⟩ := hR28
  refine to_mv rfl rfl ?_
  refine to_ex rfl rfl rfl ?_
  refine to_ex rfl rfl rfl ?_
  refine to_as rfl rfl ?_
  refine to_as rfl rfl ?_
  refine to_nil ?_
  refine tn_code ?_
  refine t_seq ?_
  refine t_reg ?_
  refine to_alloc rfl (fun b8 => ?_)
  refine to_nil ?_
  refine tn_code ?_
  refine t_seq ?_
  refine t_seq ?_
  refine t_reg ?_
  refine to_as rfl rfl ?_
  refine to_nil ?_
  refine tn_code ?_
  refine t_blk ?_
  refine t_loop2 (ι := Nat) (fun k => k ≤ 4) (fun k => [(0, strV tx), (2, (.pointer (some ⟨b2, 0, none⟩))), (4, .slice pa16 (splitL 10 tx).length pc16), (5, .slice pa20 (splitL 32 r0).length pc20), (6, .slice pa28 Q28.length pc28), (7, .bool (plainL [w1]).isSome), (8, (.pointer (some ⟨b8, 0, none⟩))), (9, .int .i64 ((k : Int) + 1))]) (fun k => [.own b8 (isC [.int .i64 0, .int .i64 (ruleK w2 k), .slice none 0 0, .slice none 0 0] 25), .snap lo28 w28.heap.size w28, .snap lo20 w20.heap.size w20, .snap lo16 w16.heap.size w16, .own b2 (isC [.int .i64 0, .int .i64 0, .slice none 0 0, .slice none 0 0] 25), .snap 0 w.heap.size w]) (fun k => 4 - k) (0) [.own b8 (isC [.int .i64 0, .int .i64 0, .slice none 0 0, .slice none 0 0] 25), .snap lo28 w28.heap.size w28, .snap lo20 w20.heap.size w20, .snap lo16 w16.heap.size w16, .own b2 (isC [.int .i64 0, .int .i64 0, .slice none 0 0, .slice none 0 0] 25), .snap 0 w.heap.size w] (rfl) (Nat.zero_le _) (⟨rfl, rfl, rfl, rfl, rfl, rfl, rfl, rfl, trivial⟩) ?_
  rintro k hk
  show T _ _ _ ⟨_, [(0, strV tx), (2, (.pointer (some ⟨b2, 0, none⟩))), (4, .slice pa16 (splitL 10 tx).length pc16), (5, .slice pa20 (splitL 32 r0).length pc20), (6, .slice pa28 Q28.length pc28), (7, .bool (plainL [w1]).isSome), (8, (.pointer (some ⟨b8, 0, none⟩))), (9, .int .i64 ((k : Int) + 1))], _⟩ [.own b8 (isC [.int .i64 0, .int .i64 (ruleK w2 k), .slice none 0 0, .slice none 0 0] 25), .snap lo28 w28.heap.size w28, .snap lo20 w20.heap.size w20, .snap lo16 w16.heap.size w16, .own b2 (isC [.int .i64 0, .int .i64 0, .slice none 0 0, .slice none 0 0] 25), .snap 0 w.heap.size w]
  refine t_seq ?_
  refine t_seq ?_
  refine t_reg ?_
  refine to_mv rfl rfl ?_
  refine to_leq rfl rfl rfl ?_
  refine to_nil ?_
  refine tn_code ?_
  refine t_if rfl (fun h1 => ?_) (fun h1 => ?_)
  · try simp only [decide_eq_true_eq, decide_eq_false_iff_not, Bool.not_eq_true', Bool.not_eq_false', Int.not_lt, Int.not_le, ne_eq, Decidable.not_not] at h1
    try have h1b := inB_iff.1 h1
    have hrk := rule_at (r := (k : Int) + 1) (by omega)
    have hrk2 : ((k : Int) + 1).toNat = k + 1 := by omega
    rw [hrk2] at hrk
    refine t_skip ?_
    refine tn_code ?_
    refine t_seq ?_
    refine t_blk ?_
    refine t_seq ?_
    refine t_regP [3, 5, 6] [0, 1, 2, 4, 3, 5, 6, 7] [.snap lo20 w20.heap.size w20, .snap 0 w.heap.size w] rfl (by kernel_rfl) (by kernel_rfl) ?_
    refine tp_q ?e1 rfl ?q1 ?r1
    case q1 =>
      refine to_mv rfl rfl ?_
      exact tpq_end
    refine tp_q ?e2 rfl ?q2 ?r2
    case q2 =>
      first | refine to_ix rfl rfl rfl (by first | omega | decide) (by first | omega | decide) rfl ?_ | refine to_ixi rfl rfl rfl (by omega) (by omega) (by omega) rfl ?_
      exact tpq_end
    refine tp_q ?e3 rfl ?q3 ?r3
    case q3 =>
      first | refine to_lds rfl rfl rfl ?_ | refine to_ldes rfl (by assumption) rfl rfl ?_
      exact tpq_end
    refine tp_q ?e4 rfl ?q4 ?r4
    case q4 =>
      refine to_mv rfl rfl ?_
      exact tpq_end
    refine tp_s rfl ?_ (fun _ h => by cases h) rfl
    refine to_callR rfl rfl (fun w s => ref_rules w) rfl (fun v38 lo38 w38 hlo38 hR38 => ?_)
    obtain ⟨a38, c38, rfl, hro38⟩ := hR38
    refine tp_se rfl ?_
    refine tp_s rfl ?_ (fun _ h => by cases h) rfl
    first | refine to_ix rfl rfl rfl (by first | omega | decide) (by first | omega | decide) rfl ?_ | refine to_ixi rfl rfl rfl (by omega) (by omega) (by omega) rfl ?_
    refine tp_se rfl ?_
    refine tp_s rfl ?_ (fun _ h => by cases h) rfl
    first | refine to_lds rfl rfl rfl ?_ | refine to_ldes rfl (by assumption) rfl rfl ?_
    refine tp_se rfl ?_
    refine tp_q ?e5 rfl ?q5 ?r5
    case q5 =>
      refine to_seq rfl rfl rfl ?_
      exact tpq_end
    refine tp_nil ?_
    refine tn_code ?_
    refine t_if rfl (fun h2 => ?_) (fun h2 => ?_)
    · try simp only [decide_eq_true_eq, decide_eq_false_iff_not, Bool.not_eq_true', Bool.not_eq_false', Int.not_lt, Int.not_le, ne_eq, Decidable.not_not] at h2
      try have h2b := inB_iff.1 h2
      have hwr := h2
      refine t_reg ?_
      refine to_mv rfl rfl ?_
      first | refine to_fa rfl rfl rfl (by simp only [Nat.reduceAdd]; rfl) rfl ?_ | refine to_fae rfl rfl rfl (by simp only [Nat.reduceAdd]; rfl) rfl ?_
      first | refine to_st rfl rfl rfl rfl ?_ | refine to_ste rfl rfl (by assumption) rfl rfl ?_
      refine to_nil ?_
      refine tn_blk ?_
      refine tn_code ?_
      refine t_reg ?_
      refine to_mv rfl rfl ?_
      refine to_add rfl rfl (by omega) rfl ?_
      refine to_as rfl rfl ?_
      refine to_nil ?_
      exact tn_loop2 (k + 1) [.own b8 (isC [.int .i64 0, .int .i64 ((k : Int) + 1), .slice none 0 0, .slice none 0 0] 25), .snap lo28 w28.heap.size w28, .snap lo20 w20.heap.size w20, .snap lo16 w16.heap.size w16, .own b2 (isC [.int .i64 0, .int .i64 0, .slice none 0 0, .slice none 0 0] 25), .snap 0 w.heap.size w] (by simp only [ruleK]; rw [if_pos hwr]) (by omega) (by omega) (⟨rfl, rfl, rfl, rfl, rfl, rfl, rfl, congrArg (fun z => some (Value.int .i64 z)) (by omega), trivial⟩)
    · try simp only [decide_eq_true_eq, decide_eq_false_iff_not, Bool.not_eq_true', Bool.not_eq_false', Int.not_lt, Int.not_le, ne_eq, Decidable.not_not] at h2
      try have h2b := inB_iff.1 h2
      have hwr := h2
      refine t_skip ?_
      refine tn_blk ?_
      refine tn_code ?_
      refine t_reg ?_
      refine to_mv rfl rfl ?_
      refine to_add rfl rfl (by omega) rfl ?_
      refine to_as rfl rfl ?_
      refine to_nil ?_
      exact tn_loop2 (k + 1) [.own b8 (isC [.int .i64 0, .int .i64 (ruleK w2 k), .slice none 0 0, .slice none 0 0] 25), .snap lo28 w28.heap.size w28, .snap lo20 w20.heap.size w20, .snap lo16 w16.heap.size w16, .own b2 (isC [.int .i64 0, .int .i64 0, .slice none 0 0, .slice none 0 0] 25), .snap 0 w.heap.size w] (by simp only [ruleK]; rw [if_neg hwr]) (by omega) (by omega) (⟨rfl, rfl, rfl, rfl, rfl, rfl, rfl, congrArg (fun z => some (Value.int .i64 z)) (by omega), trivial⟩)
  · try simp only [decide_eq_true_eq, decide_eq_false_iff_not, Bool.not_eq_true', Bool.not_eq_false', Int.not_lt, Int.not_le, ne_eq, Decidable.not_not] at h1
    try have h1b := inB_iff.1 h1
    have hk4 : k = 4 := by omega
    subst hk4
    refine t_exit ?_
    refine tx_code ?_
    refine tx_inv ?_
    refine tx_blk ?_
    refine tn_code ?_
    refine t_seq ?_
    refine t_seq ?_
    refine t_reg ?_
    refine to_mv rfl rfl ?_
    refine to_not rfl rfl ?_
    refine to_fix (s := 46) (b' := true) rfl ((by rw [hA]; rfl)) ?_
    refine to_mv rfl rfl ?_
    refine to_gf rfl rfl rfl rfl ?_
    refine to_gf rfl rfl rfl rfl ?_
    refine to_gf rfl rfl rfl rfl ?_
    refine to_pkT rfl rfl rfl ?_
    refine to_nil ?_
    refine tn_code ?_
    refine t_ifT rfl ?_
    refine t_seq ?_
    refine t_reg ?_
    refine to_bs rfl rfl ?_
    first | refine to_st rfl rfl rfl rfl ?_ | refine to_ste rfl rfl (by assumption) rfl rfl ?_
    refine to_as rfl rfl ?_
    refine to_nil ?_
    refine tn_code ?_
    refine t_ret2 rfl rfl (res_cellA rfl rfl) (res_tmp rfl) (fun w' s => ?_)
    exact refR_no (no_row hr0 (.inr rfl) (plain_no hw1 hA))

set_option maxRecDepth 20000 in
theorem ref_Read_z (tx : Bs) (w : World) (hls : tx.length ≤ 250) (r0 : Bs) (hr0 : (splitL 10 tx)[0]? = some r0) (w1 w2 : Bs) (hl3 : (splitL 32 r0).length = 3) (hw1 : (splitL 32 r0)[1]? = some w1) (hw2 : (splitL 32 r0)[2]? = some w2) (n0 : Int) (hA : plainL [w1] = some [n0]) (hkz : ruleK w2 4 = 0) : Calls Tryz.prog 35 #[strV tx] w (Ret w (RefR tx)) := by
  have hsl := splitL_len 10 tx
  have hx0 := map_get (f := strC) hr0
  have hrl0 := splitL_each 10 (List.mem_of_getElem? hr0)
  have hsl0 := splitL_len 32 r0
  have hy1 := map_get (f := strC) hw1
  have hy2 := map_get (f := strC) hw2
  have hwl1 := splitL_each 32 (List.mem_of_getElem? hw1)
  have hwl2 := splitL_each 32 (List.mem_of_getElem? hw2)
  refine calls_T (av := [_]) Tryz.func35 rfl rfl rfl ?_
  refine t_seq ?_
  refine t_reg ?_
  refine to_alloc rfl (fun b2 => ?_)
  refine to_as rfl rfl ?_
  refine to_nil ?_
  refine tn_code ?_
  refine t_seq ?_
  refine t_reg ?_
  refine to_mv rfl rfl ?_
  refine to_callR rfl rfl (fun w s => T_Split tx 10 w (by omega)) rfl (fun v16 lo16 w16 hlo16 hR16 => ?_)
  obtain ⟨pa16, pc16, rfl, hro16⟩ := hR16
  refine to_as rfl rfl ?_
  refine to_nil ?_
  refine tn_code ?_
  refine t_seq ?_
  refine t_reg ?_
  refine to_mv rfl rfl ?_
  first | refine to_ix rfl rfl rfl (by first | omega | decide) (by first | omega | decide) rfl ?_ | refine to_ixi rfl rfl rfl (by omega) (by omega) (by omega) rfl ?_
  first | refine to_lds rfl rfl rfl ?_ | refine to_ldes rfl (by assumption) rfl rfl ?_
  refine to_callR rfl rfl (fun w s => T_Split r0 32 w (by omega)) rfl (fun v20 lo20 w20 hlo20 hR20 => ?_)
  obtain ⟨pa20, pc20, rfl, hro20⟩ := hR20
  refine to_as rfl rfl ?_
  refine to_nil ?_
  refine tn_code ?_
  refine t_seq ?_
  refine t_seq ?_
  refine t_reg ?_
  refine to_mv rfl rfl ?_
  refine to_lenS rfl rfl ?_
  refine to_neq rfl rfl rfl ?_
  refine to_fix (s := 23) (b' := false) rfl (decide_eq_false (by omega)) ?_
  refine to_nil ?_
  refine tn_code ?_
  refine t_ifF rfl ?_
  refine t_skip ?_
  refine tn_code ?_
  refine t_seq ?_
  refine t_reg ?_
  refine to_mv rfl rfl ?_
  refine to_slLH (k := 1) (q := 2) rfl rfl rfl (by omega) (by omega) rfl (fun a27 hS27 => ?_)
  refine to_callR rfl rfl (fun w s => c_plain1 hw1 (by omega) (rdw s)) rfl (fun v28 lo28 w28 hlo28 hR28 => ?_)
  obtain ⟨Q28, pa28, pc28, rfl, hro28, hQp28, hQz28⟩ := hR28
  refine to_mv rfl rfl ?_
  refine to_ex rfl rfl rfl ?_
  refine to_ex rfl rfl rfl ?_
  refine to_as rfl rfl ?_
  refine to_as rfl rfl ?_
  refine to_nil ?_
  refine tn_code ?_
  refine t_seq ?_
  refine t_reg ?_
  refine to_alloc rfl (fun b8 => ?_)
  refine to_nil ?_
  refine tn_code ?_
  refine t_seq ?_
  refine t_seq ?_
  refine t_reg ?_
  refine to_as rfl rfl ?_
  refine to_nil ?_
  refine tn_code ?_
  refine t_blk ?_
  refine t_loop2 (ι := Nat) (fun k => k ≤ 4) (fun k => [(0, strV tx), (2, (.pointer (some ⟨b2, 0, none⟩))), (4, .slice pa16 (splitL 10 tx).length pc16), (5, .slice pa20 (splitL 32 r0).length pc20), (6, .slice pa28 Q28.length pc28), (7, .bool (plainL [w1]).isSome), (8, (.pointer (some ⟨b8, 0, none⟩))), (9, .int .i64 ((k : Int) + 1))]) (fun k => [.own b8 (isC [.int .i64 0, .int .i64 (ruleK w2 k), .slice none 0 0, .slice none 0 0] 25), .snap lo28 w28.heap.size w28, .snap lo20 w20.heap.size w20, .snap lo16 w16.heap.size w16, .own b2 (isC [.int .i64 0, .int .i64 0, .slice none 0 0, .slice none 0 0] 25), .snap 0 w.heap.size w]) (fun k => 4 - k) (0) [.own b8 (isC [.int .i64 0, .int .i64 0, .slice none 0 0, .slice none 0 0] 25), .snap lo28 w28.heap.size w28, .snap lo20 w20.heap.size w20, .snap lo16 w16.heap.size w16, .own b2 (isC [.int .i64 0, .int .i64 0, .slice none 0 0, .slice none 0 0] 25), .snap 0 w.heap.size w] (rfl) (Nat.zero_le _) (⟨rfl, rfl, rfl, rfl, rfl, rfl, rfl, rfl, trivial⟩) ?_
  rintro k hk
  show T _ _ _ ⟨_, [(0, strV tx), (2, (.pointer (some ⟨b2, 0, none⟩))), (4, .slice pa16 (splitL 10 tx).length pc16), (5, .slice pa20 (splitL 32 r0).length pc20), (6, .slice pa28 Q28.length pc28), (7, .bool (plainL [w1]).isSome), (8, (.pointer (some ⟨b8, 0, none⟩))), (9, .int .i64 ((k : Int) + 1))], _⟩ [.own b8 (isC [.int .i64 0, .int .i64 (ruleK w2 k), .slice none 0 0, .slice none 0 0] 25), .snap lo28 w28.heap.size w28, .snap lo20 w20.heap.size w20, .snap lo16 w16.heap.size w16, .own b2 (isC [.int .i64 0, .int .i64 0, .slice none 0 0, .slice none 0 0] 25), .snap 0 w.heap.size w]
  refine t_seq ?_
  refine t_seq ?_
  refine t_reg ?_
  refine to_mv rfl rfl ?_
  refine to_leq rfl rfl rfl ?_
  refine to_nil ?_
  refine tn_code ?_
  refine t_if rfl (fun h1 => ?_) (fun h1 => ?_)
  · try simp only [decide_eq_true_eq, decide_eq_false_iff_not, Bool.not_eq_true', Bool.not_eq_false', Int.not_lt, Int.not_le, ne_eq, Decidable.not_not] at h1
    try have h1b := inB_iff.1 h1
    have hrk := rule_at (r := (k : Int) + 1) (by omega)
    have hrk2 : ((k : Int) + 1).toNat = k + 1 := by omega
    rw [hrk2] at hrk
    refine t_skip ?_
    refine tn_code ?_
    refine t_seq ?_
    refine t_blk ?_
    refine t_seq ?_
    refine t_regP [3, 5, 6] [0, 1, 2, 4, 3, 5, 6, 7] [.snap lo20 w20.heap.size w20, .snap 0 w.heap.size w] rfl (by kernel_rfl) (by kernel_rfl) ?_
    refine tp_q ?e1 rfl ?q1 ?r1
    case q1 =>
      refine to_mv rfl rfl ?_
      exact tpq_end
    refine tp_q ?e2 rfl ?q2 ?r2
    case q2 =>
      first | refine to_ix rfl rfl rfl (by first | omega | decide) (by first | omega | decide) rfl ?_ | refine to_ixi rfl rfl rfl (by omega) (by omega) (by omega) rfl ?_
      exact tpq_end
    refine tp_q ?e3 rfl ?q3 ?r3
    case q3 =>
      first | refine to_lds rfl rfl rfl ?_ | refine to_ldes rfl (by assumption) rfl rfl ?_
      exact tpq_end
    refine tp_q ?e4 rfl ?q4 ?r4
    case q4 =>
      refine to_mv rfl rfl ?_
      exact tpq_end
    refine tp_s rfl ?_ (fun _ h => by cases h) rfl
    refine to_callR rfl rfl (fun w s => ref_rules w) rfl (fun v38 lo38 w38 hlo38 hR38 => ?_)
    obtain ⟨a38, c38, rfl, hro38⟩ := hR38
    refine tp_se rfl ?_
    refine tp_s rfl ?_ (fun _ h => by cases h) rfl
    first | refine to_ix rfl rfl rfl (by first | omega | decide) (by first | omega | decide) rfl ?_ | refine to_ixi rfl rfl rfl (by omega) (by omega) (by omega) rfl ?_
    refine tp_se rfl ?_
    refine tp_s rfl ?_ (fun _ h => by cases h) rfl
    first | refine to_lds rfl rfl rfl ?_ | refine to_ldes rfl (by assumption) rfl rfl ?_
    refine tp_se rfl ?_
    refine tp_q ?e5 rfl ?q5 ?r5
    case q5 =>
      refine to_seq rfl rfl rfl ?_
      exact tpq_end
    refine tp_nil ?_
    refine tn_code ?_
    refine t_if rfl (fun h2 => ?_) (fun h2 => ?_)
    · try simp only [decide_eq_true_eq, decide_eq_false_iff_not, Bool.not_eq_true', Bool.not_eq_false', Int.not_lt, Int.not_le, ne_eq, Decidable.not_not] at h2
      try have h2b := inB_iff.1 h2
      have hwr := h2
      refine t_reg ?_
      refine to_mv rfl rfl ?_
      first | refine to_fa rfl rfl rfl (by simp only [Nat.reduceAdd]; rfl) rfl ?_ | refine to_fae rfl rfl rfl (by simp only [Nat.reduceAdd]; rfl) rfl ?_
      first | refine to_st rfl rfl rfl rfl ?_ | refine to_ste rfl rfl (by assumption) rfl rfl ?_
      refine to_nil ?_
      refine tn_blk ?_
      refine tn_code ?_
      refine t_reg ?_
      refine to_mv rfl rfl ?_
      refine to_add rfl rfl (by omega) rfl ?_
      refine to_as rfl rfl ?_
      refine to_nil ?_
      exact tn_loop2 (k + 1) [.own b8 (isC [.int .i64 0, .int .i64 ((k : Int) + 1), .slice none 0 0, .slice none 0 0] 25), .snap lo28 w28.heap.size w28, .snap lo20 w20.heap.size w20, .snap lo16 w16.heap.size w16, .own b2 (isC [.int .i64 0, .int .i64 0, .slice none 0 0, .slice none 0 0] 25), .snap 0 w.heap.size w] (by simp only [ruleK]; rw [if_pos hwr]) (by omega) (by omega) (⟨rfl, rfl, rfl, rfl, rfl, rfl, rfl, congrArg (fun z => some (Value.int .i64 z)) (by omega), trivial⟩)
    · try simp only [decide_eq_true_eq, decide_eq_false_iff_not, Bool.not_eq_true', Bool.not_eq_false', Int.not_lt, Int.not_le, ne_eq, Decidable.not_not] at h2
      try have h2b := inB_iff.1 h2
      have hwr := h2
      refine t_skip ?_
      refine tn_blk ?_
      refine tn_code ?_
      refine t_reg ?_
      refine to_mv rfl rfl ?_
      refine to_add rfl rfl (by omega) rfl ?_
      refine to_as rfl rfl ?_
      refine to_nil ?_
      exact tn_loop2 (k + 1) [.own b8 (isC [.int .i64 0, .int .i64 (ruleK w2 k), .slice none 0 0, .slice none 0 0] 25), .snap lo28 w28.heap.size w28, .snap lo20 w20.heap.size w20, .snap lo16 w16.heap.size w16, .own b2 (isC [.int .i64 0, .int .i64 0, .slice none 0 0, .slice none 0 0] 25), .snap 0 w.heap.size w] (by simp only [ruleK]; rw [if_neg hwr]) (by omega) (by omega) (⟨rfl, rfl, rfl, rfl, rfl, rfl, rfl, congrArg (fun z => some (Value.int .i64 z)) (by omega), trivial⟩)
  · try simp only [decide_eq_true_eq, decide_eq_false_iff_not, Bool.not_eq_true', Bool.not_eq_false', Int.not_lt, Int.not_le, ne_eq, Decidable.not_not] at h1
    try have h1b := inB_iff.1 h1
    have hk4 : k = 4 := by omega
    subst hk4
    refine t_exit ?_
    refine tx_code ?_
    refine tx_inv ?_
    refine tx_blk ?_
    refine tn_code ?_
    refine t_seq ?_
    refine t_seq ?_
    refine t_reg ?_
    refine to_mv rfl rfl ?_
    refine to_not rfl rfl ?_
    refine to_fix (s := 46) (b' := false) rfl ((by rw [hA]; rfl)) ?_
    refine to_mv rfl rfl ?_
    refine to_gt rfl rfl ?_
    first | refine to_fa rfl rfl rfl (by simp only [Nat.reduceAdd]; rfl) rfl ?_ | refine to_fae rfl rfl rfl (by simp only [Nat.reduceAdd]; rfl) rfl ?_
    refine to_gt rfl rfl ?_
    first | refine to_lds rfl rfl rfl ?_ | refine to_ldes rfl (by assumption) rfl rfl ?_
    refine to_gt rfl rfl ?_
    refine to_eql rfl rfl rfl ?_
    refine to_fix (s := 50) (b' := true) rfl (decide_eq_true hkz) ?_
    refine to_pkF rfl rfl rfl ?_
    refine to_nil ?_
    refine tn_code ?_
    refine t_ifT rfl ?_
    refine t_seq ?_
    refine t_reg ?_
    refine to_bs rfl rfl ?_
    first | refine to_st rfl rfl rfl rfl ?_ | refine to_ste rfl rfl (by assumption) rfl rfl ?_
    refine to_as rfl rfl ?_
    refine to_nil ?_
    refine tn_code ?_
    refine t_ret2 rfl rfl (res_cellA rfl rfl) (res_tmp rfl) (fun w' s => ?_)
    exact refR_no (no_row hr0 (.inr rfl) (fun x => step_0f (fun hh => by have h8 := ruleK_f hkz; have h9 := hh.2; rw [show (splitL 32 r0).getD 2 [] = w2 from by simp [List.getD, hw2], h8] at h9; cases h9)))

set_option maxRecDepth 20000 in
theorem ref_Read_t (tx : Bs) (w : World) (hls : tx.length ≤ 250) (r0 : Bs) (hr0 : (splitL 10 tx)[0]? = some r0) (w1 w2 : Bs) (hl3 : (splitL 32 r0).length = 3) (hw1 : (splitL 32 r0)[1]? = some w1) (hw2 : (splitL 32 r0)[2]? = some w2) (n0 : Int) (hA : plainL [w1] = some [n0]) (hn0 : numZ w1 = some n0) (hp0 : 0 ≤ n0) (hk4 : ¬ ruleK w2 4 = 0) : Calls Tryz.prog 35 #[strV tx] w (Ret w (RefR tx)) := by
  have hsl := splitL_len 10 tx
  have hx0 := map_get (f := strC) hr0
  have hrl0 := splitL_each 10 (List.mem_of_getElem? hr0)
  have hsl0 := splitL_len 32 r0
  have hy1 := map_get (f := strC) hw1
  have hy2 := map_get (f := strC) hw2
  have hwl1 := splitL_each 32 (List.mem_of_getElem? hw1)
  have hwl2 := splitL_each 32 (List.mem_of_getElem? hw2)
  refine calls_T (av := [_]) Tryz.func35 rfl rfl rfl ?_
  refine t_seq ?_
  refine t_reg ?_
  refine to_alloc rfl (fun b2 => ?_)
  refine to_as rfl rfl ?_
  refine to_nil ?_
  refine tn_code ?_
  refine t_seq ?_
  refine t_reg ?_
  refine to_mv rfl rfl ?_
  refine to_callR rfl rfl (fun w s => T_Split tx 10 w (by omega)) rfl (fun v16 lo16 w16 hlo16 hR16 => ?_)
  obtain ⟨pa16, pc16, rfl, hro16⟩ := hR16
  refine to_as rfl rfl ?_
  refine to_nil ?_
  refine tn_code ?_
  refine t_seq ?_
  refine t_reg ?_
  refine to_mv rfl rfl ?_
  first | refine to_ix rfl rfl rfl (by first | omega | decide) (by first | omega | decide) rfl ?_ | refine to_ixi rfl rfl rfl (by omega) (by omega) (by omega) rfl ?_
  first | refine to_lds rfl rfl rfl ?_ | refine to_ldes rfl (by assumption) rfl rfl ?_
  refine to_callR rfl rfl (fun w s => T_Split r0 32 w (by omega)) rfl (fun v20 lo20 w20 hlo20 hR20 => ?_)
  obtain ⟨pa20, pc20, rfl, hro20⟩ := hR20
  refine to_as rfl rfl ?_
  refine to_nil ?_
  refine tn_code ?_
  refine t_seq ?_
  refine t_seq ?_
  refine t_reg ?_
  refine to_mv rfl rfl ?_
  refine to_lenS rfl rfl ?_
  refine to_neq rfl rfl rfl ?_
  refine to_fix (s := 23) (b' := false) rfl (decide_eq_false (by omega)) ?_
  refine to_nil ?_
  refine tn_code ?_
  refine t_ifF rfl ?_
  refine t_skip ?_
  refine tn_code ?_
  refine t_seq ?_
  refine t_reg ?_
  refine to_mv rfl rfl ?_
  refine to_slLH (k := 1) (q := 2) rfl rfl rfl (by omega) (by omega) rfl (fun a27 hS27 => ?_)
  refine to_callR rfl rfl (fun w s => c_plain1 hw1 (by omega) (rdw s)) rfl (fun v28 lo28 w28 hlo28 hR28 => ?_)
  obtain ⟨Q28, pa28, pc28, rfl, hro28, hQp28, hQz28⟩ := hR28
  refine to_mv rfl rfl ?_
  refine to_ex rfl rfl rfl ?_
  refine to_ex rfl rfl rfl ?_
  refine to_as rfl rfl ?_
  refine to_as rfl rfl ?_
  refine to_nil ?_
  refine tn_code ?_
  refine t_seq ?_
  refine t_reg ?_
  refine to_alloc rfl (fun b8 => ?_)
  refine to_nil ?_
  refine tn_code ?_
  refine t_seq ?_
  refine t_seq ?_
  refine t_reg ?_
  refine to_as rfl rfl ?_
  refine to_nil ?_
  refine tn_code ?_
  refine t_blk ?_
  refine t_loop2 (ι := Nat) (fun k => k ≤ 4) (fun k => [(0, strV tx), (2, (.pointer (some ⟨b2, 0, none⟩))), (4, .slice pa16 (splitL 10 tx).length pc16), (5, .slice pa20 (splitL 32 r0).length pc20), (6, .slice pa28 Q28.length pc28), (7, .bool (plainL [w1]).isSome), (8, (.pointer (some ⟨b8, 0, none⟩))), (9, .int .i64 ((k : Int) + 1))]) (fun k => [.own b8 (isC [.int .i64 0, .int .i64 (ruleK w2 k), .slice none 0 0, .slice none 0 0] 25), .snap lo28 w28.heap.size w28, .snap lo20 w20.heap.size w20, .snap lo16 w16.heap.size w16, .own b2 (isC [.int .i64 0, .int .i64 0, .slice none 0 0, .slice none 0 0] 25), .snap 0 w.heap.size w]) (fun k => 4 - k) (0) [.own b8 (isC [.int .i64 0, .int .i64 0, .slice none 0 0, .slice none 0 0] 25), .snap lo28 w28.heap.size w28, .snap lo20 w20.heap.size w20, .snap lo16 w16.heap.size w16, .own b2 (isC [.int .i64 0, .int .i64 0, .slice none 0 0, .slice none 0 0] 25), .snap 0 w.heap.size w] (rfl) (Nat.zero_le _) (⟨rfl, rfl, rfl, rfl, rfl, rfl, rfl, rfl, trivial⟩) ?_
  rintro k hk
  show T _ _ _ ⟨_, [(0, strV tx), (2, (.pointer (some ⟨b2, 0, none⟩))), (4, .slice pa16 (splitL 10 tx).length pc16), (5, .slice pa20 (splitL 32 r0).length pc20), (6, .slice pa28 Q28.length pc28), (7, .bool (plainL [w1]).isSome), (8, (.pointer (some ⟨b8, 0, none⟩))), (9, .int .i64 ((k : Int) + 1))], _⟩ [.own b8 (isC [.int .i64 0, .int .i64 (ruleK w2 k), .slice none 0 0, .slice none 0 0] 25), .snap lo28 w28.heap.size w28, .snap lo20 w20.heap.size w20, .snap lo16 w16.heap.size w16, .own b2 (isC [.int .i64 0, .int .i64 0, .slice none 0 0, .slice none 0 0] 25), .snap 0 w.heap.size w]
  refine t_seq ?_
  refine t_seq ?_
  refine t_reg ?_
  refine to_mv rfl rfl ?_
  refine to_leq rfl rfl rfl ?_
  refine to_nil ?_
  refine tn_code ?_
  refine t_if rfl (fun h1 => ?_) (fun h1 => ?_)
  · try simp only [decide_eq_true_eq, decide_eq_false_iff_not, Bool.not_eq_true', Bool.not_eq_false', Int.not_lt, Int.not_le, ne_eq, Decidable.not_not] at h1
    try have h1b := inB_iff.1 h1
    have hrk := rule_at (r := (k : Int) + 1) (by omega)
    have hrk2 : ((k : Int) + 1).toNat = k + 1 := by omega
    rw [hrk2] at hrk
    refine t_skip ?_
    refine tn_code ?_
    refine t_seq ?_
    refine t_blk ?_
    refine t_seq ?_
    refine t_regP [3, 5, 6] [0, 1, 2, 4, 3, 5, 6, 7] [.snap lo20 w20.heap.size w20, .snap 0 w.heap.size w] rfl (by kernel_rfl) (by kernel_rfl) ?_
    refine tp_q ?e1 rfl ?q1 ?r1
    case q1 =>
      refine to_mv rfl rfl ?_
      exact tpq_end
    refine tp_q ?e2 rfl ?q2 ?r2
    case q2 =>
      first | refine to_ix rfl rfl rfl (by first | omega | decide) (by first | omega | decide) rfl ?_ | refine to_ixi rfl rfl rfl (by omega) (by omega) (by omega) rfl ?_
      exact tpq_end
    refine tp_q ?e3 rfl ?q3 ?r3
    case q3 =>
      first | refine to_lds rfl rfl rfl ?_ | refine to_ldes rfl (by assumption) rfl rfl ?_
      exact tpq_end
    refine tp_q ?e4 rfl ?q4 ?r4
    case q4 =>
      refine to_mv rfl rfl ?_
      exact tpq_end
    refine tp_s rfl ?_ (fun _ h => by cases h) rfl
    refine to_callR rfl rfl (fun w s => ref_rules w) rfl (fun v38 lo38 w38 hlo38 hR38 => ?_)
    obtain ⟨a38, c38, rfl, hro38⟩ := hR38
    refine tp_se rfl ?_
    refine tp_s rfl ?_ (fun _ h => by cases h) rfl
    first | refine to_ix rfl rfl rfl (by first | omega | decide) (by first | omega | decide) rfl ?_ | refine to_ixi rfl rfl rfl (by omega) (by omega) (by omega) rfl ?_
    refine tp_se rfl ?_
    refine tp_s rfl ?_ (fun _ h => by cases h) rfl
    first | refine to_lds rfl rfl rfl ?_ | refine to_ldes rfl (by assumption) rfl rfl ?_
    refine tp_se rfl ?_
    refine tp_q ?e5 rfl ?q5 ?r5
    case q5 =>
      refine to_seq rfl rfl rfl ?_
      exact tpq_end
    refine tp_nil ?_
    refine tn_code ?_
    refine t_if rfl (fun h2 => ?_) (fun h2 => ?_)
    · try simp only [decide_eq_true_eq, decide_eq_false_iff_not, Bool.not_eq_true', Bool.not_eq_false', Int.not_lt, Int.not_le, ne_eq, Decidable.not_not] at h2
      try have h2b := inB_iff.1 h2
      have hwr := h2
      refine t_reg ?_
      refine to_mv rfl rfl ?_
      first | refine to_fa rfl rfl rfl (by simp only [Nat.reduceAdd]; rfl) rfl ?_ | refine to_fae rfl rfl rfl (by simp only [Nat.reduceAdd]; rfl) rfl ?_
      first | refine to_st rfl rfl rfl rfl ?_ | refine to_ste rfl rfl (by assumption) rfl rfl ?_
      refine to_nil ?_
      refine tn_blk ?_
      refine tn_code ?_
      refine t_reg ?_
      refine to_mv rfl rfl ?_
      refine to_add rfl rfl (by omega) rfl ?_
      refine to_as rfl rfl ?_
      refine to_nil ?_
      exact tn_loop2 (k + 1) [.own b8 (isC [.int .i64 0, .int .i64 ((k : Int) + 1), .slice none 0 0, .slice none 0 0] 25), .snap lo28 w28.heap.size w28, .snap lo20 w20.heap.size w20, .snap lo16 w16.heap.size w16, .own b2 (isC [.int .i64 0, .int .i64 0, .slice none 0 0, .slice none 0 0] 25), .snap 0 w.heap.size w] (by simp only [ruleK]; rw [if_pos hwr]) (by omega) (by omega) (⟨rfl, rfl, rfl, rfl, rfl, rfl, rfl, congrArg (fun z => some (Value.int .i64 z)) (by omega), trivial⟩)
    · try simp only [decide_eq_true_eq, decide_eq_false_iff_not, Bool.not_eq_true', Bool.not_eq_false', Int.not_lt, Int.not_le, ne_eq, Decidable.not_not] at h2
      try have h2b := inB_iff.1 h2
      have hwr := h2
      refine t_skip ?_
      refine tn_blk ?_
      refine tn_code ?_
      refine t_reg ?_
      refine to_mv rfl rfl ?_
      refine to_add rfl rfl (by omega) rfl ?_
      refine to_as rfl rfl ?_
      refine to_nil ?_
      exact tn_loop2 (k + 1) [.own b8 (isC [.int .i64 0, .int .i64 (ruleK w2 k), .slice none 0 0, .slice none 0 0] 25), .snap lo28 w28.heap.size w28, .snap lo20 w20.heap.size w20, .snap lo16 w16.heap.size w16, .own b2 (isC [.int .i64 0, .int .i64 0, .slice none 0 0, .slice none 0 0] 25), .snap 0 w.heap.size w] (by simp only [ruleK]; rw [if_neg hwr]) (by omega) (by omega) (⟨rfl, rfl, rfl, rfl, rfl, rfl, rfl, congrArg (fun z => some (Value.int .i64 z)) (by omega), trivial⟩)
  · try simp only [decide_eq_true_eq, decide_eq_false_iff_not, Bool.not_eq_true', Bool.not_eq_false', Int.not_lt, Int.not_le, ne_eq, Decidable.not_not] at h1
    try have h1b := inB_iff.1 h1
    have hk4 : k = 4 := by omega
    subst hk4
    refine t_exit ?_
    refine tx_code ?_
    refine tx_inv ?_
    refine tx_blk ?_
    refine tn_code ?_
    refine t_seq ?_
    refine t_seq ?_
    refine t_reg ?_
    refine to_mv rfl rfl ?_
    refine to_not rfl rfl ?_
    refine to_fix (s := 46) (b' := false) rfl ((by rw [hA]; rfl)) ?_
    refine to_mv rfl rfl ?_
    refine to_gt rfl rfl ?_
    first | refine to_fa rfl rfl rfl (by simp only [Nat.reduceAdd]; rfl) rfl ?_ | refine to_fae rfl rfl rfl (by simp only [Nat.reduceAdd]; rfl) rfl ?_
    refine to_gt rfl rfl ?_
    first | refine to_lds rfl rfl rfl ?_ | refine to_ldes rfl (by assumption) rfl rfl ?_
    refine to_gt rfl rfl ?_
    refine to_eql rfl rfl rfl ?_
    refine to_fix (s := 50) (b' := false) rfl (decide_eq_false hk4) ?_
    refine to_pkF rfl rfl rfl ?_
    refine to_nil ?_
    refine tn_code ?_
    refine t_ifF rfl ?_
    refine t_skip ?_
    refine tn_code ?_
    refine t_seq ?_
    have hQe := hQp28 _ hA
    subst hQe
    have hl1 : ([n0] : List Int).length = 1 := rfl
    have hq0 : (ints [n0])[0]? = some (intC n0) := rfl
    refine t_reg ?_
    refine to_mv rfl rfl ?_
    first | refine to_ix rfl rfl rfl (by first | omega | decide) (by first | omega | decide) rfl ?_ | refine to_ixi rfl rfl rfl (by omega) (by omega) (by omega) rfl ?_
    first | refine to_lds rfl rfl rfl ?_ | refine to_ldes rfl (by assumption) rfl rfl ?_
    first | refine to_fa rfl rfl rfl (by simp only [Nat.reduceAdd]; rfl) rfl ?_ | refine to_fae rfl rfl rfl (by simp only [Nat.reduceAdd]; rfl) rfl ?_
    first | refine to_st rfl rfl rfl rfl ?_ | refine to_ste rfl rfl (by assumption) rfl rfl ?_
    refine to_nil ?_
    refine tn_code ?_
    refine t_seq ?_
    refine t_seq ?_
    refine t_reg ?_
    refine to_as rfl rfl ?_
    refine to_nil ?_
    refine tn_code ?_
    refine t_blk ?_
    refine t_nilrow 3 1 ?_
    refine t_nilrow 3 1 ?_
    refine t_loop2 (ι := Nat × Sh × Pt) (fun ((i, b, pt) : Nat × Sh × Pt) => 1 ≤ i ∧ (i ≤ (splitL 10 tx).length - 2 ∨ i = 1) ∧ RI tx i b) (fun ((i, b, pt) : Nat × Sh × Pt) => [(0, strV tx), (2, (.pointer (some ⟨b2, 0, none⟩))), (4, .slice pa16 (splitL 10 tx).length pc16), (8, (.pointer (some ⟨b8, 0, none⟩))), (10, (.int .i64 (i : Int)))]) (fun ((i, b, pt) : Nat × Sh × Pt) => [.own b8 (isC (shC b pt) 25), .row pt.ea b.errs.length pt.ec 3 1 (ints b.errs), .row pt.ra b.rows.length pt.rc 3 1 (ints b.rows), .snap lo16 w16.heap.size w16, .own b2 (isC [.int .i64 0, .int .i64 0, .slice none 0 0, .slice none 0 0] 25), .snap 0 w.heap.size w]) (fun ((i, b, pt) : Nat × Sh × Pt) => (splitL 10 tx).length - 2 - i) ((1, ⟨n0, ruleK w2 4, [], []⟩, ⟨none, 0, none, 0⟩)) [.own b8 (isC [.int .i64 n0, .int .i64 (ruleK w2 4), .slice none 0 0, .slice none 0 0] 25), .row none 0 0 3 1 [], .row none 0 0 3 1 [], .snap lo16 w16.heap.size w16, .own b2 (isC [.int .i64 0, .int .i64 0, .slice none 0 0, .slice none 0 0] 25), .snap 0 w.heap.size w] (rfl) (⟨Nat.le_refl _, .inr rfl, ri_first hr0 hl3 hw2 (by rw [show (splitL 32 r0).getD 1 [] = w1 from by simp [List.getD, hw1]]; exact hn0) hp0 hk4⟩) (⟨rfl, rfl, rfl, rfl, rfl, trivial⟩) ?_
    rintro ⟨i, b, pt⟩ ⟨hi1, hi2, hRI⟩
    try dsimp only at hk
    show T _ _ _ ⟨_, [(0, strV tx), (2, (.pointer (some ⟨b2, 0, none⟩))), (4, .slice pa16 (splitL 10 tx).length pc16), (8, (.pointer (some ⟨b8, 0, none⟩))), (10, (.int .i64 (i : Int)))], _⟩ [.own b8 (isC (shC b pt) 25), .row pt.ea b.errs.length pt.ec 3 1 (ints b.errs), .row pt.ra b.rows.length pt.rc 3 1 (ints b.rows), .snap lo16 w16.heap.size w16, .own b2 (isC [.int .i64 0, .int .i64 0, .slice none 0 0, .slice none 0 0] 25), .snap 0 w.heap.size w]
    refine t_seq ?_
    refine t_seq ?_
    refine t_reg ?_
    refine to_mv rfl rfl ?_
    refine to_mv rfl rfl ?_
    refine to_lenS rfl rfl ?_
    refine to_sub rfl rfl (by omega) rfl ?_
    refine to_lss rfl rfl rfl ?_
    refine to_nil ?_
    refine tn_code ?_
    refine t_if rfl (fun h3 => ?_) (fun h3 => ?_)
    · try simp only [decide_eq_true_eq, decide_eq_false_iff_not, Bool.not_eq_true', Bool.not_eq_false', Int.not_lt, Int.not_le, ne_eq, Decidable.not_not] at h3
      try have h3b := inB_iff.1 h3
      obtain ⟨r, hr⟩ := some_get (xs := splitL 10 tx) (k := i) (by omega)
      have hx := map_get (f := strC) hr
      have hrl := splitL_each 10 (List.mem_of_getElem? hr)
      have hsl2 := splitL_len 32 r
      obtain ⟨w0, hw0⟩ := some_get (xs := splitL 32 r) (k := 0) (by omega)
      have hxw0 := map_get (f := strC) hw0
      have hil : i < (splitL 10 tx).length - 2 := by omega
      have hi0 : ¬ i = 0 := by omega
      have hb0 := hRI.2.2.2.2.2.2
      refine t_skip ?_
      refine tn_code ?_
      refine t_seq ?_
      refine t_blk ?_
      refine t_seq ?_
      refine t_reg ?_
      refine to_mv rfl rfl ?_
      refine to_mv rfl rfl ?_
      first | refine to_ix rfl rfl rfl (by first | omega | decide) (by first | omega | decide) rfl ?_ | refine to_ixi rfl rfl rfl (by omega) (by omega) (by omega) rfl ?_
      first | refine to_lds rfl rfl rfl ?_ | refine to_ldes rfl (by assumption) rfl rfl ?_
      refine to_callR rfl rfl (fun w s => T_Split r 32 w (by omega)) rfl (fun v68 lo68 w68 hlo68 hR68 => ?_)
      obtain ⟨pa68, pc68, rfl, hro68⟩ := hR68
      refine to_as rfl rfl ?_
      refine to_nil ?_
      refine tn_code ?_
      refine t_seq ?_
      refine t_reg ?_
      refine to_mv rfl rfl ?_
      refine to_slL (k := 1) rfl rfl hsl2.1 rfl (fun a71 hS71 => ?_)
      refine to_callR rfl rfl (fun w s => c_numsD (by omega) (fun wd hwd => by have := splitL_each 32 hwd; omega) (rdw s)) rfl (fun v72 lo72 w72 hlo72 hR72 => ?_)
      obtain ⟨Q72, pa72, pc72, rfl, hro72, hQp72, hQz72⟩ := hR72
      refine to_mv rfl rfl ?_
      refine to_ex rfl rfl rfl ?_
      refine to_ex rfl rfl rfl ?_
      refine to_as rfl rfl ?_
      refine to_as rfl rfl ?_
      refine to_nil ?_
      refine tn_code ?_
      refine t_seq ?_
      refine t_seq ?_
      refine t_reg ?_
      refine to_mv rfl rfl ?_
      refine to_not rfl rfl ?_
      refine to_mv rfl rfl ?_
      refine to_gs rfl rfl rfl (fun h4 => ?_) (fun h4 => ?_)
      · try simp only [decide_eq_true_eq, decide_eq_false_iff_not, Bool.not_eq_true', Bool.not_eq_false', Int.not_lt, Int.not_le, ne_eq, Decidable.not_not] at h4
        try have h4b := inB_iff.1 h4
        have hnn := h4
        refine to_gf rfl rfl rfl rfl ?_
        refine to_gf rfl rfl rfl rfl ?_
        refine to_gf rfl rfl rfl rfl ?_
        refine to_pkT rfl rfl rfl ?_
        refine to_nil ?_
        refine tn_code ?_
        refine t_ifT rfl ?_
        refine t_seq ?_
        refine t_reg ?_
        refine to_bs rfl rfl ?_
        first | refine to_st rfl rfl rfl rfl ?_ | refine to_ste rfl rfl (by assumption) rfl rfl ?_
        refine to_as rfl rfl ?_
        refine to_nil ?_
        refine tn_code ?_
        refine t_ret2 rfl rfl (res_cellA rfl rfl) (res_tmp rfl) (fun w' s => ?_)
        first | exact refR_no (no_row hr (.inl hil) (fun x => step_bad hi0 (nums_no1 hnn))) | exact refR_no (no_row hr (.inl hil) (fun x => step_bad hi0 (nums_no2 hnn hQp72 (by omega)))) | exact refR_no (ri_ne hRI (by omega) hi1 hi2 hne) | exact refR_no (ri_neg (by omega) hRI (by omega) hi1 hi2 hne1 (by omega)) | exact refR_yes (ri_eq hRI (by omega) hne hpos) (ro_row s) (ro_row s)
      · try simp only [decide_eq_true_eq, decide_eq_false_iff_not, Bool.not_eq_true', Bool.not_eq_false', Int.not_lt, Int.not_le, ne_eq, Decidable.not_not] at h4
        try have h4b := inB_iff.1 h4
        have hnn := h4
        refine to_gt rfl rfl ?_
        refine to_mv rfl rfl ?_
        refine to_gt rfl rfl ?_
        refine to_lenS rfl rfl ?_
        refine to_gt rfl rfl ?_
        refine to_neq rfl rfl rfl ?_
        refine to_pkF rfl rfl rfl ?_
        refine to_nil ?_
        refine tn_code ?_
        refine t_if rfl (fun h5 => ?_) (fun h5 => ?_)
        · try simp only [decide_eq_true_eq, decide_eq_false_iff_not, Bool.not_eq_true', Bool.not_eq_false', Int.not_lt, Int.not_le, ne_eq, Decidable.not_not] at h5
          try have h5b := inB_iff.1 h5
          have hln := h5
          refine t_seq ?_
          refine t_reg ?_
          refine to_bs rfl rfl ?_
          first | refine to_st rfl rfl rfl rfl ?_ | refine to_ste rfl rfl (by assumption) rfl rfl ?_
          refine to_as rfl rfl ?_
          refine to_nil ?_
          refine tn_code ?_
          refine t_ret2 rfl rfl (res_cellA rfl rfl) (res_tmp rfl) (fun w' s => ?_)
          first | exact refR_no (no_row hr (.inl hil) (fun x => step_bad hi0 (nums_no1 hnn))) | exact refR_no (no_row hr (.inl hil) (fun x => step_bad hi0 (nums_no2 hnn hQp72 (by omega)))) | exact refR_no (ri_ne hRI (by omega) hi1 hi2 hne) | exact refR_no (ri_neg (by omega) hRI (by omega) hi1 hi2 hne1 (by omega)) | exact refR_yes (ri_eq hRI (by omega) hne hpos) (ro_row s) (ro_row s)
        · try simp only [decide_eq_true_eq, decide_eq_false_iff_not, Bool.not_eq_true', Bool.not_eq_false', Int.not_lt, Int.not_le, ne_eq, Decidable.not_not] at h5
          try have h5b := inB_iff.1 h5
          have hln : Q72.length = 1 := by omega
          obtain ⟨m0, rfl⟩ := len1 hln
          have hns := nums_is hnn hQp72
          have hlm : ([m0] : List Int).length = 1 := rfl
          have hqm : (ints [m0])[0]? = some (intC m0) := rfl
          refine t_skip ?_
          refine tn_code ?_
          refine t_seq ?_
          refine t_reg ?_
          refine to_mv rfl rfl ?_
          first | refine to_ix rfl rfl rfl (by first | omega | decide) (by first | omega | decide) rfl ?_ | refine to_ixi rfl rfl rfl (by omega) (by omega) (by omega) rfl ?_
          first | refine to_lds rfl rfl rfl ?_ | refine to_ldes rfl (by assumption) rfl rfl ?_
          refine to_seq rfl rfl rfl ?_
          refine to_nil ?_
          refine tn_code ?_
          refine t_if rfl (fun h6 => ?_) (fun h6 => ?_)
          · try simp only [decide_eq_true_eq, decide_eq_false_iff_not, Bool.not_eq_true', Bool.not_eq_false', Int.not_lt, Int.not_le, ne_eq, Decidable.not_not] at h6
            try have h6b := inB_iff.1 h6
            have hg0 := h6
            refine t_regP [5, 6, 8] [0, 1, 2, 3, 4, 5, 6, 7, 8] [.own b8 (isC (shC b pt) 25), .snap lo72 w72.heap.size w72, .snap 0 w.heap.size w] rfl (by kernel_rfl) (by kernel_rfl) ?_
            refine tp_q ?e6 rfl ?q6 ?r6
            case q6 =>
              first | refine to_fa rfl rfl rfl (by simp only [Nat.reduceAdd]; rfl) rfl ?_ | refine to_fae rfl rfl rfl (by simp only [Nat.reduceAdd]; rfl) rfl ?_
              exact tpq_end
            refine tp_q ?e7 rfl ?q7 ?r7
            case q7 =>
              first | refine to_lds rfl rfl rfl ?_ | refine to_ldes rfl (by assumption) rfl rfl ?_
              exact tpq_end
            refine tp_q ?e8 rfl ?q8 ?r8
            case q8 =>
              refine to_mv rfl rfl ?_
              exact tpq_end
            refine tp_q ?e9 rfl ?q9 ?r9
            case q9 =>
              first | refine to_ix rfl rfl rfl (by first | omega | decide) (by first | omega | decide) rfl ?_ | refine to_ixi rfl rfl rfl (by omega) (by omega) (by omega) rfl ?_
              exact tpq_end
            refine tp_q ?e10 rfl ?q10 ?r10
            case q10 =>
              first | refine to_lds rfl rfl rfl ?_ | refine to_ldes rfl (by assumption) rfl rfl ?_
              exact tpq_end
            refine tp_s rfl ?_ (fun _ h => by cases h) rfl
            refine to_bsl rfl rfl rfl rfl (fun a92 => ?_)
            refine tp_se rfl ?_
            refine tp_s rfl ?_ (fun _ h => by cases h) rfl
            refine to_app rfl rfl rfl (by simp [scals, scal]) (by decide) (by omega) (by decide) rfl (fun a93 c93 => ?_)
            refine tp_se rfl ?_
            refine tp_q ?e11 rfl ?q11 ?r11
            case q11 =>
              first | refine to_fa rfl rfl rfl (by simp only [Nat.reduceAdd]; rfl) rfl ?_ | refine to_fae rfl rfl rfl (by simp only [Nat.reduceAdd]; rfl) rfl ?_
              exact tpq_end
            refine tp_s rfl ?_ (fun _ h => by cases h) rfl
            first | refine to_st rfl rfl rfl rfl ?_ | refine to_ste rfl rfl (by assumption) rfl rfl ?_
            refine tp_sl (by kernel_rfl) rfl rfl ?_
            refine tn_blk ?_
            refine tn_code ?_
            refine t_reg ?_
            refine to_mv rfl rfl ?_
            refine to_add rfl rfl (by omega) rfl ?_
            refine to_as rfl rfl ?_
            refine to_nil ?_
            exact tn_loop2 ((i + 1, ⟨b.unit, b.rule, b.errs ++ [m0], b.rows⟩, ⟨a93, c93, pt.ra, pt.rc⟩)) [.own b8 (isC [.int .i64 b.unit, .int .i64 b.rule, .slice a93 (b.errs.length + 1) c93, .slice pt.ra b.rows.length pt.rc] 25), .row a93 (b.errs.length + 1) c93 3 1 (ints b.errs ++ [[.int .i64 m0]]), .row pt.ra b.rows.length pt.rc 3 1 (ints b.rows), .snap lo16 w16.heap.size w16, .own b2 (isC [.int .i64 0, .int .i64 0, .slice none 0 0, .slice none 0 0] 25), .snap 0 w.heap.size w] (by simp only [shC, List.length_append, List.length_singleton, ints_snoc]) (⟨by (try dsimp only); omega, .inl (by (try dsimp only); omega), (ri_next hRI hr hi0 hns hw0).1 hg0⟩) (by dsimp only; omega) (⟨rfl, rfl, rfl, rfl, rfl, trivial⟩)
          · try simp only [decide_eq_true_eq, decide_eq_false_iff_not, Bool.not_eq_true', Bool.not_eq_false', Int.not_lt, Int.not_le, ne_eq, Decidable.not_not] at h6
            try have h6b := inB_iff.1 h6
            have hg0 := h6
            refine t_regP [5, 6, 8] [0, 1, 2, 3, 4, 5, 6, 7, 8] [.own b8 (isC (shC b pt) 25), .snap lo72 w72.heap.size w72, .snap 0 w.heap.size w] rfl (by kernel_rfl) (by kernel_rfl) ?_
            refine tp_q ?e12 rfl ?q12 ?r12
            case q12 =>
              first | refine to_fa rfl rfl rfl (by simp only [Nat.reduceAdd]; rfl) rfl ?_ | refine to_fae rfl rfl rfl (by simp only [Nat.reduceAdd]; rfl) rfl ?_
              exact tpq_end
            refine tp_q ?e13 rfl ?q13 ?r13
            case q13 =>
              first | refine to_lds rfl rfl rfl ?_ | refine to_ldes rfl (by assumption) rfl rfl ?_
              exact tpq_end
            refine tp_q ?e14 rfl ?q14 ?r14
            case q14 =>
              refine to_mv rfl rfl ?_
              exact tpq_end
            refine tp_q ?e15 rfl ?q15 ?r15
            case q15 =>
              first | refine to_ix rfl rfl rfl (by first | omega | decide) (by first | omega | decide) rfl ?_ | refine to_ixi rfl rfl rfl (by omega) (by omega) (by omega) rfl ?_
              exact tpq_end
            refine tp_q ?e16 rfl ?q16 ?r16
            case q16 =>
              first | refine to_lds rfl rfl rfl ?_ | refine to_ldes rfl (by assumption) rfl rfl ?_
              exact tpq_end
            refine tp_s rfl ?_ (fun _ h => by cases h) rfl
            refine to_bsl rfl rfl rfl rfl (fun a100 => ?_)
            refine tp_se rfl ?_
            refine tp_s rfl ?_ (fun _ h => by cases h) rfl
            refine to_app rfl rfl rfl (by simp [scals, scal]) (by decide) (by omega) (by decide) rfl (fun a101 c101 => ?_)
            refine tp_se rfl ?_
            refine tp_q ?e17 rfl ?q17 ?r17
            case q17 =>
              first | refine to_fa rfl rfl rfl (by simp only [Nat.reduceAdd]; rfl) rfl ?_ | refine to_fae rfl rfl rfl (by simp only [Nat.reduceAdd]; rfl) rfl ?_
              exact tpq_end
            refine tp_s rfl ?_ (fun _ h => by cases h) rfl
            first | refine to_st rfl rfl rfl rfl ?_ | refine to_ste rfl rfl (by assumption) rfl rfl ?_
            refine tp_sl (by kernel_rfl) rfl rfl ?_
            refine tn_blk ?_
            refine tn_code ?_
            refine t_reg ?_
            refine to_mv rfl rfl ?_
            refine to_add rfl rfl (by omega) rfl ?_
            refine to_as rfl rfl ?_
            refine to_nil ?_
            exact tn_loop2 ((i + 1, ⟨b.unit, b.rule, b.errs, b.rows ++ [m0]⟩, ⟨pt.ea, pt.ec, a101, c101⟩)) [.own b8 (isC [.int .i64 b.unit, .int .i64 b.rule, .slice pt.ea b.errs.length pt.ec, .slice a101 (b.rows.length + 1) c101] 25), .row pt.ea b.errs.length pt.ec 3 1 (ints b.errs), .row a101 (b.rows.length + 1) c101 3 1 (ints b.rows ++ [[.int .i64 m0]]), .snap lo16 w16.heap.size w16, .own b2 (isC [.int .i64 0, .int .i64 0, .slice none 0 0, .slice none 0 0] 25), .snap 0 w.heap.size w] (by simp only [shC, List.length_append, List.length_singleton, ints_snoc]) (⟨by (try dsimp only); omega, .inl (by (try dsimp only); omega), (ri_next hRI hr hi0 hns hw0).2 hg0⟩) (by dsimp only; omega) (⟨rfl, rfl, rfl, rfl, rfl, trivial⟩)
    · try simp only [decide_eq_true_eq, decide_eq_false_iff_not, Bool.not_eq_true', Bool.not_eq_false', Int.not_lt, Int.not_le, ne_eq, Decidable.not_not] at h3
      try have h3b := inB_iff.1 h3
      have hb0 := hRI.2.2.2.2.2.2
      have hno := ri_nums hRI (by omega)
      refine t_exit ?_
      refine tx_code ?_
      refine tx_inv ?_
      refine tx_blk ?_
      refine tn_code ?_
      refine t_seq ?_
      refine t_seq ?_
      refine t_reg ?_
      first | refine to_lda rfl rfl rfl ?_ | refine to_ldea rfl (by assumption) rfl rfl ?_
      refine to_call0 rfl rfl (fun w s => ref_Print b pt w (rdw s) (rdw s) hno) rfl ?_
      refine to_mv rfl rfl ?_
      refine to_sne rfl rfl rfl ?_
      refine to_nil ?_
      refine tn_code ?_
      refine t_if rfl (fun h7 => ?_) (fun h7 => ?_)
      · try simp only [decide_eq_true_eq, decide_eq_false_iff_not, Bool.not_eq_true', Bool.not_eq_false', Int.not_lt, Int.not_le, ne_eq, Decidable.not_not] at h7
        try have h7b := inB_iff.1 h7
        have hne := h7
        refine t_seq ?_
        refine t_reg ?_
        refine to_bs rfl rfl ?_
        first | refine to_st rfl rfl rfl rfl ?_ | refine to_ste rfl rfl (by assumption) rfl rfl ?_
        refine to_as rfl rfl ?_
        refine to_nil ?_
        refine tn_code ?_
        refine t_ret2 rfl rfl (res_cellA rfl rfl) (res_tmp rfl) (fun w' s => ?_)
        first | exact refR_no (no_row hr (.inl hil) (fun x => step_bad hi0 (nums_no1 hnn))) | exact refR_no (no_row hr (.inl hil) (fun x => step_bad hi0 (nums_no2 hnn hQp72 (by omega)))) | exact refR_no (ri_ne hRI (by omega) hi1 hi2 hne) | exact refR_no (ri_neg (by omega) hRI (by omega) hi1 hi2 hne1 (by omega)) | exact refR_yes (ri_eq hRI (by omega) hne hpos) (ro_row s) (ro_row s)
      · try simp only [decide_eq_true_eq, decide_eq_false_iff_not, Bool.not_eq_true', Bool.not_eq_false', Int.not_lt, Int.not_le, ne_eq, Decidable.not_not] at h7
        try have h7b := inB_iff.1 h7
        have hne := h7
        refine t_skip ?_
        refine tn_code ?_
        refine t_seq ?_
        refine t_seq ?_
        refine t_reg ?_
        refine to_as rfl rfl ?_
        refine to_nil ?_
        refine tn_code ?_
        refine t_blk ?_
        refine t_loop2 (ι := Nat) (fun k => k ≤ b.errs.length ∧ ∀ j, j < k → ∀ n, b.errs[j]? = some n → 0 ≤ n) (fun k => [(0, strV tx), (2, (.pointer (some ⟨b2, 0, none⟩))), (8, (.pointer (some ⟨b8, 0, none⟩))), (14, (.int .i64 (k : Int)))]) (fun k => [.own b8 (isC (shC b pt) 25), .row pt.ea b.errs.length pt.ec 3 1 (ints b.errs), .row pt.ra b.rows.length pt.rc 3 1 (ints b.rows), .snap lo16 w16.heap.size w16, .own b2 (isC [.int .i64 0, .int .i64 0, .slice none 0 0, .slice none 0 0] 25), .snap 0 w.heap.size w]) (fun k => b.errs.length - k) (0) [.own b8 (isC (shC b pt) 25), .row pt.ea b.errs.length pt.ec 3 1 (ints b.errs), .row pt.ra b.rows.length pt.rc 3 1 (ints b.rows), .snap lo16 w16.heap.size w16, .own b2 (isC [.int .i64 0, .int .i64 0, .slice none 0 0, .slice none 0 0] 25), .snap 0 w.heap.size w] (rfl) (⟨Nat.zero_le _, fun j hj => absurd hj (Nat.not_lt_zero _)⟩) (⟨rfl, rfl, rfl, rfl, trivial⟩) ?_
        rintro k ⟨hk, hpos⟩
        show T _ _ _ ⟨_, [(0, strV tx), (2, (.pointer (some ⟨b2, 0, none⟩))), (8, (.pointer (some ⟨b8, 0, none⟩))), (14, (.int .i64 (k : Int)))], _⟩ [.own b8 (isC (shC b pt) 25), .row pt.ea b.errs.length pt.ec 3 1 (ints b.errs), .row pt.ra b.rows.length pt.rc 3 1 (ints b.rows), .snap lo16 w16.heap.size w16, .own b2 (isC [.int .i64 0, .int .i64 0, .slice none 0 0, .slice none 0 0] 25), .snap 0 w.heap.size w]
        refine t_seq ?_
        refine t_seq ?_
        refine t_reg ?_
        refine to_mv rfl rfl ?_
        first | refine to_fa rfl rfl rfl (by simp only [Nat.reduceAdd]; rfl) rfl ?_ | refine to_fae rfl rfl rfl (by simp only [Nat.reduceAdd]; rfl) rfl ?_
        first | refine to_lds rfl rfl rfl ?_ | refine to_ldes rfl (by assumption) rfl rfl ?_
        refine to_lenS rfl rfl ?_
        refine to_lss rfl rfl rfl ?_
        refine to_nil ?_
        refine tn_code ?_
        refine t_if rfl (fun h8 => ?_) (fun h8 => ?_)
        · try simp only [decide_eq_true_eq, decide_eq_false_iff_not, Bool.not_eq_true', Bool.not_eq_false', Int.not_lt, Int.not_le, ne_eq, Decidable.not_not] at h8
          try have h8b := inB_iff.1 h8
          obtain ⟨q, hne1⟩ := some_get (xs := b.errs) (k := k) (by omega)
          have hxe := map_get (f := intC) hne1
          refine t_skip ?_
          refine tn_code ?_
          refine t_seq ?_
          refine t_blk ?_
          refine t_seq ?_
          refine t_reg ?_
          first | refine to_fa rfl rfl rfl (by simp only [Nat.reduceAdd]; rfl) rfl ?_ | refine to_fae rfl rfl rfl (by simp only [Nat.reduceAdd]; rfl) rfl ?_
          first | refine to_lds rfl rfl rfl ?_ | refine to_ldes rfl (by assumption) rfl rfl ?_
          refine to_mv rfl rfl ?_
          first | refine to_ix rfl rfl rfl (by first | omega | decide) (by first | omega | decide) rfl ?_ | refine to_ixi rfl rfl rfl (by omega) (by omega) (by omega) rfl ?_
          first | refine to_lds rfl rfl rfl ?_ | refine to_ldes rfl (by assumption) rfl rfl ?_
          refine to_lss rfl rfl rfl ?_
          refine to_nil ?_
          refine tn_code ?_
          refine t_if rfl (fun h9 => ?_) (fun h9 => ?_)
          · try simp only [decide_eq_true_eq, decide_eq_false_iff_not, Bool.not_eq_true', Bool.not_eq_false', Int.not_lt, Int.not_le, ne_eq, Decidable.not_not] at h9
            try have h9b := inB_iff.1 h9
            refine t_seq ?_
            refine t_reg ?_
            refine to_bs rfl rfl ?_
            first | refine to_st rfl rfl rfl rfl ?_ | refine to_ste rfl rfl (by assumption) rfl rfl ?_
            refine to_as rfl rfl ?_
            refine to_nil ?_
            refine tn_code ?_
            refine t_ret2 rfl rfl (res_cellA rfl rfl) (res_tmp rfl) (fun w' s => ?_)
            first | exact refR_no (no_row hr (.inl hil) (fun x => step_bad hi0 (nums_no1 hnn))) | exact refR_no (no_row hr (.inl hil) (fun x => step_bad hi0 (nums_no2 hnn hQp72 (by omega)))) | exact refR_no (ri_ne hRI (by omega) hi1 hi2 hne) | exact refR_no (ri_neg (by omega) hRI (by omega) hi1 hi2 hne1 (by omega)) | exact refR_yes (ri_eq hRI (by omega) hne hpos) (ro_row s) (ro_row s)
          · try simp only [decide_eq_true_eq, decide_eq_false_iff_not, Bool.not_eq_true', Bool.not_eq_false', Int.not_lt, Int.not_le, ne_eq, Decidable.not_not] at h9
            try have h9b := inB_iff.1 h9
            refine t_skip ?_
            refine tn_blk ?_
            refine tn_code ?_
            refine t_reg ?_
            refine to_mv rfl rfl ?_
            refine to_add rfl rfl (by omega) rfl ?_
            refine to_as rfl rfl ?_
            refine to_nil ?_
            exact tn_loop2 (k + 1) [.own b8 (isC (shC b pt) 25), .row pt.ea b.errs.length pt.ec 3 1 (ints b.errs), .row pt.ra b.rows.length pt.rc 3 1 (ints b.rows), .snap lo16 w16.heap.size w16, .own b2 (isC [.int .i64 0, .int .i64 0, .slice none 0 0, .slice none 0 0] 25), .snap 0 w.heap.size w] (rfl) (⟨by omega, pos_next hpos hne1 (by omega)⟩) (by omega) (⟨rfl, rfl, rfl, rfl, trivial⟩)
        · try simp only [decide_eq_true_eq, decide_eq_false_iff_not, Bool.not_eq_true', Bool.not_eq_false', Int.not_lt, Int.not_le, ne_eq, Decidable.not_not] at h8
          try have h8b := inB_iff.1 h8
          have hk2 : k = b.errs.length := by omega
          subst hk2
          refine t_exit ?_
          refine tx_code ?_
          refine tx_inv ?_
          refine tx_blk ?_
          refine tn_code ?_
          refine t_seq ?_
          refine t_reg ?_
          first | refine to_lda rfl rfl rfl ?_ | refine to_ldea rfl (by assumption) rfl rfl ?_
          first | refine to_st rfl rfl rfl rfl ?_ | refine to_ste rfl rfl (by assumption) rfl rfl ?_
          refine to_as rfl rfl ?_
          refine to_nil ?_
          refine tn_code ?_
          refine t_ret2 rfl rfl (res_cellA rfl rfl) (res_tmp rfl) (fun w' s => ?_)
          first | exact refR_no (no_row hr (.inl hil) (fun x => step_bad hi0 (nums_no1 hnn))) | exact refR_no (no_row hr (.inl hil) (fun x => step_bad hi0 (nums_no2 hnn hQp72 (by omega)))) | exact refR_no (ri_ne hRI (by omega) hi1 hi2 hne) | exact refR_no (ri_neg (by omega) hRI (by omega) hi1 hi2 hne1 (by omega)) | exact refR_yes (ri_eq hRI (by omega) hne hpos) (ro_row s) (ro_row s)

theorem ref_Read (tx : Bs) (w : World) (hls : tx.length ≤ 250) : Calls Tryz.prog 35 #[strV tx] w (Ret w (RefR tx)) := by
  obtain ⟨r0, hr0⟩ := some_get (xs := splitL 10 tx) (k := 0) (by have := (splitL_len 10 tx).1; omega)
  by_cases hl3 : (splitL 32 r0).length = 3
  · obtain ⟨w1, hw1⟩ := some_get (xs := splitL 32 r0) (k := 1) (by omega)
    obtain ⟨w2, hw2⟩ := some_get (xs := splitL 32 r0) (k := 2) (by omega)
    cases hA : plainL [w1] with
    | none => exact ref_Read_n tx w hls r0 hr0 w1 w2 hl3 hw1 hw2 hA
    | some ns =>
      obtain ⟨n, h1, h2, h3⟩ := plain_one (w1 := w1) (ws := []) (by rw [hA]; exact fun e => by cases e)
      by_cases hk : ruleK w2 4 = 0
      · exact ref_Read_z tx w hls r0 hr0 w1 w2 hl3 hw1 hw2 n h1 hk
      · exact ref_Read_t tx w hls r0 hr0 w1 w2 hl3 hw1 hw2 n h1 h2 h3 hk
  · exact ref_Read_l tx w hls r0 hr0 hl3

end Go.Proofs


namespace Go.Proofs
open Go Go.Sx Go.RowKit

set_option maxRecDepth 20000 in
theorem w_RoundReads_lo (tx : Bs) (w : World)  (hls : ¬ tx.length ≤ 250) (hg : Gl w) : Calls Tryz.prog 7 #[strV tx] w (RetV w (.bool true)) := by
  refine calls_T0 (av := [_]) Tryz.func7 rfl rfl rfl ?_
  refine t_seq ?_
  refine t_reg ?_
  refine to_as rfl rfl ?_
  refine to_nil ?_
  refine tn_code ?_
  refine t_seq ?_
  refine t_seq ?_
  refine t_reg ?_
  refine to_mv rfl rfl ?_
  refine to_lenL rfl rfl ?_
  refine to_gtr rfl rfl rfl ?_
  refine to_fix (s := 12) (b' := true) rfl (decide_eq_true (by omega)) ?_
  refine to_nil ?_
  refine tn_code ?_
  refine t_ifT rfl ?_
  refine t_seq ?_
  refine t_reg ?_
  refine to_call0 rfl rfl (fun w s => law_known w (gl_up hg (belowH_of s))) rfl ?_
  refine to_as rfl rfl ?_
  refine to_nil ?_
  refine tn_code ?_
  refine t_ret1 rfl rfl (res_tmp rfl) (fun w' s => ?_)
  rfl

set_option maxRecDepth 20000 in
theorem w_RoundReads_q3 (tx : Bs) (w : World)  (hls : tx.length ≤ 250) (h2 : 150 < tx.length) (hg : Gl w) : Calls Tryz.prog 7 #[strV tx] w (RetV w (.bool true)) := by
  have hq : roundRead tx = (sh0, 3) := by simp only [roundRead, if_pos h2]
  refine calls_T0 (av := [_]) Tryz.func7 rfl rfl rfl ?_
  refine t_seq ?_
  refine t_reg ?_
  refine to_as rfl rfl ?_
  refine to_nil ?_
  refine tn_code ?_
  refine t_seq ?_
  refine t_seq ?_
  refine t_reg ?_
  refine to_mv rfl rfl ?_
  refine to_lenL rfl rfl ?_
  refine to_gtr rfl rfl rfl ?_
  refine to_fix (s := 12) (b' := false) rfl (decide_eq_false (by omega)) ?_
  refine to_nil ?_
  refine tn_code ?_
  refine t_ifF rfl ?_
  refine t_skip ?_
  refine tn_code ?_
  refine t_seq ?_
  refine t_reg ?_
  refine to_mv rfl rfl ?_
  refine to_callR rfl rfl (fun w s => c_readq hq (gl_up hg (belowH_of s))) rfl (fun v16 lo16 w16 hlo16 hR16 => ?_)
  obtain ⟨pt16, rfl, hro16, hrq16⟩ := hR16
  refine to_mv rfl rfl ?_
  refine to_ex rfl rfl rfl ?_
  refine to_ex rfl rfl rfl ?_
  refine to_alloc rfl (fun b3 => ?_)
  first | refine to_st rfl rfl rfl rfl ?_ | refine to_ste rfl rfl (by assumption) rfl rfl ?_
  refine to_as rfl rfl ?_
  refine to_nil ?_
  refine tn_code ?_
  refine t_seq ?_
  refine t_reg ?_
  refine to_mv rfl rfl ?_
  refine to_callR rfl rfl (fun w s => ref_Read tx w hls) rfl (fun v21 lo21 w21 hlo21 hR21 => ?_)
  obtain ⟨bx21, pt21, rfl, hro21, hrq21, hbx21⟩ := hR21
  refine to_mv rfl rfl ?_
  refine to_ex rfl rfl rfl ?_
  refine to_ex rfl rfl rfl ?_
  refine to_alloc rfl (fun b5 => ?_)
  first | refine to_st rfl rfl rfl rfl ?_ | refine to_ste rfl rfl (by assumption) rfl rfl ?_
  refine to_as rfl rfl ?_
  refine to_nil ?_
  refine tn_code ?_
  refine t_seq ?_
  refine t_reg ?_
  refine to_as rfl rfl ?_
  refine to_nil ?_
  refine tn_code ?_
  refine t_seq ?_
  refine t_seq ?_
  refine t_reg ?_
  refine to_mv rfl rfl ?_
  refine to_lenL rfl rfl ?_
  refine to_gtr rfl rfl rfl ?_
  refine to_fix (s := 26) (b' := true) rfl (decide_eq_true (by omega)) ?_
  refine to_nil ?_
  refine tn_code ?_
  refine t_ifT rfl ?_
  refine t_reg ?_
  refine to_as rfl rfl ?_
  refine to_nil ?_
  refine tn_code ?_
  refine t_seq ?_
  refine t_seq ?_
  refine t_reg ?_
  refine to_mv rfl rfl ?_
  refine to_neq rfl rfl rfl ?_
  refine to_fix (s := 33) (b' := true) rfl (rfl) ?_
  refine to_nil ?_
  refine tn_code ?_
  refine t_ifT rfl ?_
  refine t_seq ?_
  refine t_reg ?_
  refine to_mv rfl rfl ?_
  refine to_mv rfl rfl ?_
  refine to_eql rfl rfl rfl ?_
  refine to_fix (s := 36) (b' := true) rfl (rfl) ?_
  refine to_mv rfl rfl ?_
  refine to_gt rfl rfl ?_
  first | refine to_lda rfl rfl rfl ?_ | refine to_ldea rfl (by assumption) rfl rfl ?_
  refine to_gt rfl rfl ?_
  refine to_bs rfl rfl ?_
  refine to_gt rfl rfl ?_
  refine to_call0 rfl rfl (fun w s => ref_SameSh sh0 pt16 ⟨none, 0, none, 0⟩ w (rdw s) (rdw s) (Ro.nil _ _ _ _) (Ro.nil _ _ _ _) (by decide)) rfl ?_
  refine to_fix (s := 40) (b' := true) rfl (rfl) ?_
  refine to_pkT rfl rfl rfl ?_
  refine to_mv rfl rfl ?_
  refine to_gt rfl rfl ?_
  refine to_call0 rfl rfl (fun w s => law_known w (gl_up hg (belowH_of s))) rfl ?_
  refine to_pkT rfl rfl rfl ?_
  refine to_as rfl rfl ?_
  refine to_nil ?_
  refine tn_code ?_
  refine t_ret1 rfl rfl (res_tmp rfl) (fun w' s => ?_)
  rfl

set_option maxRecDepth 20000 in
theorem w_RoundReads_q4 (tx : Bs) (w : World)  (hls : tx.length ≤ 250) (h2 : ¬ 150 < tx.length) (hp : parseZ tx = none) (hg : Gl w) : Calls Tryz.prog 7 #[strV tx] w (RetV w (.bool true)) := by
  have hq : roundRead tx = (sh0, 4) := by simp only [roundRead, if_neg h2, hp]
  refine calls_T0 (av := [_]) Tryz.func7 rfl rfl rfl ?_
  refine t_seq ?_
  refine t_reg ?_
  refine to_as rfl rfl ?_
  refine to_nil ?_
  refine tn_code ?_
  refine t_seq ?_
  refine t_seq ?_
  refine t_reg ?_
  refine to_mv rfl rfl ?_
  refine to_lenL rfl rfl ?_
  refine to_gtr rfl rfl rfl ?_
  refine to_fix (s := 12) (b' := false) rfl (decide_eq_false (by omega)) ?_
  refine to_nil ?_
  refine tn_code ?_
  refine t_ifF rfl ?_
  refine t_skip ?_
  refine tn_code ?_
  refine t_seq ?_
  refine t_reg ?_
  refine to_mv rfl rfl ?_
  refine to_callR rfl rfl (fun w s => c_readq hq (gl_up hg (belowH_of s))) rfl (fun v16 lo16 w16 hlo16 hR16 => ?_)
  obtain ⟨pt16, rfl, hro16, hrq16⟩ := hR16
  refine to_mv rfl rfl ?_
  refine to_ex rfl rfl rfl ?_
  refine to_ex rfl rfl rfl ?_
  refine to_alloc rfl (fun b3 => ?_)
  first | refine to_st rfl rfl rfl rfl ?_ | refine to_ste rfl rfl (by assumption) rfl rfl ?_
  refine to_as rfl rfl ?_
  refine to_nil ?_
  refine tn_code ?_
  refine t_seq ?_
  refine t_reg ?_
  refine to_mv rfl rfl ?_
  refine to_callR rfl rfl (fun w s => ref_Read tx w hls) rfl (fun v21 lo21 w21 hlo21 hR21 => ?_)
  obtain ⟨bx21, pt21, rfl, hro21, hrq21, hbx21⟩ := hR21
  refine to_mv rfl rfl ?_
  refine to_ex rfl rfl rfl ?_
  refine to_ex rfl rfl rfl ?_
  refine to_alloc rfl (fun b5 => ?_)
  first | refine to_st rfl rfl rfl rfl ?_ | refine to_ste rfl rfl (by assumption) rfl rfl ?_
  refine to_as rfl rfl ?_
  refine to_nil ?_
  refine tn_code ?_
  refine t_seq ?_
  refine t_reg ?_
  refine to_as rfl rfl ?_
  refine to_nil ?_
  refine tn_code ?_
  refine t_seq ?_
  refine t_seq ?_
  refine t_reg ?_
  refine to_mv rfl rfl ?_
  refine to_lenL rfl rfl ?_
  refine to_gtr rfl rfl rfl ?_
  refine to_fix (s := 26) (b' := false) rfl (decide_eq_false (by omega)) ?_
  refine to_nil ?_
  refine tn_code ?_
  refine t_ifF rfl ?_
  refine t_seq ?_
  refine t_reg ?_
  refine to_mv rfl rfl ?_
  refine to_not rfl rfl ?_
  refine to_fix (s := 28) (b' := true) rfl ((by rw [hp]; rfl)) ?_
  refine to_nil ?_
  refine tn_code ?_
  refine t_ifT rfl ?_
  refine t_reg ?_
  refine to_as rfl rfl ?_
  refine to_nil ?_
  refine tn_code ?_
  refine t_seq ?_
  refine t_seq ?_
  refine t_reg ?_
  refine to_mv rfl rfl ?_
  refine to_neq rfl rfl rfl ?_
  refine to_fix (s := 33) (b' := true) rfl (rfl) ?_
  refine to_nil ?_
  refine tn_code ?_
  refine t_ifT rfl ?_
  refine t_seq ?_
  refine t_reg ?_
  refine to_mv rfl rfl ?_
  refine to_mv rfl rfl ?_
  refine to_eql rfl rfl rfl ?_
  refine to_fix (s := 36) (b' := true) rfl (rfl) ?_
  refine to_mv rfl rfl ?_
  refine to_gt rfl rfl ?_
  first | refine to_lda rfl rfl rfl ?_ | refine to_ldea rfl (by assumption) rfl rfl ?_
  refine to_gt rfl rfl ?_
  refine to_bs rfl rfl ?_
  refine to_gt rfl rfl ?_
  refine to_call0 rfl rfl (fun w s => ref_SameSh sh0 pt16 ⟨none, 0, none, 0⟩ w (rdw s) (rdw s) (Ro.nil _ _ _ _) (Ro.nil _ _ _ _) (by decide)) rfl ?_
  refine to_fix (s := 40) (b' := true) rfl (rfl) ?_
  refine to_pkT rfl rfl rfl ?_
  refine to_mv rfl rfl ?_
  refine to_gt rfl rfl ?_
  refine to_call0 rfl rfl (fun w s => law_known w (gl_up hg (belowH_of s))) rfl ?_
  refine to_pkT rfl rfl rfl ?_
  refine to_as rfl rfl ?_
  refine to_nil ?_
  refine tn_code ?_
  refine t_ret1 rfl rfl (res_tmp rfl) (fun w' s => ?_)
  rfl

set_option maxRecDepth 20000 in
theorem w_RoundReads_q2 (tx : Bs) (w : World)  (hls : tx.length ≤ 250) (h2 : ¬ 150 < tx.length) (b : Sh) (hp : parseZ tx = some b) (hb : isSh b = false) (hg : Gl w) : Calls Tryz.prog 7 #[strV tx] w (RetV w (.bool true)) := by
  have hq : roundRead tx = (sh0, 2) := by simp [roundRead, h2, hp, hb]
  refine calls_T0 (av := [_]) Tryz.func7 rfl rfl rfl ?_
  refine t_seq ?_
  refine t_reg ?_
  refine to_as rfl rfl ?_
  refine to_nil ?_
  refine tn_code ?_
  refine t_seq ?_
  refine t_seq ?_
  refine t_reg ?_
  refine to_mv rfl rfl ?_
  refine to_lenL rfl rfl ?_
  refine to_gtr rfl rfl rfl ?_
  refine to_fix (s := 12) (b' := false) rfl (decide_eq_false (by omega)) ?_
  refine to_nil ?_
  refine tn_code ?_
  refine t_ifF rfl ?_
  refine t_skip ?_
  refine tn_code ?_
  refine t_seq ?_
  refine t_reg ?_
  refine to_mv rfl rfl ?_
  refine to_callR rfl rfl (fun w s => c_readq hq (gl_up hg (belowH_of s))) rfl (fun v16 lo16 w16 hlo16 hR16 => ?_)
  obtain ⟨pt16, rfl, hro16, hrq16⟩ := hR16
  refine to_mv rfl rfl ?_
  refine to_ex rfl rfl rfl ?_
  refine to_ex rfl rfl rfl ?_
  refine to_alloc rfl (fun b3 => ?_)
  first | refine to_st rfl rfl rfl rfl ?_ | refine to_ste rfl rfl (by assumption) rfl rfl ?_
  refine to_as rfl rfl ?_
  refine to_nil ?_
  refine tn_code ?_
  refine t_seq ?_
  refine t_reg ?_
  refine to_mv rfl rfl ?_
  refine to_callR rfl rfl (fun w s => ref_Read tx w hls) rfl (fun v21 lo21 w21 hlo21 hR21 => ?_)
  obtain ⟨bx21, pt21, rfl, hro21, hrq21, hbx21⟩ := hR21
  refine to_mv rfl rfl ?_
  refine to_ex rfl rfl rfl ?_
  refine to_ex rfl rfl rfl ?_
  refine to_alloc rfl (fun b5 => ?_)
  first | refine to_st rfl rfl rfl rfl ?_ | refine to_ste rfl rfl (by assumption) rfl rfl ?_
  refine to_as rfl rfl ?_
  refine to_nil ?_
  refine tn_code ?_
  refine t_seq ?_
  refine t_reg ?_
  refine to_as rfl rfl ?_
  refine to_nil ?_
  refine tn_code ?_
  refine t_seq ?_
  refine t_seq ?_
  refine t_reg ?_
  refine to_mv rfl rfl ?_
  refine to_lenL rfl rfl ?_
  refine to_gtr rfl rfl rfl ?_
  refine to_fix (s := 26) (b' := false) rfl (decide_eq_false (by omega)) ?_
  refine to_nil ?_
  refine tn_code ?_
  refine t_ifF rfl ?_
  refine t_seq ?_
  refine t_reg ?_
  refine to_mv rfl rfl ?_
  refine to_not rfl rfl ?_
  refine to_fix (s := 28) (b' := false) rfl ((by rw [hp]; rfl)) ?_
  refine to_nil ?_
  refine tn_code ?_
  refine t_ifF rfl ?_
  refine t_seq ?_
  refine t_reg ?_
  first | refine to_lda rfl rfl rfl ?_ | refine to_ldea rfl (by assumption) rfl rfl ?_
  refine to_call0 rfl rfl (fun w s => ref_Sheet bx21 pt21 w (rdw s) (rdw s)) rfl ?_
  refine to_fix (s := 30) (b' := false) rfl ((by rw [hbx21 _ hp]; exact hb)) ?_
  refine to_not rfl rfl ?_
  refine to_nil ?_
  refine tn_code ?_
  refine t_ifT rfl ?_
  refine t_reg ?_
  refine to_as rfl rfl ?_
  refine to_nil ?_
  refine tn_code ?_
  refine t_seq ?_
  refine t_seq ?_
  refine t_reg ?_
  refine to_mv rfl rfl ?_
  refine to_neq rfl rfl rfl ?_
  refine to_fix (s := 33) (b' := true) rfl (rfl) ?_
  refine to_nil ?_
  refine tn_code ?_
  refine t_ifT rfl ?_
  refine t_seq ?_
  refine t_reg ?_
  refine to_mv rfl rfl ?_
  refine to_mv rfl rfl ?_
  refine to_eql rfl rfl rfl ?_
  refine to_fix (s := 36) (b' := true) rfl (rfl) ?_
  refine to_mv rfl rfl ?_
  refine to_gt rfl rfl ?_
  first | refine to_lda rfl rfl rfl ?_ | refine to_ldea rfl (by assumption) rfl rfl ?_
  refine to_gt rfl rfl ?_
  refine to_bs rfl rfl ?_
  refine to_gt rfl rfl ?_
  refine to_call0 rfl rfl (fun w s => ref_SameSh sh0 pt16 ⟨none, 0, none, 0⟩ w (rdw s) (rdw s) (Ro.nil _ _ _ _) (Ro.nil _ _ _ _) (by decide)) rfl ?_
  refine to_fix (s := 40) (b' := true) rfl (rfl) ?_
  refine to_pkT rfl rfl rfl ?_
  refine to_mv rfl rfl ?_
  refine to_gt rfl rfl ?_
  refine to_call0 rfl rfl (fun w s => law_known w (gl_up hg (belowH_of s))) rfl ?_
  refine to_pkT rfl rfl rfl ?_
  refine to_as rfl rfl ?_
  refine to_nil ?_
  refine tn_code ?_
  refine t_ret1 rfl rfl (res_tmp rfl) (fun w' s => ?_)
  rfl

set_option maxRecDepth 20000 in
theorem w_RoundReads_q0 (tx : Bs) (w : World)  (hls : tx.length ≤ 250) (h2 : ¬ 150 < tx.length) (b : Sh) (hp : parseZ tx = some b) (hb : isSh b = true) (hg : Gl w) : Calls Tryz.prog 7 #[strV tx] w (RetV w (.bool true)) := by
  have hq : roundRead tx = (b, 0) := by simp [roundRead, h2, hp, hb]
  have hbb := isSh_b hb
  have htx := (parse_k hp).2.2
  refine calls_T0 (av := [_]) Tryz.func7 rfl rfl rfl ?_
  refine t_seq ?_
  refine t_reg ?_
  refine to_as rfl rfl ?_
  refine to_nil ?_
  refine tn_code ?_
  refine t_seq ?_
  refine t_seq ?_
  refine t_reg ?_
  refine to_mv rfl rfl ?_
  refine to_lenL rfl rfl ?_
  refine to_gtr rfl rfl rfl ?_
  refine to_fix (s := 12) (b' := false) rfl (decide_eq_false (by omega)) ?_
  refine to_nil ?_
  refine tn_code ?_
  refine t_ifF rfl ?_
  refine t_skip ?_
  refine tn_code ?_
  refine t_seq ?_
  refine t_reg ?_
  refine to_mv rfl rfl ?_
  refine to_callR rfl rfl (fun w s => c_readq hq (gl_up hg (belowH_of s))) rfl (fun v16 lo16 w16 hlo16 hR16 => ?_)
  obtain ⟨pt16, rfl, hro16, hrq16⟩ := hR16
  refine to_mv rfl rfl ?_
  refine to_ex rfl rfl rfl ?_
  refine to_ex rfl rfl rfl ?_
  refine to_alloc rfl (fun b3 => ?_)
  first | refine to_st rfl rfl rfl rfl ?_ | refine to_ste rfl rfl (by assumption) rfl rfl ?_
  refine to_as rfl rfl ?_
  refine to_nil ?_
  refine tn_code ?_
  refine t_seq ?_
  refine t_reg ?_
  refine to_mv rfl rfl ?_
  refine to_callR rfl rfl (fun w s => ref_Read tx w hls) rfl (fun v21 lo21 w21 hlo21 hR21 => ?_)
  obtain ⟨bx21, pt21, rfl, hro21, hrq21, hbx21⟩ := hR21
  refine to_mv rfl rfl ?_
  refine to_ex rfl rfl rfl ?_
  refine to_ex rfl rfl rfl ?_
  refine to_alloc rfl (fun b5 => ?_)
  first | refine to_st rfl rfl rfl rfl ?_ | refine to_ste rfl rfl (by assumption) rfl rfl ?_
  refine to_as rfl rfl ?_
  refine to_nil ?_
  refine tn_code ?_
  refine t_seq ?_
  refine t_reg ?_
  refine to_as rfl rfl ?_
  refine to_nil ?_
  refine tn_code ?_
  refine t_seq ?_
  refine t_seq ?_
  refine t_reg ?_
  refine to_mv rfl rfl ?_
  refine to_lenL rfl rfl ?_
  refine to_gtr rfl rfl rfl ?_
  refine to_fix (s := 26) (b' := false) rfl (decide_eq_false (by omega)) ?_
  refine to_nil ?_
  refine tn_code ?_
  refine t_ifF rfl ?_
  refine t_seq ?_
  refine t_reg ?_
  refine to_mv rfl rfl ?_
  refine to_not rfl rfl ?_
  refine to_fix (s := 28) (b' := false) rfl ((by rw [hp]; rfl)) ?_
  refine to_nil ?_
  refine tn_code ?_
  refine t_ifF rfl ?_
  refine t_seq ?_
  refine t_reg ?_
  first | refine to_lda rfl rfl rfl ?_ | refine to_ldea rfl (by assumption) rfl rfl ?_
  refine to_call0 rfl rfl (fun w s => ref_Sheet bx21 pt21 w (rdw s) (rdw s)) rfl ?_
  refine to_fix (s := 30) (b' := true) rfl ((by rw [hbx21 _ hp]; exact hb)) ?_
  refine to_not rfl rfl ?_
  refine to_nil ?_
  refine tn_code ?_
  refine t_ifF rfl ?_
  refine t_skip ?_
  refine tn_code ?_
  refine t_seq ?_
  refine t_seq ?_
  refine t_reg ?_
  refine to_mv rfl rfl ?_
  refine to_neq rfl rfl rfl ?_
  refine to_fix (s := 33) (b' := false) rfl (rfl) ?_
  refine to_nil ?_
  refine tn_code ?_
  refine t_ifF rfl ?_
  refine t_skip ?_
  refine tn_code ?_
  refine t_seq ?_
  have hbe : b = bx21 := (hbx21 _ hp).symm
  subst hbe
  refine t_reg ?_
  first | refine to_lda rfl rfl rfl ?_ | refine to_ldea rfl (by assumption) rfl rfl ?_
  refine to_call0 rfl rfl (fun w s => r_Print_t b pt16 w (rdw s) (rdw s) (gl_up hg (belowH_of s)) hb) rfl ?_
  refine to_mv rfl rfl ?_
  refine to_ex rfl rfl rfl ?_
  refine to_ex rfl rfl rfl ?_
  refine to_as rfl rfl ?_
  refine to_as rfl rfl ?_
  refine to_nil ?_
  refine tn_code ?_
  refine t_seq ?_
  refine t_reg ?_
  refine to_mv rfl rfl ?_
  refine to_eql rfl rfl rfl ?_
  refine to_fix (s := 51) (b' := true) rfl (rfl) ?_
  refine to_mv rfl rfl ?_
  refine to_gt rfl rfl ?_
  first | refine to_lda rfl rfl rfl ?_ | refine to_ldea rfl (by assumption) rfl rfl ?_
  refine to_gt rfl rfl ?_
  first | refine to_lda rfl rfl rfl ?_ | refine to_ldea rfl (by assumption) rfl rfl ?_
  refine to_gt rfl rfl ?_
  refine to_call0 rfl rfl (fun w s => ref_SameSh b pt16 pt21 w (rdw s) (rdw s) (rdw s) (rdw s) (by omega)) rfl ?_
  refine to_fix (s := 55) (b' := true) rfl (rfl) ?_
  refine to_pkT rfl rfl rfl ?_
  refine to_mv rfl rfl ?_
  refine to_gt rfl rfl ?_
  refine to_mv rfl rfl ?_
  refine to_gt rfl rfl ?_
  refine to_eql rfl rfl rfl ?_
  refine to_fix (s := 59) (b' := true) rfl (rfl) ?_
  refine to_pkT rfl rfl rfl ?_
  refine to_mv rfl rfl ?_
  refine to_gt rfl rfl ?_
  refine to_mv rfl rfl ?_
  refine to_gt rfl rfl ?_
  refine to_mv rfl rfl ?_
  refine to_gt rfl rfl ?_
  refine to_seq rfl rfl rfl ?_
  refine to_fix (s := 64) (b' := true) rfl (decide_eq_true htx) ?_
  refine to_pkT rfl rfl rfl ?_
  refine to_mv rfl rfl ?_
  refine to_gt rfl rfl ?_
  refine to_call0 rfl rfl (fun w s => law_known w (gl_up hg (belowH_of s))) rfl ?_
  refine to_pkT rfl rfl rfl ?_
  refine to_as rfl rfl ?_
  refine to_nil ?_
  refine tn_code ?_
  refine t_ret1 rfl rfl (res_tmp rfl) (fun w' s => ?_)
  rfl

theorem w_RoundReads (tx : Bs) (w : World) (hg : Gl w) : Calls Tryz.prog 7 #[strV tx] w (RetV w (.bool true)) := by
  by_cases hls : tx.length ≤ 250
  · by_cases h2 : 150 < tx.length
    · exact w_RoundReads_q3 tx w hls h2 hg
    · cases hp : parseZ tx with
      | none => exact w_RoundReads_q4 tx w hls h2 hp hg
      | some b =>
        rcases bool_tf (isSh b) with hb | hb
        · exact w_RoundReads_q0 tx w hls h2 b hp hb hg
        · exact w_RoundReads_q2 tx w hls h2 b hp hb hg
  · exact w_RoundReads_lo tx w hls hg

end Go.Proofs


namespace Go.Proofs.YtebellbkmioadabGreatDoor
open Go Go.Sx Go.RowKit Go.WideShapes Go.ChangeShapes

section
variable {H : Type} {enc : TypeId × Value → H}
set_option maxRecDepth 100000 in
theorem roundReads_law (W : World) (base : Nat) (args : Array Value) (ds : List (DataW H)) (p : List MemPlace) (hval : ∀ (j : Nat) t v, Tryz.f7.params[j]? = some t → args[j]? = some v → Value.okWide Tryz.prog W .any base t v)
    (hA : DataW.TrodAll enc Tryz.prog W 0 (fun _ => true) true Tryz.f7.params.toList args.toList ds p) (hg : Gl W) : Calls Tryz.prog 7 args W (RetV W (.bool true)) := by
  obtain ⟨l⟩ := args
  rw [Tryz.params7] at hA hval
  obtain ⟨v0, l0, d0, e0, p0, q0, hl0, rfl, h0, hA0⟩ := trodAll_cons hA
  have hl0' : l = v0 :: l0 := hl0
  subst hl0'
  obtain rfl := trodAll_nil hA0
  obtain ⟨x0, rfl⟩ := open_str (hval 0 9 v0 rfl rfl) h0
  exact w_RoundReads x0 W hg
end

set_option maxRecDepth 100000 in
theorem roundReads_lifted (os : Os) (started : os.Started) (H : Type) (enc : TypeId × Value → H) :
    ReturnsInHanded {} Tryz.checked os 7 .any (fun w args => (Rows.roundReadsSpec.pre enc Tryz.prog Tryz.f7 [] false w args ∧ laidMetH Tryz.prog laidL w) ∧ sizedMet enc Tryz.prog Tryz.f7 (OpenSpec.ofChange Rows.roundReadsSpec) false w args)
      (Rows.roundReadsSpec.post enc Tryz.prog Tryz.f7 false true false false) :=
  law_lifted started (by kernel_rfl) Tryz.func7 rfl rfl (by kernel_rfl) (fun ds h => by
      match ds, h with
      | [_], _ => rfl)
    (ChangeSpec.witness_shaped (enc := enc) (C := Tryz.checked) (os := os) (X := fun w _ => laidMetH Tryz.prog laidL w) false (World.laidAll Tryz.prog os laidL) #[.string ⟨#[]⟩] 8 (World.laidAll_os _ _ _)
      (World.shaped_of_ZipB (by kernel_rfl) (by kernel_rfl)) (by kernel_rfl) (by kernel_rfl) (by kernel_rfl)
      (by rw [MakeChecks.laidMetH_plain _ _ _ (by kernel_rfl)]; exact laidMet_laidAll _ (by kernel_rfl) (by kernel_rfl)))
    (fun W base args ds p hval hA hg => roundReads_law W base args ds p hval hA hg)

theorem roundReads_holds : Rows.RoundReadsSaid :=
  OpenClaim.holds_of_wide 7 Tryz.f7 rfl rfl rfl rfl rfl rfl rfl ⟨rfl, rfl, rfl, rfl, rfl⟩ rfl rfl rfl rfl rfl (by kernel_rfl) Tryz.func7 (by kernel_rfl)
    (of_decide_eq_true (by kernel_rfl)) (by unfold Func.isWrapper; first | (rw [if_pos (by decide +kernel)]; kernel_rfl) | (rw [if_neg (by decide +kernel)]; exact ⟨rfl, rfl⟩))
    (fun os started H enc _ => roundReads_lifted os started H enc)

theorem roundReads_card : Rows.RoundReadsCardSaid :=
  Claim7.holds_tied_plain_at .later [] [.data, .data, .data, .data, .pinned] true (true, "54bc54d732b00ab41745012f143d3a299984cc0782d0007b60a3d798b30a7197") true
    roundReads_holds (fun _ h => by cases h) (by kernel_rfl) (fun _ h => by cases h) roundReads_row_tie rfl ⟨rfl, rfl⟩ (by kernel_rfl) rfl
    (fun f fn hf hfn => by
      obtain rfl : f = 7 := Option.some.inj ((show Tryz.prog.funcNamed "ephemerist/ephemeristlaw04.RoundReads" = some 7 by kernel_rfl).symm.trans hf) |>.symm
      obtain rfl : fn = Tryz.f7 := (Option.some.inj (Tryz.func7.symm.trans hfn)).symm
      exact ⟨by kernel_rfl, fun j t ht => by
        rw [Tryz.params7] at ht
        have hm : t ∈ [9] := by simpa using Array.mem_of_getElem? ht
        have hall : ([9].all fun u => !Tryz.prog.wantsStandIn u) = true := by kernel_rfl
        exact (show Tryz.prog.wantsStandIn t = false by simpa using List.all_eq_true.1 hall t hm)⟩)
    (by kernel_rfl)
end Go.Proofs.YtebellbkmioadabGreatDoor

