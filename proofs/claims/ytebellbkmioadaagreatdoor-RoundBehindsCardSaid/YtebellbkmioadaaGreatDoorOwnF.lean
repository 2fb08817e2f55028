/- Contracts on texts that are read, the chapter's examples, and how a law's row follows from its contract. No condition beyond each theorem's own. -/
import Derived.Test.YtebellbkmioadaaGreatDoorOwnE
import Derived.Test.YtebellbkmioadaaGreatDoorOwnB
import Derived.Test.YtebellbkmioadaaGreatDoorOwnC
import Derived.Test.YtebellbkmioadaaGreatDoorRows
import Derived.WalkKit
import Derived.ProofKit
import Derived.Lay
import Derived.Stop.LaidErr
import Derived.Lib.LaidTab
import Derived.Shelf.Vars
import Derived.ChangeMaps5
import Derived.MakeChecks
import Derived.LaidMore
import Derived.Stop.Joined
set_option linter.unusedVariables false
set_option linter.unusedSimpArgs false
namespace Go.Proofs
open Go Go.Sx Go.RowKit

set_option maxRecDepth 20000 in
theorem sure_t (z : ByteArray) (w : World)  : Calls Tryz.prog 116 #[.bool true, .string z] w (RetV w (.tuple #[])) := by
  refine calls_T0 (av := [_, _]) Tryz.func116 rfl rfl rfl ?_
  refine t_seq ?_
  refine t_reg ?_
  refine to_mv rfl rfl ?_
  refine to_not rfl rfl ?_
  refine to_nil ?_
  refine tn_code ?_
  refine t_ifF rfl ?_
  refine t_skip ?_
  exact t_end0 rfl rfl (fun w' s => rfl)

set_option maxRecDepth 20000 in
theorem sure_f (z : ByteArray) (w : World) : Calls Tryz.prog 116 #[.bool false, .string z] w (fun e w' => e = .panicked (pan 128 (.agg [.string z].toArray)) ∧ RowKit.Below w.heap.size w w') := by
  refine calls_TG (av := [_, _]) Tryz.func116 rfl rfl rfl (St.start w) ?_
  refine t_seq ?_
  refine t_reg ?_
  refine to_mv rfl rfl ?_
  refine to_not rfl rfl ?_
  refine to_nil ?_
  refine tn_code ?_
  refine t_ifT rfl ?_
  refine t_reg ?_
  refine to_mv rfl rfl ?_
  refine to_bs rfl rfl ?_
  refine to_mi rfl rfl rfl ?_
  exact to_panic rfl (fun a w' e s => ⟨e.ds, rfl, below_of s⟩)

def NumP (l : Bs) (w : World) : Ending → World → Prop := fun e w' => RowKit.Below w.heap.size w w' ∧ ((∃ n, numZ l = some n ∧ e = .returned (.int .i64 n)) ∨ (numZ l = none ∧ ∃ z, e = .panicked (pan 128 (.agg [.string z].toArray))))

set_option maxRecDepth 20000 in
theorem c_number (l : Bs) (w : World) (hll : l.length ≤ 1000) (hg : Gl w) : Calls Tryz.prog 119 #[strV l] w (NumP l w) := by
  have hal := absW_len l
  refine calls_TG (av := [_]) Tryz.func119 rfl rfl rfl (St.start w) ?_
  refine t_seq ?_
  refine t_reg ?_
  refine to_as rfl rfl ?_
  refine to_nil ?_
  refine tn_code ?_
  refine t_seq ?_
  refine t_reg ?_
  refine to_mv rfl rfl ?_
  refine to_call0 rfl rfl (fun w s => trim_c _ w (by omega)) rfl ?_
  refine to_as rfl rfl ?_
  refine to_nil ?_
  refine tn_code ?_
  refine t_seq ?_
  refine t_reg ?_
  refine to_as rfl rfl ?_
  refine to_nil ?_
  refine tn_code ?_
  refine t_seq ?_
  refine t_seq ?_
  refine t_reg ?_
  refine to_mv rfl rfl ?_
  refine to_rgs rfl rfl (fun b10 => ?_)
  refine to_nil ?_
  refine tn_code ?_
  refine t_blk ?_
  refine t_loop2 (ι := Nat) (fun p => p ≤ (absW l).length ∧ (∀ j, j < p → ∀ c, (absW l)[j]? = some c → isDg c = true) ∧ (1 ≤ p → (absW l).length ≤ 6)) (fun p => [(0, strV l), (3, strV (absW l)), (4, .int .i64 (valK (absW l) p)), (10, (.pointer (some ⟨b10, 0, none⟩)))]) (fun p => [.own b10 (isIt (absW l) p), .snap 0 w.heap.size w]) (fun p => (absW l).length - p) (0) [.own b10 (isIt (absW l) 0), .snap 0 w.heap.size w] (rfl) (⟨Nat.zero_le _, fun j hj => absurd hj (Nat.not_lt_zero _), fun h => absurd h (by decide)⟩) (⟨rfl, rfl, rfl, rfl, trivial⟩) ?_
  rintro p ⟨hp0, hdg, hl3⟩
  show T _ _ _ ⟨_, [(0, strV l), (3, strV (absW l)), (4, .int .i64 (valK (absW l) p)), (10, (.pointer (some ⟨b10, 0, none⟩)))], _⟩ [.own b10 (isIt (absW l) p), .snap 0 w.heap.size w]
  refine t_seq ?_
  refine t_reg ?_
  rcases nx_cases (absW l) p with ⟨c, hc, ha⟩ | ⟨c, hc, ha⟩ | hp
  · refine to_nxa rfl hc ha rfl ?_
    refine to_ex rfl rfl rfl ?_
    refine to_nil ?_
    refine tn_code ?_
    refine t_seq ?_
    refine t_ifT rfl ?_
    refine t_skip ?_
    refine tn_code ?_
    refine t_blk ?_
    refine t_seq ?_
    refine t_reg ?_
    refine to_ex rfl rfl rfl ?_
    refine to_as rfl rfl ?_
    refine to_nil ?_
    refine tn_code ?_
    refine t_seq ?_
    refine t_reg ?_
    refine to_mv rfl rfl ?_
    refine to_geqk rfl rfl rfl ?_
    refine to_mv rfl rfl ?_
    refine to_gs rfl rfl rfl (fun h1 => ?_) (fun h1 => ?_)
    · try simp only [decide_eq_true_eq, decide_eq_false_iff_not, Bool.not_eq_true', Bool.not_eq_false', Int.not_lt, Int.not_le, ne_eq, Decidable.not_not] at h1
      try have h1b := inB_iff.1 h1
      refine to_gt rfl rfl ?_
      refine to_mv rfl rfl ?_
      refine to_gt rfl rfl ?_
      refine to_leqk rfl rfl rfl ?_
      refine to_pkT rfl rfl rfl ?_
      refine to_mv rfl rfl ?_
      refine to_gs rfl rfl rfl (fun h2 => ?_) (fun h2 => ?_)
      · try simp only [decide_eq_true_eq, decide_eq_false_iff_not, Bool.not_eq_true', Bool.not_eq_false', Int.not_lt, Int.not_le, ne_eq, Decidable.not_not] at h2
        try have h2b := inB_iff.1 h2
        refine to_gt rfl rfl ?_
        refine to_mv rfl rfl ?_
        refine to_gt rfl rfl ?_
        refine to_lenL rfl rfl ?_
        refine to_gt rfl rfl ?_
        refine to_leq rfl rfl rfl ?_
        refine to_pkT rfl rfl rfl ?_
        refine to_mv rfl rfl ?_
        refine to_bc (s := 24) rfl (fun h3 => ?_) (fun h3 => ?_)
        · try simp only [decide_eq_true_eq, decide_eq_false_iff_not, Bool.not_eq_true', Bool.not_eq_false', Int.not_lt, Int.not_le, ne_eq, Decidable.not_not] at h3
          try have h3b := inB_iff.1 h3
          refine to_call0 rfl rfl (fun w s => sure_t _ w) rfl ?_
          refine to_nil ?_
          refine tn_code ?_
          have hpl : p + 1 ≤ (absW l).length := (List.getElem?_eq_some_iff.1 hc).1
          have hl2 : (absW l).length ≤ 6 := by omega
          have hdc := dg_t (c := c) (by omega)
          have hdg2 : ∀ j, j < p + 1 → ∀ c, (absW l)[j]? = some c → isDg c = true := by
            intro j hj cc hcc
            rcases Nat.lt_succ_iff_lt_or_eq.1 hj with h' | rfl
            · exact hdg j h' cc hcc
            · rw [hc] at hcc; cases hcc; exact hdc
          have hvb := valK_b6 hdg hp0 (by omega)
          refine t_reg ?_
          refine to_mv rfl rfl ?_
          refine to_mul rfl rfl (by first | omega | exact mul_ok (by omega) (by omega) (by omega) (by omega)) rfl ?_
          refine to_mv rfl rfl ?_
          refine to_subk rfl rfl (by first | exact IntWalk.i32_in _ (by omega) | exact IntWalk.u8_in _ (by omega)) rfl ?_
          refine to_cv rfl (by first | exact wrap_id (by omega) | exact IntWalk.u8_in _ (by omega) | exact IntWalk.i32_in _ (by omega)) rfl ?_
          refine to_add rfl rfl (by omega) rfl ?_
          refine to_as rfl rfl ?_
          refine to_nil ?_
          refine tn_blk ?_
          exact tn_loop2 (p + 1) [.own b10 (isIt (absW l) (p + 1)), .snap 0 w.heap.size w] (rfl) (⟨hpl, hdg2, fun _ => hl2⟩) (by omega) (⟨rfl, rfl, congrArg (fun z => some (Value.int .i64 z)) (by rw [valK_succ hc]), rfl, trivial⟩)
        · try simp only [decide_eq_true_eq, decide_eq_false_iff_not, Bool.not_eq_true', Bool.not_eq_false', Int.not_lt, Int.not_le, ne_eq, Decidable.not_not] at h3
          try have h3b := inB_iff.1 h3
          exact to_callF rfl rfl (fun w s => sure_f _ w) rfl (fun w' s a ea => ⟨ea.ds, below_of s, .inr ⟨(by first | exact numZ_bad hc (dg_f (by omega)) | exact numZ_long (by omega)), _, rfl⟩⟩)
      · try simp only [decide_eq_true_eq, decide_eq_false_iff_not, Bool.not_eq_true', Bool.not_eq_false', Int.not_lt, Int.not_le, ne_eq, Decidable.not_not] at h2
        try have h2b := inB_iff.1 h2
        refine to_gf rfl rfl rfl rfl ?_
        refine to_gf rfl rfl rfl rfl ?_
        refine to_gf rfl rfl rfl rfl ?_
        refine to_pkF rfl rfl rfl ?_
        refine to_mv rfl rfl ?_
        exact to_callF rfl rfl (fun w s => sure_f _ w) rfl (fun w' s a ea => ⟨ea.ds, below_of s, .inr ⟨(by first | exact numZ_bad hc (dg_f (by omega)) | exact numZ_long (by omega)), _, rfl⟩⟩)
    · try simp only [decide_eq_true_eq, decide_eq_false_iff_not, Bool.not_eq_true', Bool.not_eq_false', Int.not_lt, Int.not_le, ne_eq, Decidable.not_not] at h1
      try have h1b := inB_iff.1 h1
      refine to_gf rfl rfl rfl rfl ?_
      refine to_gf rfl rfl rfl rfl ?_
      refine to_pkF rfl rfl rfl ?_
      refine to_mv rfl rfl ?_
      refine to_gf rfl rfl rfl rfl ?_
      refine to_gf rfl rfl rfl rfl ?_
      refine to_gf rfl rfl rfl rfl ?_
      refine to_pkF rfl rfl rfl ?_
      refine to_mv rfl rfl ?_
      exact to_callF rfl rfl (fun w s => sure_f _ w) rfl (fun w' s a ea => ⟨ea.ds, below_of s, .inr ⟨(by first | exact numZ_bad hc (dg_f (by omega)) | exact numZ_long (by omega)), _, rfl⟩⟩)
  · refine to_nxm rfl hc ha rfl (fun r q hr => ?_)
    refine to_ex rfl rfl rfl ?_
    refine to_nil ?_
    refine tn_code ?_
    refine t_seq ?_
    refine t_ifT rfl ?_
    refine t_skip ?_
    refine tn_code ?_
    refine t_blk ?_
    refine t_seq ?_
    refine t_reg ?_
    refine to_ex rfl rfl rfl ?_
    refine to_as rfl rfl ?_
    refine to_nil ?_
    refine tn_code ?_
    refine t_seq ?_
    refine t_reg ?_
    refine to_mv rfl rfl ?_
    refine to_geqk rfl rfl rfl ?_
    refine to_fix (s := 15) (b' := true) rfl (decide_eq_true (by omega)) ?_
    refine to_mv rfl rfl ?_
    refine to_gt rfl rfl ?_
    refine to_mv rfl rfl ?_
    refine to_gt rfl rfl ?_
    refine to_leqk rfl rfl rfl ?_
    refine to_fix (s := 18) (b' := false) rfl (decide_eq_false (by omega)) ?_
    refine to_pkT rfl rfl rfl ?_
    refine to_mv rfl rfl ?_
    refine to_gf rfl rfl rfl rfl ?_
    refine to_gf rfl rfl rfl rfl ?_
    refine to_gf rfl rfl rfl rfl ?_
    refine to_pkF rfl rfl rfl ?_
    refine to_mv rfl rfl ?_
    exact to_callF rfl rfl (fun w s => sure_f _ w) rfl (fun w' s a ea => ⟨ea.ds, below_of s, .inr ⟨(by first | exact numZ_bad hc (dg_f (by omega)) | exact numZ_long (by omega)), _, rfl⟩⟩)
  · refine to_nxe rfl hp rfl ?_
    refine to_ex rfl rfl rfl ?_
    refine to_nil ?_
    refine tn_code ?_
    refine t_seq ?_
    refine t_ifF rfl ?_
    refine t_exit ?_
    refine tx_code ?_
    refine tx_inv ?_
    refine tx_blk ?_
    refine tn_code ?_
    refine t_seq ?_
    refine t_seq ?_
    have hpe : p = (absW l).length := by omega
    subst hpe
    refine t_reg ?_
    refine to_mv rfl rfl ?_
    refine to_mv rfl rfl ?_
    refine to_sne rfl rfl rfl ?_
    refine to_nil ?_
    refine tn_code ?_
    refine t_if rfl (fun h4 => ?_) (fun h4 => ?_)
    · try simp only [decide_eq_true_eq, decide_eq_false_iff_not, Bool.not_eq_true', Bool.not_eq_false', Int.not_lt, Int.not_le, ne_eq, Decidable.not_not] at h4
      try have h4b := inB_iff.1 h4
      have hsg := absW_ne h4
      have hb6 : (absW l).length ≤ 6 := by by_cases h0 : 1 ≤ (absW l).length; exact hl3 h0; omega
      have hvb := valK_b6 hdg (Nat.le_refl _) hb6
      refine t_reg ?_
      refine to_mv rfl rfl ?_
      refine to_neg rfl (by omega) rfl ?_
      refine to_as rfl rfl ?_
      refine to_nil ?_
      refine tn_code ?_
      refine t_seq ?_
      refine t_reg ?_
      refine to_mv rfl rfl ?_
      refine to_sne rfl rfl rfl ?_
      refine to_mv rfl rfl ?_
      refine to_gs rfl rfl rfl (fun h5 => ?_) (fun h5 => ?_)
      · try simp only [decide_eq_true_eq, decide_eq_false_iff_not, Bool.not_eq_true', Bool.not_eq_false', Int.not_lt, Int.not_le, ne_eq, Decidable.not_not] at h5
        try have h5b := inB_iff.1 h5
        refine to_gt rfl rfl ?_
        refine to_mv rfl rfl ?_
        refine to_gt rfl rfl ?_
        refine to_call0 rfl rfl (fun w s => itoa_c _ w (by unfold okZ; omega) (gl_up hg (belowH_of s))) rfl ?_
        refine to_gt rfl rfl ?_
        refine to_mv rfl rfl ?_
        refine to_gt rfl rfl ?_
        refine to_seq rfl rfl rfl ?_
        refine to_pkT rfl rfl rfl ?_
        refine to_mv rfl rfl ?_
        refine to_bc (s := 45) rfl (fun h6 => ?_) (fun h6 => ?_)
        · try simp only [decide_eq_true_eq, decide_eq_false_iff_not, Bool.not_eq_true', Bool.not_eq_false', Int.not_lt, Int.not_le, ne_eq, Decidable.not_not] at h6
          try have h6b := inB_iff.1 h6
          refine to_call0 rfl rfl (fun w s => sure_t _ w) rfl ?_
          refine to_nil ?_
          refine tn_code ?_
          refine t_seq ?_
          refine t_reg ?_
          refine to_mv rfl rfl ?_
          refine to_as rfl rfl ?_
          refine to_nil ?_
          refine tn_code ?_
          refine t_ret1G rfl rfl (res_tmp rfl) (fun w' s => ?_)
          exact ⟨below_of s, .inl ⟨_, (by rw [numZ_t (by assumption) hb6 hdg (by rw [hsg]; assumption), hsg]), rfl⟩⟩
        · try simp only [decide_eq_true_eq, decide_eq_false_iff_not, Bool.not_eq_true', Bool.not_eq_false', Int.not_lt, Int.not_le, ne_eq, Decidable.not_not] at h6
          try have h6b := inB_iff.1 h6
          exact to_callF rfl rfl (fun w s => sure_f _ w) rfl (fun w' s a ea => ⟨ea.ds, below_of s, .inr ⟨(by first | exact numZ_nil (by assumption) | exact numZ_ne (by rw [hsg]; assumption)), _, rfl⟩⟩)
      · try simp only [decide_eq_true_eq, decide_eq_false_iff_not, Bool.not_eq_true', Bool.not_eq_false', Int.not_lt, Int.not_le, ne_eq, Decidable.not_not] at h5
        try have h5b := inB_iff.1 h5
        refine to_gf rfl rfl rfl rfl ?_
        refine to_gf rfl rfl rfl rfl ?_
        refine to_gf rfl rfl rfl rfl ?_
        refine to_gf rfl rfl rfl rfl ?_
        refine to_pkF rfl rfl rfl ?_
        refine to_mv rfl rfl ?_
        exact to_callF rfl rfl (fun w s => sure_f _ w) rfl (fun w' s a ea => ⟨ea.ds, below_of s, .inr ⟨(by first | exact numZ_nil (by assumption) | exact numZ_ne (by rw [hsg]; assumption)), _, rfl⟩⟩)
    · try simp only [decide_eq_true_eq, decide_eq_false_iff_not, Bool.not_eq_true', Bool.not_eq_false', Int.not_lt, Int.not_le, ne_eq, Decidable.not_not] at h4
      try have h4b := inB_iff.1 h4
      have hsg := absW_eq h4
      have hb6 : (absW l).length ≤ 6 := by by_cases h0 : 1 ≤ (absW l).length; exact hl3 h0; omega
      have hvb := valK_b6 hdg (Nat.le_refl _) hb6
      refine t_skip ?_
      refine tn_code ?_
      refine t_seq ?_
      refine t_reg ?_
      refine to_mv rfl rfl ?_
      refine to_sne rfl rfl rfl ?_
      refine to_mv rfl rfl ?_
      refine to_gs rfl rfl rfl (fun h7 => ?_) (fun h7 => ?_)
      · try simp only [decide_eq_true_eq, decide_eq_false_iff_not, Bool.not_eq_true', Bool.not_eq_false', Int.not_lt, Int.not_le, ne_eq, Decidable.not_not] at h7
        try have h7b := inB_iff.1 h7
        refine to_gt rfl rfl ?_
        refine to_mv rfl rfl ?_
        refine to_gt rfl rfl ?_
        refine to_call0 rfl rfl (fun w s => itoa_c _ w (by unfold okZ; omega) (gl_up hg (belowH_of s))) rfl ?_
        refine to_gt rfl rfl ?_
        refine to_mv rfl rfl ?_
        refine to_gt rfl rfl ?_
        refine to_seq rfl rfl rfl ?_
        refine to_pkT rfl rfl rfl ?_
        refine to_mv rfl rfl ?_
        refine to_bc (s := 45) rfl (fun h8 => ?_) (fun h8 => ?_)
        · try simp only [decide_eq_true_eq, decide_eq_false_iff_not, Bool.not_eq_true', Bool.not_eq_false', Int.not_lt, Int.not_le, ne_eq, Decidable.not_not] at h8
          try have h8b := inB_iff.1 h8
          refine to_call0 rfl rfl (fun w s => sure_t _ w) rfl ?_
          refine to_nil ?_
          refine tn_code ?_
          refine t_seq ?_
          refine t_reg ?_
          refine to_mv rfl rfl ?_
          refine to_as rfl rfl ?_
          refine to_nil ?_
          refine tn_code ?_
          refine t_ret1G rfl rfl (res_tmp rfl) (fun w' s => ?_)
          exact ⟨below_of s, .inl ⟨_, (by rw [numZ_t (by assumption) hb6 hdg (by rw [hsg]; assumption), hsg]), rfl⟩⟩
        · try simp only [decide_eq_true_eq, decide_eq_false_iff_not, Bool.not_eq_true', Bool.not_eq_false', Int.not_lt, Int.not_le, ne_eq, Decidable.not_not] at h8
          try have h8b := inB_iff.1 h8
          exact to_callF rfl rfl (fun w s => sure_f _ w) rfl (fun w' s a ea => ⟨ea.ds, below_of s, .inr ⟨(by first | exact numZ_nil (by assumption) | exact numZ_ne (by rw [hsg]; assumption)), _, rfl⟩⟩)
      · try simp only [decide_eq_true_eq, decide_eq_false_iff_not, Bool.not_eq_true', Bool.not_eq_false', Int.not_lt, Int.not_le, ne_eq, Decidable.not_not] at h7
        try have h7b := inB_iff.1 h7
        refine to_gf rfl rfl rfl rfl ?_
        refine to_gf rfl rfl rfl rfl ?_
        refine to_gf rfl rfl rfl rfl ?_
        refine to_gf rfl rfl rfl rfl ?_
        refine to_pkF rfl rfl rfl ?_
        refine to_mv rfl rfl ?_
        exact to_callF rfl rfl (fun w s => sure_f _ w) rfl (fun w' s a ea => ⟨ea.ds, below_of s, .inr ⟨(by first | exact numZ_nil (by assumption) | exact numZ_ne (by rw [hsg]; assumption)), _, rfl⟩⟩)

end Go.Proofs


namespace Go.Proofs
open Go Go.Sx Go.RowKit

abbrev oneV (n : Int) : Value := .agg [.int .i64 n].toArray

set_option maxRecDepth 20000 in
theorem wr_h1 (u : Int) (es rs : List Int) (pt : Pt) (w : World) (hn : okZ u) (hg : Gl w) : Calls Tryz.prog 127 #[.iface 144 (shV ⟨u, 1, es, rs⟩ pt)] w (RetV w (strV (hdZ ⟨u, 1, es, rs⟩))) := by
  have hdl := decZ_len hn
  refine calls_T0 (av := [_]) Tryz.func127 rfl rfl rfl ?_
  refine t_seq ?_
  refine t_reg ?_
  refine to_as rfl rfl ?_
  refine to_nil ?_
  refine tn_code ?_
  refine t_seq ?_
  refine t_seq ?_
  refine t_reg ?_
  refine to_mv rfl rfl ?_
  refine to_nil ?_
  refine tn_code ?_
  refine t_blk ?_
  refine t_seq ?_
  refine t_reg ?_
  refine to_taT rfl rfl rfl ?_
  refine to_ex rfl rfl rfl ?_
  refine to_ex rfl rfl rfl ?_
  refine to_nil ?_
  refine tn_code ?_
  refine t_ifT rfl ?_
  refine t_seq ?_
  refine t_reg ?_
  refine to_alloc rfl (fun b3 => ?_)
  first | refine to_st rfl rfl rfl rfl ?_ | refine to_ste rfl rfl (by assumption) rfl rfl ?_
  refine to_nil ?_
  refine tn_code ?_
  refine t_seq ?_
  refine t_regD rfl (by kernel_rfl) (by kernel_rfl) ?_
  first | refine to_fa rfl rfl rfl (by simp only [Nat.reduceAdd]; rfl) rfl ?_ | refine to_fae rfl rfl rfl (by simp only [Nat.reduceAdd]; rfl) rfl ?_
  first | refine to_fa rfl rfl rfl (by simp only [Nat.reduceAdd]; rfl) rfl ?_ | refine to_fae rfl rfl rfl (by simp only [Nat.reduceAdd]; rfl) rfl ?_
  first | refine to_lds rfl rfl rfl ?_ | refine to_ldes rfl (by assumption) rfl rfl ?_
  refine to_call0 rfl rfl (fun w s => itoa_c u w hn (gl_up hg (belowH_of s))) rfl ?_
  refine to_sadd rfl rfl (by first | omega | (simp only [List.length_append, List.length_cons, List.length_nil]; omega)) rfl ?_
  refine to_sadd rfl rfl (by first | omega | (simp only [List.length_append, List.length_cons, List.length_nil]; omega)) rfl ?_
  refine to_call0 rfl rfl (fun w s => ruleWords_c w) rfl ?_
  first | refine to_fa rfl rfl rfl (by simp only [Nat.reduceAdd]; rfl) rfl ?_ | refine to_fae rfl rfl rfl (by simp only [Nat.reduceAdd]; rfl) rfl ?_
  first | refine to_fa rfl rfl rfl (by simp only [Nat.reduceAdd]; rfl) rfl ?_ | refine to_fae rfl rfl rfl (by simp only [Nat.reduceAdd]; rfl) rfl ?_
  first | refine to_lds rfl rfl rfl ?_ | refine to_ldes rfl (by assumption) rfl rfl ?_
  refine to_sub rfl rfl (by dsimp only; omega) rfl ?_
  refine to_ixa (k := 0) rfl rfl rfl (by decide) rfl rfl ?_
  refine to_sadd rfl rfl (by first | omega | (simp only [List.length_append, List.length_cons, List.length_nil]; omega)) rfl ?_
  refine to_as rfl rfl ?_
  refine to_nil ?_
  refine tn_code ?_
  refine t_ret1 rfl rfl (res_tmp rfl) (fun w' s => ?_)
  refine congrArg strV ?_
  simp [hdZ, lineZ, wRound, ruleW, rulesB]

set_option maxRecDepth 20000 in
theorem wr_h2 (u : Int) (es rs : List Int) (pt : Pt) (w : World) (hn : okZ u) (hg : Gl w) : Calls Tryz.prog 127 #[.iface 144 (shV ⟨u, 2, es, rs⟩ pt)] w (RetV w (strV (hdZ ⟨u, 2, es, rs⟩))) := by
  have hdl := decZ_len hn
  refine calls_T0 (av := [_]) Tryz.func127 rfl rfl rfl ?_
  refine t_seq ?_
  refine t_reg ?_
  refine to_as rfl rfl ?_
  refine to_nil ?_
  refine tn_code ?_
  refine t_seq ?_
  refine t_seq ?_
  refine t_reg ?_
  refine to_mv rfl rfl ?_
  refine to_nil ?_
  refine tn_code ?_
  refine t_blk ?_
  refine t_seq ?_
  refine t_reg ?_
  refine to_taT rfl rfl rfl ?_
  refine to_ex rfl rfl rfl ?_
  refine to_ex rfl rfl rfl ?_
  refine to_nil ?_
  refine tn_code ?_
  refine t_ifT rfl ?_
  refine t_seq ?_
  refine t_reg ?_
  refine to_alloc rfl (fun b3 => ?_)
  first | refine to_st rfl rfl rfl rfl ?_ | refine to_ste rfl rfl (by assumption) rfl rfl ?_
  refine to_nil ?_
  refine tn_code ?_
  refine t_seq ?_
  refine t_regD rfl (by kernel_rfl) (by kernel_rfl) ?_
  first | refine to_fa rfl rfl rfl (by simp only [Nat.reduceAdd]; rfl) rfl ?_ | refine to_fae rfl rfl rfl (by simp only [Nat.reduceAdd]; rfl) rfl ?_
  first | refine to_fa rfl rfl rfl (by simp only [Nat.reduceAdd]; rfl) rfl ?_ | refine to_fae rfl rfl rfl (by simp only [Nat.reduceAdd]; rfl) rfl ?_
  first | refine to_lds rfl rfl rfl ?_ | refine to_ldes rfl (by assumption) rfl rfl ?_
  refine to_call0 rfl rfl (fun w s => itoa_c u w hn (gl_up hg (belowH_of s))) rfl ?_
  refine to_sadd rfl rfl (by first | omega | (simp only [List.length_append, List.length_cons, List.length_nil]; omega)) rfl ?_
  refine to_sadd rfl rfl (by first | omega | (simp only [List.length_append, List.length_cons, List.length_nil]; omega)) rfl ?_
  refine to_call0 rfl rfl (fun w s => ruleWords_c w) rfl ?_
  first | refine to_fa rfl rfl rfl (by simp only [Nat.reduceAdd]; rfl) rfl ?_ | refine to_fae rfl rfl rfl (by simp only [Nat.reduceAdd]; rfl) rfl ?_
  first | refine to_fa rfl rfl rfl (by simp only [Nat.reduceAdd]; rfl) rfl ?_ | refine to_fae rfl rfl rfl (by simp only [Nat.reduceAdd]; rfl) rfl ?_
  first | refine to_lds rfl rfl rfl ?_ | refine to_ldes rfl (by assumption) rfl rfl ?_
  refine to_sub rfl rfl (by dsimp only; omega) rfl ?_
  refine to_ixa (k := 1) rfl rfl rfl (by decide) rfl rfl ?_
  refine to_sadd rfl rfl (by first | omega | (simp only [List.length_append, List.length_cons, List.length_nil]; omega)) rfl ?_
  refine to_as rfl rfl ?_
  refine to_nil ?_
  refine tn_code ?_
  refine t_ret1 rfl rfl (res_tmp rfl) (fun w' s => ?_)
  refine congrArg strV ?_
  simp [hdZ, lineZ, wRound, ruleW, rulesB]

set_option maxRecDepth 20000 in
theorem wr_h3 (u : Int) (es rs : List Int) (pt : Pt) (w : World) (hn : okZ u) (hg : Gl w) : Calls Tryz.prog 127 #[.iface 144 (shV ⟨u, 3, es, rs⟩ pt)] w (RetV w (strV (hdZ ⟨u, 3, es, rs⟩))) := by
  have hdl := decZ_len hn
  refine calls_T0 (av := [_]) Tryz.func127 rfl rfl rfl ?_
  refine t_seq ?_
  refine t_reg ?_
  refine to_as rfl rfl ?_
  refine to_nil ?_
  refine tn_code ?_
  refine t_seq ?_
  refine t_seq ?_
  refine t_reg ?_
  refine to_mv rfl rfl ?_
  refine to_nil ?_
  refine tn_code ?_
  refine t_blk ?_
  refine t_seq ?_
  refine t_reg ?_
  refine to_taT rfl rfl rfl ?_
  refine to_ex rfl rfl rfl ?_
  refine to_ex rfl rfl rfl ?_
  refine to_nil ?_
  refine tn_code ?_
  refine t_ifT rfl ?_
  refine t_seq ?_
  refine t_reg ?_
  refine to_alloc rfl (fun b3 => ?_)
  first | refine to_st rfl rfl rfl rfl ?_ | refine to_ste rfl rfl (by assumption) rfl rfl ?_
  refine to_nil ?_
  refine tn_code ?_
  refine t_seq ?_
  refine t_regD rfl (by kernel_rfl) (by kernel_rfl) ?_
  first | refine to_fa rfl rfl rfl (by simp only [Nat.reduceAdd]; rfl) rfl ?_ | refine to_fae rfl rfl rfl (by simp only [Nat.reduceAdd]; rfl) rfl ?_
  first | refine to_fa rfl rfl rfl (by simp only [Nat.reduceAdd]; rfl) rfl ?_ | refine to_fae rfl rfl rfl (by simp only [Nat.reduceAdd]; rfl) rfl ?_
  first | refine to_lds rfl rfl rfl ?_ | refine to_ldes rfl (by assumption) rfl rfl ?_
  refine to_call0 rfl rfl (fun w s => itoa_c u w hn (gl_up hg (belowH_of s))) rfl ?_
  refine to_sadd rfl rfl (by first | omega | (simp only [List.length_append, List.length_cons, List.length_nil]; omega)) rfl ?_
  refine to_sadd rfl rfl (by first | omega | (simp only [List.length_append, List.length_cons, List.length_nil]; omega)) rfl ?_
  refine to_call0 rfl rfl (fun w s => ruleWords_c w) rfl ?_
  first | refine to_fa rfl rfl rfl (by simp only [Nat.reduceAdd]; rfl) rfl ?_ | refine to_fae rfl rfl rfl (by simp only [Nat.reduceAdd]; rfl) rfl ?_
  first | refine to_fa rfl rfl rfl (by simp only [Nat.reduceAdd]; rfl) rfl ?_ | refine to_fae rfl rfl rfl (by simp only [Nat.reduceAdd]; rfl) rfl ?_
  first | refine to_lds rfl rfl rfl ?_ | refine to_ldes rfl (by assumption) rfl rfl ?_
  refine to_sub rfl rfl (by dsimp only; omega) rfl ?_
  refine to_ixa (k := 2) rfl rfl rfl (by decide) rfl rfl ?_
  refine to_sadd rfl rfl (by first | omega | (simp only [List.length_append, List.length_cons, List.length_nil]; omega)) rfl ?_
  refine to_as rfl rfl ?_
  refine to_nil ?_
  refine tn_code ?_
  refine t_ret1 rfl rfl (res_tmp rfl) (fun w' s => ?_)
  refine congrArg strV ?_
  simp [hdZ, lineZ, wRound, ruleW, rulesB]

set_option maxRecDepth 20000 in
theorem wr_h4 (u : Int) (es rs : List Int) (pt : Pt) (w : World) (hn : okZ u) (hg : Gl w) : Calls Tryz.prog 127 #[.iface 144 (shV ⟨u, 4, es, rs⟩ pt)] w (RetV w (strV (hdZ ⟨u, 4, es, rs⟩))) := by
  have hdl := decZ_len hn
  refine calls_T0 (av := [_]) Tryz.func127 rfl rfl rfl ?_
  refine t_seq ?_
  refine t_reg ?_
  refine to_as rfl rfl ?_
  refine to_nil ?_
  refine tn_code ?_
  refine t_seq ?_
  refine t_seq ?_
  refine t_reg ?_
  refine to_mv rfl rfl ?_
  refine to_nil ?_
  refine tn_code ?_
  refine t_blk ?_
  refine t_seq ?_
  refine t_reg ?_
  refine to_taT rfl rfl rfl ?_
  refine to_ex rfl rfl rfl ?_
  refine to_ex rfl rfl rfl ?_
  refine to_nil ?_
  refine tn_code ?_
  refine t_ifT rfl ?_
  refine t_seq ?_
  refine t_reg ?_
  refine to_alloc rfl (fun b3 => ?_)
  first | refine to_st rfl rfl rfl rfl ?_ | refine to_ste rfl rfl (by assumption) rfl rfl ?_
  refine to_nil ?_
  refine tn_code ?_
  refine t_seq ?_
  refine t_regD rfl (by kernel_rfl) (by kernel_rfl) ?_
  first | refine to_fa rfl rfl rfl (by simp only [Nat.reduceAdd]; rfl) rfl ?_ | refine to_fae rfl rfl rfl (by simp only [Nat.reduceAdd]; rfl) rfl ?_
  first | refine to_fa rfl rfl rfl (by simp only [Nat.reduceAdd]; rfl) rfl ?_ | refine to_fae rfl rfl rfl (by simp only [Nat.reduceAdd]; rfl) rfl ?_
  first | refine to_lds rfl rfl rfl ?_ | refine to_ldes rfl (by assumption) rfl rfl ?_
  refine to_call0 rfl rfl (fun w s => itoa_c u w hn (gl_up hg (belowH_of s))) rfl ?_
  refine to_sadd rfl rfl (by first | omega | (simp only [List.length_append, List.length_cons, List.length_nil]; omega)) rfl ?_
  refine to_sadd rfl rfl (by first | omega | (simp only [List.length_append, List.length_cons, List.length_nil]; omega)) rfl ?_
  refine to_call0 rfl rfl (fun w s => ruleWords_c w) rfl ?_
  first | refine to_fa rfl rfl rfl (by simp only [Nat.reduceAdd]; rfl) rfl ?_ | refine to_fae rfl rfl rfl (by simp only [Nat.reduceAdd]; rfl) rfl ?_
  first | refine to_fa rfl rfl rfl (by simp only [Nat.reduceAdd]; rfl) rfl ?_ | refine to_fae rfl rfl rfl (by simp only [Nat.reduceAdd]; rfl) rfl ?_
  first | refine to_lds rfl rfl rfl ?_ | refine to_ldes rfl (by assumption) rfl rfl ?_
  refine to_sub rfl rfl (by dsimp only; omega) rfl ?_
  refine to_ixa (k := 3) rfl rfl rfl (by decide) rfl rfl ?_
  refine to_sadd rfl rfl (by first | omega | (simp only [List.length_append, List.length_cons, List.length_nil]; omega)) rfl ?_
  refine to_as rfl rfl ?_
  refine to_nil ?_
  refine tn_code ?_
  refine t_ret1 rfl rfl (res_tmp rfl) (fun w' s => ?_)
  refine congrArg strV ?_
  simp [hdZ, lineZ, wRound, ruleW, rulesB]

set_option maxRecDepth 20000 in
theorem wr_g (n : Int) (w : World) (hn : okZ n) (hg : Gl w) : Calls Tryz.prog 127 #[.iface 147 (oneV n)] w (RetV w (strV (lineZ wGuard n))) := by
  have hdl := decZ_len hn
  refine calls_T0 (av := [_]) Tryz.func127 rfl rfl rfl ?_
  refine t_seq ?_
  refine t_reg ?_
  refine to_as rfl rfl ?_
  refine to_nil ?_
  refine tn_code ?_
  refine t_seq ?_
  refine t_seq ?_
  refine t_reg ?_
  refine to_mv rfl rfl ?_
  refine to_nil ?_
  refine tn_code ?_
  refine t_blk ?_
  refine t_seq ?_
  refine t_reg ?_
  refine to_taF rfl rfl rfl rfl rfl ?_
  refine to_ex rfl rfl rfl ?_
  refine to_ex rfl rfl rfl ?_
  refine to_nil ?_
  refine tn_code ?_
  refine t_ifF rfl ?_
  refine t_seq ?_
  refine t_reg ?_
  refine to_taT rfl rfl rfl ?_
  refine to_ex rfl rfl rfl ?_
  refine to_ex rfl rfl rfl ?_
  refine to_nil ?_
  refine tn_code ?_
  refine t_ifT rfl ?_
  refine t_seq ?_
  refine t_reg ?_
  refine to_alloc rfl (fun b4 => ?_)
  first | refine to_st rfl rfl rfl rfl ?_ | refine to_ste rfl rfl (by assumption) rfl rfl ?_
  refine to_nil ?_
  refine tn_code ?_
  refine t_seq ?_
  refine t_reg ?_
  first | refine to_fa rfl rfl rfl (by simp only [Nat.reduceAdd]; rfl) rfl ?_ | refine to_fae rfl rfl rfl (by simp only [Nat.reduceAdd]; rfl) rfl ?_
  first | refine to_lds rfl rfl rfl ?_ | refine to_ldes rfl (by assumption) rfl rfl ?_
  refine to_call0 rfl rfl (fun w s => itoa_c n w hn (gl_up hg (belowH_of s))) rfl ?_
  refine to_sadd rfl rfl (by first | omega | (simp only [List.length_append, List.length_cons, List.length_nil]; omega)) rfl ?_
  refine to_as rfl rfl ?_
  refine to_nil ?_
  refine tn_code ?_
  refine t_ret1 rfl rfl (res_tmp rfl) (fun w' s => ?_)
  rfl

set_option maxRecDepth 20000 in
theorem wr_r (n : Int) (w : World) (hn : okZ n) (hg : Gl w) : Calls Tryz.prog 127 #[.iface 149 (oneV n)] w (RetV w (strV (lineZ wRow n))) := by
  have hdl := decZ_len hn
  refine calls_T0 (av := [_]) Tryz.func127 rfl rfl rfl ?_
  refine t_seq ?_
  refine t_reg ?_
  refine to_as rfl rfl ?_
  refine to_nil ?_
  refine tn_code ?_
  refine t_seq ?_
  refine t_seq ?_
  refine t_reg ?_
  refine to_mv rfl rfl ?_
  refine to_nil ?_
  refine tn_code ?_
  refine t_blk ?_
  refine t_seq ?_
  refine t_reg ?_
  refine to_taF rfl rfl rfl rfl rfl ?_
  refine to_ex rfl rfl rfl ?_
  refine to_ex rfl rfl rfl ?_
  refine to_nil ?_
  refine tn_code ?_
  refine t_ifF rfl ?_
  refine t_seq ?_
  refine t_reg ?_
  refine to_taF rfl rfl rfl rfl rfl ?_
  refine to_ex rfl rfl rfl ?_
  refine to_ex rfl rfl rfl ?_
  refine to_nil ?_
  refine tn_code ?_
  refine t_ifF rfl ?_
  refine t_seq ?_
  refine t_reg ?_
  refine to_taT rfl rfl rfl ?_
  refine to_ex rfl rfl rfl ?_
  refine to_ex rfl rfl rfl ?_
  refine to_nil ?_
  refine tn_code ?_
  refine t_ifT rfl ?_
  refine t_seq ?_
  refine t_reg ?_
  refine to_alloc rfl (fun b5 => ?_)
  first | refine to_st rfl rfl rfl rfl ?_ | refine to_ste rfl rfl (by assumption) rfl rfl ?_
  refine to_nil ?_
  refine tn_code ?_
  refine t_seq ?_
  refine t_reg ?_
  first | refine to_fa rfl rfl rfl (by simp only [Nat.reduceAdd]; rfl) rfl ?_ | refine to_fae rfl rfl rfl (by simp only [Nat.reduceAdd]; rfl) rfl ?_
  first | refine to_lds rfl rfl rfl ?_ | refine to_ldes rfl (by assumption) rfl rfl ?_
  refine to_call0 rfl rfl (fun w s => itoa_c n w hn (gl_up hg (belowH_of s))) rfl ?_
  refine to_sadd rfl rfl (by first | omega | (simp only [List.length_append, List.length_cons, List.length_nil]; omega)) rfl ?_
  refine to_as rfl rfl ?_
  refine to_nil ?_
  refine tn_code ?_
  refine t_ret1 rfl rfl (res_tmp rfl) (fun w' s => ?_)
  rfl

theorem wr_hd (s : Sh) (pt : Pt) (w : World) (hn : numsZ s) (hg : Gl w) : Calls Tryz.prog 127 #[.iface 144 (shV s pt)] w (RetV w (strV (hdZ s))) := by
  have h1 := hn.1
  have h2 := hn.2.1
  obtain ⟨u, r, es, rs⟩ := s
  simp only at h1 h2
  obtain rfl | rfl | rfl | rfl : r = 1 ∨ r = 2 ∨ r = 3 ∨ r = 4 := by omega
  · exact wr_h1 u es rs pt w h1 hg
  · exact wr_h2 u es rs pt w h1 hg
  · exact wr_h3 u es rs pt w h1 hg
  · exact wr_h4 u es rs pt w h1 hg
/-- The lines as interface values. -/
def ifG (n : Int) : List Value := [.iface 147 (oneV n)]
def ifR (n : Int) : List Value := [.iface 149 (oneV n)]
def ifsG (s : Sh) (pt : Pt) (k : Nat) : List (List Value) := [.iface 144 (shV s pt)] :: (s.errs.take k).map ifG
def ifsR (s : Sh) (pt : Pt) (k : Nat) : List (List Value) := ifsG s pt s.errs.length ++ (s.rows.take k).map ifR
theorem ifsG_succ {s : Sh} {pt : Pt} {k : Nat} {n : Int} (h : s.errs[k]? = some n) : ifsG s pt (k + 1) = ifsG s pt k ++ [[.iface 147 (oneV n)]] := by
  simp only [ifsG, take_snoc h, List.map_append, List.cons_append]; rfl
theorem ifsR_succ {s : Sh} {pt : Pt} {k : Nat} {n : Int} (h : s.rows[k]? = some n) : ifsR s pt (k + 1) = ifsR s pt k ++ [[.iface 149 (oneV n)]] := by
  simp only [ifsR, take_snoc h, List.map_append, List.append_assoc]; rfl
theorem ifs_at {s : Sh} {pt : Pt} (hn : numsZ s) {i : Nat} (hi : i < s.errs.length + 1 + s.rows.length) : ∃ v wd, (ifsR s pt s.rows.length)[i]? = some [v] ∧ (rowsZ s)[i]? = some wd ∧ scal v = true ∧ ∀ w, Gl w → Calls Tryz.prog 127 #[v] w (RetV w (strV wd)) := by
  by_cases h0 : i = 0
  · subst h0; exact ⟨_, _, rfl, rfl, rfl, fun w hg => wr_hd s pt w hn hg⟩
  · obtain ⟨j, rfl⟩ : ∃ j, i = j + 1 := ⟨i - 1, by omega⟩
    by_cases hj : j < s.errs.length
    · obtain ⟨n, hnj⟩ := some_get (xs := s.errs) (k := j) hj
      refine ⟨.iface 147 (oneV n), lineZ wGuard n, ?_, ?_, rfl, fun w hg => wr_g n w (hn.2.2.1 n (List.mem_of_getElem? hnj)) hg⟩
      · simp only [ifsR, ifsG, List.take_length, List.cons_append, List.getElem?_cons_succ]
        rw [List.getElem?_append_left (by simpa using hj), List.getElem?_map, hnj]; rfl
      · simp only [rowsZ, List.getElem?_cons_succ]
        rw [List.getElem?_append_left (by simpa using hj), List.getElem?_map, hnj]; rfl
    · obtain ⟨n, hnj⟩ := some_get (xs := s.rows) (k := j - s.errs.length) (by omega)
      refine ⟨.iface 149 (oneV n), lineZ wRow n, ?_, ?_, rfl, fun w hg => wr_r n w (hn.2.2.2.1 n (List.mem_of_getElem? hnj)) hg⟩
      · simp only [ifsR, ifsG, List.take_length, List.cons_append, List.getElem?_cons_succ]
        rw [List.getElem?_append_right (by simpa using hj), List.length_map, List.getElem?_map, hnj]; rfl
      · simp only [rowsZ, List.getElem?_cons_succ]
        rw [List.getElem?_append_right (by simpa using hj), List.length_map, List.getElem?_map, hnj]; rfl

set_option maxRecDepth 20000 in
theorem r_text (s : Sh) (pt : Pt) (w : World) (hre : Ro w 0 w.heap.size pt.ea s.errs.length pt.ec 1 (ints s.errs)) (hrr : Ro w 0 w.heap.size pt.ra s.rows.length pt.rc 1 (ints s.rows)) (hn : numsZ s) (hg : Gl w) : Calls Tryz.prog 121 #[shV s pt] w (RetV w (strV (textZ s))) := by
  have hnl := hn.2.2.2.2
  have hrl := rowsZ_len s
  have hre0 := rowsZ_each hn
  have hre : ∀ w ∈ rowsZ s, w.length ≤ 100 := fun w hw => Nat.le_trans (hre0 w hw) (by decide)
  refine calls_T0 (av := [_]) Tryz.func121 rfl rfl rfl ?_
  refine t_seq ?_
  refine t_reg ?_
  refine to_box rfl rfl (fun b1 => ?_)
  refine to_as rfl rfl ?_
  refine to_nil ?_
  refine tn_code ?_
  refine t_seq ?_
  refine t_reg ?_
  first | refine to_lda rfl rfl rfl ?_ | refine to_ldea rfl (by assumption) rfl rfl ?_
  refine to_bs rfl rfl ?_
  refine to_mi rfl rfl rfl ?_
  refine to_bsl rfl rfl rfl rfl (fun a17 => ?_)
  refine to_as rfl rfl ?_
  refine to_nil ?_
  refine tn_code ?_
  refine t_seq ?_
  refine t_seq ?_
  refine t_reg ?_
  first | refine to_fa rfl rfl rfl (by simp only [Nat.reduceAdd]; rfl) rfl ?_ | refine to_fae rfl rfl rfl (by simp only [Nat.reduceAdd]; rfl) rfl ?_
  first | refine to_lds rfl rfl rfl ?_ | refine to_ldes rfl (by assumption) rfl rfl ?_
  refine to_lenS rfl rfl ?_
  refine to_mv rfl rfl ?_
  refine to_nil ?_
  refine tn_code ?_
  refine t_blk ?_
  refine t_loop2 (ι := Nat × Option Addr × Nat) (fun ((k, a', c') : Nat × Option Addr × Nat) => k ≤ s.errs.length) (fun ((k, a', c') : Nat × Option Addr × Nat) => [(1, (.pointer (some ⟨b1, 0, none⟩))), (3, .slice a' (k + 1) c'), (19, .slice pt.ea s.errs.length pt.ec), (20, .int .i64 (s.errs.length : Int)), (21, .int .i64 (k : Int))]) (fun ((k, a', c') : Nat × Option Addr × Nat) => [.row a' (k + 1) c' 151 1 (ifsG s pt k), .own b1 (isC (shC s pt) 33), .snap 0 w.heap.size w]) (fun ((k, a', c') : Nat × Option Addr × Nat) => s.errs.length - k) ((0, a17, 1)) [.row a17 1 1 151 1 [[.iface 144 (shV s pt)]], .own b1 (isC (shC s pt) 33), .snap 0 w.heap.size w] (rfl) (Nat.zero_le _) (⟨rfl, rfl, rfl, rfl, rfl, trivial⟩) ?_
  rintro ⟨k, a', c'⟩ hk
  try dsimp only at hk
  show T _ _ _ ⟨_, [(1, (.pointer (some ⟨b1, 0, none⟩))), (3, .slice a' (k + 1) c'), (19, .slice pt.ea s.errs.length pt.ec), (20, .int .i64 (s.errs.length : Int)), (21, .int .i64 (k : Int))], _⟩ [.row a' (k + 1) c' 151 1 (ifsG s pt k), .own b1 (isC (shC s pt) 33), .snap 0 w.heap.size w]
  refine t_seq ?_
  refine t_reg ?_
  refine to_lss rfl rfl rfl ?_
  refine to_nil ?_
  refine tn_code ?_
  refine t_seq ?_
  refine t_if rfl (fun h1 => ?_) (fun h1 => ?_)
  · try simp only [decide_eq_true_eq, decide_eq_false_iff_not, Bool.not_eq_true', Bool.not_eq_false', Int.not_lt, Int.not_le, ne_eq, Decidable.not_not] at h1
    try have h1b := inB_iff.1 h1
    obtain ⟨n, hnk⟩ := some_get (xs := s.errs) (k := k) (by omega)
    have hx := map_get (f := intC) hnk
    refine t_skip ?_
    refine tn_code ?_
    refine t_seq ?_
    refine t_blk ?_
    refine t_seq ?_
    refine t_reg ?_
    first | refine to_ix rfl rfl rfl (by first | omega | decide) (by first | omega | decide) rfl ?_ | refine to_ixi rfl rfl rfl (by omega) (by omega) (by omega) rfl ?_
    first | refine to_lds rfl rfl rfl ?_ | refine to_ldes rfl (by assumption) rfl rfl ?_
    refine to_as rfl rfl ?_
    refine to_nil ?_
    refine tn_code ?_
    refine t_reg ?_
    refine to_mv rfl rfl ?_
    refine to_mv rfl rfl ?_
    refine to_bs rfl rfl ?_
    refine to_mi rfl rfl rfl ?_
    refine to_bsl rfl rfl rfl rfl (fun a29 => ?_)
    refine to_app rfl rfl rfl (by simp [scals, scal]) (by decide) (by omega) (by decide) rfl (fun a30 c30 => ?_)
    refine to_as rfl rfl ?_
    refine to_nil ?_
    refine tn_blk ?_
    refine tn_code ?_
    refine t_reg ?_
    refine to_add rfl rfl (by omega) rfl ?_
    refine to_mv rfl rfl ?_
    refine to_nil ?_
    exact tn_loop2 ((k + 1, a30, c30)) [.row a30 (k + 1 + 1) c30 151 1 (ifsG s pt k ++ [[.iface 147 (oneV n)]]), .own b1 (isC (shC s pt) 33), .snap 0 w.heap.size w] (by dsimp only; rw [ifsG_succ hnk]) (by dsimp only; omega) (by dsimp only; omega) (⟨rfl, rfl, rfl, rfl, rfl, trivial⟩)
  · try simp only [decide_eq_true_eq, decide_eq_false_iff_not, Bool.not_eq_true', Bool.not_eq_false', Int.not_lt, Int.not_le, ne_eq, Decidable.not_not] at h1
    try have h1b := inB_iff.1 h1
    have hk2 : k = s.errs.length := by omega
    subst hk2
    refine t_exit ?_
    refine tx_code ?_
    refine tx_inv ?_
    refine tx_blk ?_
    refine tn_code ?_
    refine t_seq ?_
    refine t_seq ?_
    refine t_reg ?_
    first | refine to_fa rfl rfl rfl (by simp only [Nat.reduceAdd]; rfl) rfl ?_ | refine to_fae rfl rfl rfl (by simp only [Nat.reduceAdd]; rfl) rfl ?_
    first | refine to_lds rfl rfl rfl ?_ | refine to_ldes rfl (by assumption) rfl rfl ?_
    refine to_lenS rfl rfl ?_
    refine to_mv rfl rfl ?_
    refine to_nil ?_
    refine tn_code ?_
    refine t_blk ?_
    refine t_loop2 (ι := Nat × Option Addr × Nat) (fun ((k, a', c') : Nat × Option Addr × Nat) => k ≤ s.rows.length) (fun ((k, a', c') : Nat × Option Addr × Nat) => [(1, (.pointer (some ⟨b1, 0, none⟩))), (3, .slice a' (s.errs.length + 1 + k) c'), (33, .slice pt.ra s.rows.length pt.rc), (34, .int .i64 (s.rows.length : Int)), (35, .int .i64 (k : Int))]) (fun ((k, a', c') : Nat × Option Addr × Nat) => [.row a' (s.errs.length + 1 + k) c' 151 1 (ifsR s pt k), .own b1 (isC (shC s pt) 33), .snap 0 w.heap.size w]) (fun ((k, a', c') : Nat × Option Addr × Nat) => s.rows.length - k) ((0, a', c')) [.row a' (s.errs.length + 1) c' 151 1 (ifsG s pt s.errs.length), .own b1 (isC (shC s pt) 33), .snap 0 w.heap.size w] (by simp [ifsR]) (Nat.zero_le _) (⟨rfl, rfl, rfl, rfl, rfl, trivial⟩) ?_
    rintro ⟨k, a', c'⟩ hk
    try dsimp only at hk
    show T _ _ _ ⟨_, [(1, (.pointer (some ⟨b1, 0, none⟩))), (3, .slice a' (s.errs.length + 1 + k) c'), (33, .slice pt.ra s.rows.length pt.rc), (34, .int .i64 (s.rows.length : Int)), (35, .int .i64 (k : Int))], _⟩ [.row a' (s.errs.length + 1 + k) c' 151 1 (ifsR s pt k), .own b1 (isC (shC s pt) 33), .snap 0 w.heap.size w]
    refine t_seq ?_
    refine t_reg ?_
    refine to_lss rfl rfl rfl ?_
    refine to_nil ?_
    refine tn_code ?_
    refine t_seq ?_
    refine t_if rfl (fun h2 => ?_) (fun h2 => ?_)
    · try simp only [decide_eq_true_eq, decide_eq_false_iff_not, Bool.not_eq_true', Bool.not_eq_false', Int.not_lt, Int.not_le, ne_eq, Decidable.not_not] at h2
      try have h2b := inB_iff.1 h2
      obtain ⟨n, hnk⟩ := some_get (xs := s.rows) (k := k) (by omega)
      have hx := map_get (f := intC) hnk
      refine t_skip ?_
      refine tn_code ?_
      refine t_seq ?_
      refine t_blk ?_
      refine t_seq ?_
      refine t_reg ?_
      first | refine to_ix rfl rfl rfl (by first | omega | decide) (by first | omega | decide) rfl ?_ | refine to_ixi rfl rfl rfl (by omega) (by omega) (by omega) rfl ?_
      first | refine to_lds rfl rfl rfl ?_ | refine to_ldes rfl (by assumption) rfl rfl ?_
      refine to_as rfl rfl ?_
      refine to_nil ?_
      refine tn_code ?_
      refine t_reg ?_
      refine to_mv rfl rfl ?_
      refine to_mv rfl rfl ?_
      refine to_bs rfl rfl ?_
      refine to_mi rfl rfl rfl ?_
      refine to_bsl rfl rfl rfl rfl (fun a43 => ?_)
      refine to_app rfl rfl rfl (by simp [scals, scal]) (by decide) (by omega) (by decide) rfl (fun a44 c44 => ?_)
      refine to_as rfl rfl ?_
      refine to_nil ?_
      refine tn_blk ?_
      refine tn_code ?_
      refine t_reg ?_
      refine to_add rfl rfl (by omega) rfl ?_
      refine to_mv rfl rfl ?_
      refine to_nil ?_
      exact tn_loop2 ((k + 1, a44, c44)) [.row a44 (s.errs.length + 1 + k + 1) c44 151 1 (ifsR s pt k ++ [[.iface 149 (oneV n)]]), .own b1 (isC (shC s pt) 33), .snap 0 w.heap.size w] (by dsimp only; rw [ifsR_succ hnk]; rfl) (by dsimp only; omega) (by dsimp only; omega) (⟨rfl, rfl, rfl, rfl, rfl, trivial⟩)
    · try simp only [decide_eq_true_eq, decide_eq_false_iff_not, Bool.not_eq_true', Bool.not_eq_false', Int.not_lt, Int.not_le, ne_eq, Decidable.not_not] at h2
      try have h2b := inB_iff.1 h2
      have hk2 : k = s.rows.length := by omega
      subst hk2
      refine t_exit ?_
      refine tx_code ?_
      refine tx_inv ?_
      refine tx_blk ?_
      refine tn_code ?_
      refine t_seq ?_
      refine t_reg ?_
      refine to_as rfl rfl ?_
      refine to_as rfl rfl ?_
      refine to_nil ?_
      refine tn_code ?_
      refine t_seq ?_
      refine t_seq ?_
      refine t_reg ?_
      refine to_mv rfl rfl ?_
      refine to_lenS rfl rfl ?_
      refine to_mv rfl rfl ?_
      refine to_nil ?_
      refine tn_code ?_
      refine t_blk ?_
      refine t_loop2 (ι := Nat) (fun i => i ≤ (rowsZ s).length) (fun i => [(8, strV (linesT (rowsZ s) i)), (9, .int .i64 (chkR (rowsZ s) i)), (46, .slice a' (s.errs.length + 1 + s.rows.length) c'), (47, .int .i64 (((s.errs.length + 1 + s.rows.length) : Nat) : Int)), (48, .int .i64 (i : Int))]) (fun i => [.row a' (s.errs.length + 1 + s.rows.length) c' 151 1 (ifsR s pt s.rows.length), .own b1 (isC (shC s pt) 33), .snap 0 w.heap.size w]) (fun i => (rowsZ s).length - i) (0) [.row a' (s.errs.length + 1 + s.rows.length) c' 151 1 (ifsR s pt s.rows.length), .own b1 (isC (shC s pt) 33), .snap 0 w.heap.size w] (rfl) (Nat.zero_le _) (⟨rfl, rfl, rfl, rfl, rfl, trivial⟩) ?_
      rintro i hk
      show T _ _ _ ⟨_, [(8, strV (linesT (rowsZ s) i)), (9, .int .i64 (chkR (rowsZ s) i)), (46, .slice a' (s.errs.length + 1 + s.rows.length) c'), (47, .int .i64 (((s.errs.length + 1 + s.rows.length) : Nat) : Int)), (48, .int .i64 (i : Int))], _⟩ [.row a' (s.errs.length + 1 + s.rows.length) c' 151 1 (ifsR s pt s.rows.length), .own b1 (isC (shC s pt) 33), .snap 0 w.heap.size w]
      refine t_seq ?_
      refine t_reg ?_
      refine to_lss rfl rfl rfl ?_
      refine to_nil ?_
      refine tn_code ?_
      refine t_seq ?_
      refine t_if rfl (fun h3 => ?_) (fun h3 => ?_)
      · try simp only [decide_eq_true_eq, decide_eq_false_iff_not, Bool.not_eq_true', Bool.not_eq_false', Int.not_lt, Int.not_le, ne_eq, Decidable.not_not] at h3
        try have h3b := inB_iff.1 h3
        obtain ⟨v, wd, hx, hw, hvs, hcw⟩ := ifs_at (pt := pt) hn (i := i) (by omega)
        have hwl := hre wd (List.mem_of_getElem? hw)
        have hll := linesT_len hre i (by omega)
        have hrb := chkR_b hre i (by omega) (by omega)
        refine t_skip ?_
        refine tn_code ?_
        refine t_seq ?_
        refine t_blk ?_
        refine t_seq ?_
        refine t_reg ?_
        refine to_mv rfl rfl ?_
        first | refine to_ix rfl rfl rfl (by first | omega | decide) (by first | omega | decide) rfl ?_ | refine to_ixi rfl rfl rfl (by omega) (by omega) (by omega) rfl ?_
        first | refine to_lds rfl rfl rfl ?_ | refine to_ldes rfl (by assumption) rfl rfl ?_
        refine to_as rfl rfl ?_
        refine to_as rfl rfl ?_
        refine to_nil ?_
        refine tn_code ?_
        refine t_seq ?_
        refine t_reg ?_
        refine to_mv rfl rfl ?_
        refine to_call0 rfl rfl (fun w s => hcw w (gl_up hg (belowH_of s))) rfl ?_
        refine to_as rfl rfl ?_
        refine to_nil ?_
        refine tn_code ?_
        refine t_seq ?_
        refine t_seq ?_
        refine t_reg ?_
        refine to_mv rfl rfl ?_
        refine to_lenL rfl rfl ?_
        refine to_mv rfl rfl ?_
        refine to_nil ?_
        refine tn_code ?_
        refine t_blk ?_
        refine t_loop2 (ι := Nat) (fun k => k ≤ wd.length) (fun k => [(8, strV (linesT (rowsZ s) i)), (9, .int .i64 (chkR (rowsZ s) i + chkC i wd k)), (10, .int .i64 (i : Int)), (12, strV wd), (46, .slice a' (s.errs.length + 1 + s.rows.length) c'), (47, .int .i64 (((s.errs.length + 1 + s.rows.length) : Nat) : Int)), (48, .int .i64 (i : Int)), (56, .int .i64 (wd.length : Int)), (57, .int .i64 (k : Int))]) (fun k => [.row a' (s.errs.length + 1 + s.rows.length) c' 151 1 (ifsR s pt s.rows.length), .own b1 (isC (shC s pt) 33), .snap 0 w.heap.size w]) (fun k => wd.length - k) (0) [.row a' (s.errs.length + 1 + s.rows.length) c' 151 1 (ifsR s pt s.rows.length), .own b1 (isC (shC s pt) 33), .snap 0 w.heap.size w] (rfl) (Nat.zero_le _) (⟨rfl, congrArg (fun z => some (Value.int .i64 z)) (Int.add_zero _).symm, rfl, rfl, rfl, rfl, rfl, rfl, rfl, trivial⟩) ?_
        rintro k hk
        show T _ _ _ ⟨_, [(8, strV (linesT (rowsZ s) i)), (9, .int .i64 (chkR (rowsZ s) i + chkC i wd k)), (10, .int .i64 (i : Int)), (12, strV wd), (46, .slice a' (s.errs.length + 1 + s.rows.length) c'), (47, .int .i64 (((s.errs.length + 1 + s.rows.length) : Nat) : Int)), (48, .int .i64 (i : Int)), (56, .int .i64 (wd.length : Int)), (57, .int .i64 (k : Int))], _⟩ [.row a' (s.errs.length + 1 + s.rows.length) c' 151 1 (ifsR s pt s.rows.length), .own b1 (isC (shC s pt) 33), .snap 0 w.heap.size w]
        refine t_seq ?_
        refine t_reg ?_
        refine to_lss rfl rfl rfl ?_
        refine to_nil ?_
        refine tn_code ?_
        refine t_seq ?_
        refine t_if rfl (fun h4 => ?_) (fun h4 => ?_)
        · try simp only [decide_eq_true_eq, decide_eq_false_iff_not, Bool.not_eq_true', Bool.not_eq_false', Int.not_lt, Int.not_le, ne_eq, Decidable.not_not] at h4
          try have h4b := inB_iff.1 h4
          obtain ⟨cc, hc⟩ := some_get (xs := wd) (k := k) (by omega)
          have hcu := u8_le cc
          have hm1 := mul_bd (a := ((cc.toNat : Nat) : Int)) (b := (k : Int) + 1) (B := 255) (C := 100) (by omega) (by omega) (by omega) (by omega)
          have hm2 := mul_bd (a := ((cc.toNat : Nat) : Int) * ((k : Int) + 1)) (b := (i : Int) + 1) (B := 25500) (C := 1001) (by omega) (by omega) (by omega) (by omega)
          have hcb := chkC_b (i := i) (w := wd) (by omega) k (by omega)
          refine t_skip ?_
          refine tn_code ?_
          refine t_seq ?_
          refine t_blk ?_
          refine t_seq ?_
          refine t_reg ?_
          refine to_mv rfl rfl ?_
          refine to_as rfl rfl ?_
          refine to_nil ?_
          refine tn_code ?_
          refine t_reg ?_
          refine to_mv rfl rfl ?_
          refine to_mv rfl rfl ?_
          refine to_mv rfl rfl ?_
          refine to_sidx rfl rfl (by assumption) rfl ?_
          refine to_cv rfl (by first | exact wrap_id (by omega) | exact IntWalk.u8_in _ (by omega) | exact IntWalk.i32_in _ (by omega)) rfl ?_
          refine to_mv rfl rfl ?_
          refine to_add rfl rfl (by omega) rfl ?_
          refine to_mul rfl rfl (by first | omega | exact mul_ok (by omega) (by omega) (by omega) (by omega)) rfl ?_
          refine to_mv rfl rfl ?_
          refine to_add rfl rfl (by omega) rfl ?_
          refine to_mul rfl rfl (by first | omega | exact mul_ok (by omega) (by omega) (by omega) (by omega)) rfl ?_
          refine to_add rfl rfl (by omega) rfl ?_
          refine to_as rfl rfl ?_
          refine to_nil ?_
          refine tn_blk ?_
          refine tn_code ?_
          refine t_reg ?_
          refine to_add rfl rfl (by omega) rfl ?_
          refine to_mv rfl rfl ?_
          refine to_nil ?_
          exact tn_loop2 (k + 1) [.row a' (s.errs.length + 1 + s.rows.length) c' 151 1 (ifsR s pt s.rows.length), .own b1 (isC (shC s pt) 33), .snap 0 w.heap.size w] (rfl) (by omega) (by omega) (⟨rfl, congrArg (fun z => some (Value.int .i64 z)) (by rw [chkC_succ hc, Int.add_assoc]), rfl, rfl, rfl, rfl, rfl, rfl, rfl, trivial⟩)
        · try simp only [decide_eq_true_eq, decide_eq_false_iff_not, Bool.not_eq_true', Bool.not_eq_false', Int.not_lt, Int.not_le, ne_eq, Decidable.not_not] at h4
          try have h4b := inB_iff.1 h4
          have hk2 : k = wd.length := by omega
          subst hk2
          have hcb := chkC_b (i := i) (w := wd) (by omega) wd.length (by omega)
          refine t_exit ?_
          refine tx_code ?_
          refine tx_inv ?_
          refine tx_blk ?_
          refine tn_code ?_
          refine t_reg ?_
          refine to_mv rfl rfl ?_
          refine to_mv rfl rfl ?_
          refine to_sadd rfl rfl (by first | omega | (simp only [List.length_append, List.length_cons, List.length_nil]; omega)) rfl ?_
          refine to_sadd rfl rfl (by first | omega | (simp only [List.length_append, List.length_cons, List.length_nil]; omega)) rfl ?_
          refine to_as rfl rfl ?_
          refine to_nil ?_
          refine tn_blk ?_
          refine tn_code ?_
          refine t_reg ?_
          refine to_add rfl rfl (by omega) rfl ?_
          refine to_mv rfl rfl ?_
          refine to_nil ?_
          exact tn_loop2 (i + 1) [.row a' (s.errs.length + 1 + s.rows.length) c' 151 1 (ifsR s pt s.rows.length), .own b1 (isC (shC s pt) 33), .snap 0 w.heap.size w] (rfl) (by omega) (by omega) (⟨congrArg (fun z => some (strV z)) (linesT_succ hw).symm, congrArg (fun z => some (Value.int .i64 z)) (chkR_succ hw).symm, rfl, rfl, rfl, trivial⟩)
      · try simp only [decide_eq_true_eq, decide_eq_false_iff_not, Bool.not_eq_true', Bool.not_eq_false', Int.not_lt, Int.not_le, ne_eq, Decidable.not_not] at h3
        try have h3b := inB_iff.1 h3
        have hi2 : i = (rowsZ s).length := by omega
        subst hi2
        have hll := linesT_len hre (rowsZ s).length (Nat.le_refl _)
        have hrb := chkR_b hre (rowsZ s).length (Nat.le_refl _) (by omega)
        have hd1 := decZ_len (n := chkR (rowsZ s) (rowsZ s).length % 239 / 100) (by unfold okZ; omega)
        have hd2 := decZ_len (n := chkR (rowsZ s) (rowsZ s).length % 239 / 10 % 10) (by unfold okZ; omega)
        have hd3 := decZ_len (n := chkR (rowsZ s) (rowsZ s).length % 239 % 10) (by unfold okZ; omega)
        refine t_exit ?_
        refine tx_code ?_
        refine tx_inv ?_
        refine tx_blk ?_
        refine tn_code ?_
        refine t_seq ?_
        refine t_reg ?_
        refine to_mv rfl rfl ?_
        refine to_rem rfl rfl (by omega) (by omega) rfl ?_
        refine to_as rfl rfl ?_
        refine to_nil ?_
        refine tn_code ?_
        refine t_seq ?_
        refine t_reg ?_
        refine to_mv rfl rfl ?_
        refine to_sadd rfl rfl (by first | omega | (simp only [List.length_append, List.length_cons, List.length_nil]; omega)) rfl ?_
        refine to_mv rfl rfl ?_
        refine to_quo rfl rfl (by omega) (by omega) rfl ?_
        refine to_call0 rfl rfl (fun w s => itoa_c _ w (by unfold okZ; omega) (gl_up hg (belowH_of s))) rfl ?_
        refine to_sadd rfl rfl (by first | omega | (simp only [List.length_append, List.length_cons, List.length_nil]; omega)) rfl ?_
        refine to_mv rfl rfl ?_
        refine to_quo rfl rfl (by omega) (by omega) rfl ?_
        refine to_rem rfl rfl (by omega) (by omega) rfl ?_
        refine to_call0 rfl rfl (fun w s => itoa_c _ w (by unfold okZ; omega) (gl_up hg (belowH_of s))) rfl ?_
        refine to_sadd rfl rfl (by first | omega | (simp only [List.length_append, List.length_cons, List.length_nil]; omega)) rfl ?_
        refine to_mv rfl rfl ?_
        refine to_rem rfl rfl (by omega) (by omega) rfl ?_
        refine to_call0 rfl rfl (fun w s => itoa_c _ w (by unfold okZ; omega) (gl_up hg (belowH_of s))) rfl ?_
        refine to_sadd rfl rfl (by first | omega | (simp only [List.length_append, List.length_cons, List.length_nil]; omega)) rfl ?_
        refine to_sadd rfl rfl (by first | omega | (simp only [List.length_append, List.length_cons, List.length_nil]; omega)) rfl ?_
        refine to_as rfl rfl ?_
        refine to_nil ?_
        refine tn_code ?_
        refine t_ret1 rfl rfl (res_tmp rfl) (fun w' s => ?_)
        rfl

end Go.Proofs


namespace Go.Proofs
open Go Go.Sx Go.RowKit

def ParP (tx : Bs) (w : World) : Ending → World → Prop := fun e w' => RowKit.Below w.heap.size w w' ∧ ((∃ (x : Sh) (pt : Pt), parseZ tx = some x ∧ e = .returned (shV x pt) ∧ Ro w' w.heap.size w'.heap.size pt.ea x.errs.length pt.ec 1 (ints x.errs) ∧ Ro w' w.heap.size w'.heap.size pt.ra x.rows.length pt.rc 1 (ints x.rows)) ∨ (parseZ tx = none ∧ ∃ z, e = .panicked (pan 128 (.agg [.string z].toArray))))
theorem getD_at {xs : List Bs} {k : Nat} {y : Bs} (h : xs[k]? = some y) : xs.getD k [] = y := by simp [List.getD, h]
theorem ruleN_b2 {w : Bs} (h : rulesB.contains w = true) : 0 ≤ idxI (fun y => w == y) rulesB ∧ idxI (fun y => w == y) rulesB ≤ 3 := by
  have := ruleN_b h
  simp only [ruleN] at this; omega
theorem idx_bd {α : Type} (p : α → Bool) : ∀ xs : List α, -1 ≤ idxI p xs ∧ idxI p xs ≤ xs.length - 1 := by
  intro xs
  by_cases hn : ∃ j : Nat, j < xs.length ∧ ∃ a, xs[j]? = some a ∧ p a = true
  · have hex : ∃ j : Nat, (j < xs.length ∧ ∃ a, xs[j]? = some a ∧ p a = true) ∧ ∀ i, i < j → ∀ a, xs[i]? = some a → p a = false := by
      obtain ⟨j, hj⟩ := hn
      induction j using Nat.strongRecOn with
      | _ j ih =>
        by_cases hc : ∃ i, i < j ∧ ∃ a, xs[i]? = some a ∧ p a = true
        · obtain ⟨i, h1, h2⟩ := hc
          exact ih i h1 ⟨by omega, h2⟩
        · refine ⟨j, hj, fun i hi a ha => ?_⟩
          cases hq : p a with
          | false => rfl
          | true => exact absurd ⟨i, hi, a, ha, hq⟩ hc
    obtain ⟨j, ⟨hj, a, ha, hpa⟩, hmin⟩ := hex
    rw [idxI_found hmin ha hpa]; omega
  · rw [idxI_none (p := p) (fun j hj y hy => by
      cases hq : p y with
      | false => rfl
      | true => exact absurd ⟨j, hj, y, hy, hq⟩ hn)]
    omega

set_option maxRecDepth 20000 in
theorem c_parsed (tx : Bs) (w : World) (hls : tx.length ≤ 500) (hg : Gl w) : Calls Tryz.prog 100 #[strV tx] w (ParP tx w) := by
  have hsl := splitL_len 10 tx
  refine calls_TG (av := [_]) Tryz.func100 rfl rfl rfl (St.start w) ?_
  refine t_seq ?_
  refine t_reg ?_
  refine to_alloc rfl (fun b2 => ?_)
  refine to_nil ?_
  refine tn_code ?_
  refine t_seq ?_
  refine t_reg ?_
  refine to_mv rfl rfl ?_
  refine to_callR rfl rfl (fun w s => split_c tx 10 w (by omega) (gl_up hg (belowH_of s))) rfl (fun v10 lo10 w10 hlo10 hR10 => ?_)
  obtain ⟨a10, c10, rfl, hro10⟩ := hR10
  refine to_as rfl rfl ?_
  refine to_nil ?_
  refine tn_code ?_
  refine t_seq ?_
  refine t_reg ?_
  refine to_mv rfl rfl ?_
  refine to_lenS rfl rfl ?_
  refine to_geq rfl rfl rfl ?_
  refine to_mv rfl rfl ?_
  refine to_bc (s := 13) rfl (fun h1 => ?_) (fun h1 => ?_)
  · try simp only [decide_eq_true_eq, decide_eq_false_iff_not, Bool.not_eq_true', Bool.not_eq_false', Int.not_lt, Int.not_le, ne_eq, Decidable.not_not] at h1
    try have h1b := inB_iff.1 h1
    have hr3 : 3 ≤ (splitL 10 tx).length := by omega
    refine to_call0 rfl rfl (fun w s => sure_t _ w) rfl ?_
    refine to_nil ?_
    refine tn_code ?_
    refine t_seq ?_
    refine t_reg ?_
    refine to_alloc rfl (fun b4 => ?_)
    refine to_nil ?_
    refine tn_code ?_
    refine t_seq ?_
    refine t_reg ?_
    refine to_call0 rfl rfl (fun w s => ruleWords_c w) rfl ?_
    refine to_alloc rfl (fun b5 => ?_)
    first | refine to_st rfl rfl rfl rfl ?_ | refine to_ste rfl rfl (by assumption) rfl rfl ?_
    refine to_nil ?_
    refine tn_code ?_
    refine t_seq ?_
    refine t_seq ?_
    refine t_reg ?_
    refine to_mv rfl rfl ?_
    refine to_mv rfl rfl ?_
    refine to_lenS rfl rfl ?_
    refine to_sub rfl rfl (by omega) rfl ?_
    refine to_slHk ((splitL 10 tx).length - 2) rfl rfl (by simp only [Int.ofNat_eq_natCast]; omega) (by have := hro10.le; omega) rfl ?_
    refine to_lenS rfl rfl ?_
    refine to_mv rfl rfl ?_
    refine to_nil ?_
    refine tn_code ?_
    refine t_blk ?_
    refine t_nilrow 3 1 ?_
    refine t_nilrow 3 1 ?_
    refine t_loop2 (ι := Nat × Sh × Pt) (fun ((i, x, pt) : Nat × Sh × Pt) => i ≤ (splitL 10 tx).length - 2 ∧ shK (splitL 10 tx) i = some x) (fun ((i, x, pt) : Nat × Sh × Pt) => [(0, strV tx), (2, (.pointer (some ⟨b2, 0, none⟩))), (4, (.pointer (some ⟨b4, 0, none⟩))), (5, (.pointer (some ⟨b5, 0, none⟩))), (21, .slice a10 ((splitL 10 tx).length - 2) c10), (22, .int .i64 (((splitL 10 tx).length - 2 : Nat) : Int)), (23, .int .i64 (i : Int))]) (fun ((i, x, pt) : Nat × Sh × Pt) => [.own b4 (isC (shC x pt) 33), .row pt.ea x.errs.length pt.ec 3 1 (ints x.errs), .row pt.ra x.rows.length pt.rc 3 1 (ints x.rows), .own b5 (isC rulesC 134), .own b2 (isC [.int .i64 0, .int .i64 0, .slice none 0 0, .slice none 0 0] 33), .snap lo10 w10.heap.size w10, .snap 0 w.heap.size w]) (fun ((i, x, pt) : Nat × Sh × Pt) => (splitL 10 tx).length - 2 - i) ((0, sh0, ⟨none, 0, none, 0⟩)) [.own b4 (isC [.int .i64 0, .int .i64 0, .slice none 0 0, .slice none 0 0] 33), .row none 0 0 3 1 [], .row none 0 0 3 1 [], .own b5 (isC rulesC 134), .own b2 (isC [.int .i64 0, .int .i64 0, .slice none 0 0, .slice none 0 0] 33), .snap lo10 w10.heap.size w10, .snap 0 w.heap.size w] (rfl) (⟨Nat.zero_le _, rfl⟩) (⟨rfl, rfl, rfl, rfl, rfl, rfl, rfl, trivial⟩) ?_
    rintro ⟨i, x, pt⟩ hk
    try dsimp only at hk
    show T _ _ _ ⟨_, [(0, strV tx), (2, (.pointer (some ⟨b2, 0, none⟩))), (4, (.pointer (some ⟨b4, 0, none⟩))), (5, (.pointer (some ⟨b5, 0, none⟩))), (21, .slice a10 ((splitL 10 tx).length - 2) c10), (22, .int .i64 (((splitL 10 tx).length - 2 : Nat) : Int)), (23, .int .i64 (i : Int))], _⟩ [.own b4 (isC (shC x pt) 33), .row pt.ea x.errs.length pt.ec 3 1 (ints x.errs), .row pt.ra x.rows.length pt.rc 3 1 (ints x.rows), .own b5 (isC rulesC 134), .own b2 (isC [.int .i64 0, .int .i64 0, .slice none 0 0, .slice none 0 0] 33), .snap lo10 w10.heap.size w10, .snap 0 w.heap.size w]
    refine t_seq ?_
    refine t_reg ?_
    refine to_lss rfl rfl rfl ?_
    refine to_nil ?_
    refine tn_code ?_
    refine t_seq ?_
    refine t_if rfl (fun h2 => ?_) (fun h2 => ?_)
    · try simp only [decide_eq_true_eq, decide_eq_false_iff_not, Bool.not_eq_true', Bool.not_eq_false', Int.not_lt, Int.not_le, ne_eq, Decidable.not_not] at h2
      try have h2b := inB_iff.1 h2
      obtain ⟨hi, hbk⟩ := hk
      obtain ⟨l, hr⟩ := some_get (xs := splitL 10 tx) (k := i) (by omega)
      have hx := map_get (f := strC) hr
      have hrl := splitL_each 10 (List.mem_of_getElem? hr)
      have hsl2 := splitL_len 32 l
      have hok0 := (shK_ok hbk).2.2
      refine t_skip ?_
      refine tn_code ?_
      refine t_seq ?_
      refine t_blk ?_
      refine t_seq ?_
      refine t_reg ?_
      refine to_mv rfl rfl ?_
      first | refine to_ix rfl rfl rfl (by first | omega | decide) (by first | omega | decide) rfl ?_ | refine to_ixi rfl rfl rfl (by omega) (by omega) (by omega) rfl ?_
      first | refine to_lds rfl rfl rfl ?_ | refine to_ldes rfl (by assumption) rfl rfl ?_
      refine to_as rfl rfl ?_
      refine to_as rfl rfl ?_
      refine to_nil ?_
      refine tn_code ?_
      refine t_seq ?_
      refine t_reg ?_
      refine to_mv rfl rfl ?_
      refine to_callR rfl rfl (fun w s => split_c l 32 w (by omega) (gl_up hg (belowH_of s))) rfl (fun v29 lo29 w29 hlo29 hR29 => ?_)
      obtain ⟨a29, c29, rfl, hro29⟩ := hR29
      refine to_as rfl rfl ?_
      refine to_nil ?_
      refine tn_code ?_
      refine t_blk ?_
      refine t_seq ?_
      refine t_reg ?_
      refine to_mv rfl rfl ?_
      refine to_eql rfl rfl rfl ?_
      refine to_as rfl rfl ?_
      refine to_nil ?_
      refine tn_code ?_
      refine t_if rfl (fun h3 => ?_) (fun h3 => ?_)
      · try simp only [decide_eq_true_eq, decide_eq_false_iff_not, Bool.not_eq_true', Bool.not_eq_false', Int.not_lt, Int.not_le, ne_eq, Decidable.not_not] at h3
        try have h3b := inB_iff.1 h3
        have hi0 : i = 0 := by omega
        refine t_seq ?_
        refine t_regPR [11] [0, 1, 2, 3, 4, 5, 6, 7, 8, 9, 10, 11] [.own b5 (isC rulesC 134), .snap lo29 w29.heap.size w29, .snap lo10 w10.heap.size w10, .snap 0 w.heap.size w] (by kernel_rfl) (by kernel_rfl) ?_
        refine tpr_q ?e1 rfl ?q1 ?r1
        case q1 =>
          refine to_mv rfl rfl ?_
          exact tprq_end
        refine tpr_q ?e2 rfl ?q2 ?r2
        case q2 =>
          refine to_lenS rfl rfl ?_
          exact tprq_end
        refine tpr_q ?e3 rfl ?q3 ?r3
        case q3 =>
          refine to_eql rfl rfl rfl ?_
          exact tprq_end
        refine tpr_q ?e4 rfl ?q4 ?r4
        case q4 =>
          refine to_mv rfl rfl ?_
          exact tprq_end
        refine tpr_gs rfl rfl rfl (fun h4 => ?_) (fun h4 => ?_)
        · try simp only [decide_eq_true_eq, decide_eq_false_iff_not, Bool.not_eq_true', Bool.not_eq_false', Int.not_lt, Int.not_le, ne_eq, Decidable.not_not] at h4
          try have h4b := inB_iff.1 h4
          have hl3 : (splitL 32 l).length = 3 := by omega
          obtain ⟨wd1, hw1⟩ := some_get (xs := (splitL 32 l)) (k := 1) (by omega)
          obtain ⟨wd2, hw2⟩ := some_get (xs := (splitL 32 l)) (k := 2) (by omega)
          have hx1 := map_get (f := strC) hw1
          have hx2 := map_get (f := strC) hw2
          have hd1 := getD_at hw1
          have hd2 := getD_at hw2
          have hwl1 := splitL_each 32 (List.mem_of_getElem? hw1)
          have hib := idx_bd (fun y => wd2 == y) rulesB
          have hrlen : rulesB.length = 4 := rfl
          refine tpr_gt rfl rfl ?_
          refine tpr_q ?e5 rfl ?q5 ?r5
          case q5 =>
            refine to_slAr rfl rfl ?_
            exact tprq_end
          refine tpr_gt rfl rfl ?_
          refine tpr_q ?e6 rfl ?q6 ?r6
          case q6 =>
            refine to_mv rfl rfl ?_
            exact tprq_end
          refine tpr_gt rfl rfl ?_
          refine tpr_q ?e7 rfl ?q7 ?r7
          case q7 =>
            first | refine to_ix rfl rfl rfl (by first | omega | decide) (by first | omega | decide) rfl ?_ | refine to_ixi rfl rfl rfl (by omega) (by omega) (by omega) rfl ?_
            exact tprq_end
          refine tpr_gt rfl rfl ?_
          refine tpr_q ?e8 rfl ?q8 ?r8
          case q8 =>
            first | refine to_lds rfl rfl rfl ?_ | refine to_ldes rfl (by assumption) rfl rfl ?_
            exact tprq_end
          refine tpr_gt rfl rfl ?_
          refine tpr_q ?e9 rfl ?q9 ?r9
          case q9 =>
            refine to_call0 rfl rfl (fun w s => conS rulesB _ _ wd2 w (own_row s (b := b5) rfl rfl (by decide)) (by decide)) rfl ?_
            exact tprq_end
          refine tpr_q ?e10 rfl ?q10 ?r10
          case q10 =>
            refine to_pkT rfl rfl rfl ?_
            exact tprq_end
          refine tpr_q ?e11 rfl ?q11 ?r11
          case q11 =>
            refine to_mv rfl rfl ?_
            exact tprq_end
          refine tpr_s rfl ?_ (fun _ h => by cases h) rfl
          refine to_bc (s := 44) rfl (fun h5 => ?_) (fun h5 => ?_)
          · try simp only [decide_eq_true_eq, decide_eq_false_iff_not, Bool.not_eq_true', Bool.not_eq_false', Int.not_lt, Int.not_le, ne_eq, Decidable.not_not] at h5
            try have h5b := inB_iff.1 h5
            have hcon : rulesB.contains wd2 = true := h5
            refine to_call0 rfl rfl (fun w s => sure_t _ w) rfl ?_
            refine tpr_se rfl ?_
            refine tpr_nil ?_
            refine tn_code ?_
            refine t_seq ?_
            refine t_regPR [3, 11, 13] [0, 1, 2, 4, 5, 6, 7, 3, 8, 9, 10, 11, 12, 13] [.own b5 (isC rulesC 134), .snap lo29 w29.heap.size w29, .snap lo10 w10.heap.size w10, .snap 0 w.heap.size w] (by kernel_rfl) (by kernel_rfl) ?_
            refine tpr_q ?e12 rfl ?q12 ?r12
            case q12 =>
              refine to_mv rfl rfl ?_
              exact tprq_end
            refine tpr_q ?e13 rfl ?q13 ?r13
            case q13 =>
              first | refine to_ix rfl rfl rfl (by first | omega | decide) (by first | omega | decide) rfl ?_ | refine to_ixi rfl rfl rfl (by omega) (by omega) (by omega) rfl ?_
              exact tprq_end
            refine tpr_q ?e14 rfl ?q14 ?r14
            case q14 =>
              first | refine to_lds rfl rfl rfl ?_ | refine to_ldes rfl (by assumption) rfl rfl ?_
              exact tprq_end
            refine tpr_q ?e15 rfl ?q15 ?r15
            case q15 =>
              refine to_slAr rfl rfl ?_
              exact tprq_end
            refine tpr_q ?e16 rfl ?q16 ?r16
            case q16 =>
              refine to_mv rfl rfl ?_
              exact tprq_end
            refine tpr_q ?e17 rfl ?q17 ?r17
            case q17 =>
              first | refine to_ix rfl rfl rfl (by first | omega | decide) (by first | omega | decide) rfl ?_ | refine to_ixi rfl rfl rfl (by omega) (by omega) (by omega) rfl ?_
              exact tprq_end
            refine tpr_q ?e18 rfl ?q18 ?r18
            case q18 =>
              first | refine to_lds rfl rfl rfl ?_ | refine to_ldes rfl (by assumption) rfl rfl ?_
              exact tprq_end
            refine tpr_s rfl ?_ (fun _ h => by cases h) rfl
            refine to_callP (R := NumP wd1) rfl rfl (fun w s => c_number wd1 w (by omega) (gl_up hg (belowH_of s))) rfl (fun w2 s2 e2 w3 hd => ?_)
            obtain ⟨hbl, ⟨nn, hn, rfl⟩ | ⟨hn, z, rfl⟩⟩ := hd
            rotate_left
            · exact .inr ⟨_, rfl, fun a ea a' ha' => ⟨ha'.trans ea.ds, below_tr (below_of s2) hbl, .inr ⟨parse_none hr3 hbk hr (by omega) (by subst hi0; exact step_0n (by rw [hd1]; exact hn)), _, rfl⟩⟩⟩
            have hnb := (numZ_b hn).1
            unfold okZ at hnb
            refine .inl ⟨_, _, rfl, s2.below hbl, ?_⟩
            · skip
              refine tpr_se rfl ?_
              refine tpr_q ?e19 rfl ?q19 ?r19
              case q19 =>
                refine to_call0 rfl rfl (fun w s => idxS rulesB _ _ wd2 w (own_row s (b := b5) rfl rfl (by decide)) (by decide)) rfl ?_
                exact tprq_end
              refine tpr_q ?e20 rfl ?q20 ?r20
              case q20 =>
                refine to_add rfl rfl (by omega) rfl ?_
                exact tprq_end
              refine tpr_q ?e21 rfl ?q21 ?r21
              case q21 =>
                first | refine to_fa rfl rfl rfl (by simp only [Nat.reduceAdd]; rfl) rfl ?_ | refine to_fae rfl rfl rfl (by simp only [Nat.reduceAdd]; rfl) rfl ?_
                exact tprq_end
              refine tpr_s rfl ?_ (fun _ h => by cases h) rfl
              first | refine to_st rfl rfl rfl rfl ?_ | refine to_ste rfl rfl (by assumption) rfl rfl ?_
              refine tpr_se rfl ?_
              refine tpr_q ?e22 rfl ?q22 ?r22
              case q22 =>
                first | refine to_fa rfl rfl rfl (by simp only [Nat.reduceAdd]; rfl) rfl ?_ | refine to_fae rfl rfl rfl (by simp only [Nat.reduceAdd]; rfl) rfl ?_
                exact tprq_end
              refine tpr_s rfl ?_ (fun _ h => by cases h) rfl
              first | refine to_st rfl rfl rfl rfl ?_ | refine to_ste rfl rfl (by assumption) rfl rfl ?_
              refine tpr_se rfl ?_
              refine tpr_nil ?_
              refine tn_code ?_
              refine t_reg ?_
              first | refine to_fa rfl rfl rfl (by simp only [Nat.reduceAdd]; rfl) rfl ?_ | refine to_fae rfl rfl rfl (by simp only [Nat.reduceAdd]; rfl) rfl ?_
              first | refine to_lds rfl rfl rfl ?_ | refine to_ldes rfl (by assumption) rfl rfl ?_
              refine to_geq rfl rfl rfl ?_
              refine to_mv rfl rfl ?_
              refine to_bc (s := 61) rfl (fun h6 => ?_) (fun h6 => ?_)
              · try simp only [decide_eq_true_eq, decide_eq_false_iff_not, Bool.not_eq_true', Bool.not_eq_false', Int.not_lt, Int.not_le, ne_eq, Decidable.not_not] at h6
                try have h6b := inB_iff.1 h6
                refine to_call0 rfl rfl (fun w s => sure_t _ w) rfl ?_
                refine to_nil ?_
                refine tn_blk ?_
                refine tn_blk ?_
                refine tn_code ?_
                refine t_reg ?_
                refine to_add rfl rfl (by omega) rfl ?_
                refine to_mv rfl rfl ?_
                refine to_nil ?_
                exact tn_loop2 ((i + 1, ⟨nn, ruleN wd2, x.errs, x.rows⟩, pt)) [.own b4 (isC [.int .i64 nn, .int .i64 (idxI (fun y => wd2 == y) rulesB + 1), .slice pt.ea x.errs.length pt.ec, .slice pt.ra x.rows.length pt.rc] 33), .row pt.ea x.errs.length pt.ec 3 1 (ints x.errs), .row pt.ra x.rows.length pt.rc 3 1 (ints x.rows), .own b5 (isC rulesC 134), .own b2 (isC [.int .i64 0, .int .i64 0, .slice none 0 0, .slice none 0 0] 33), .snap lo10 w10.heap.size w10, .snap 0 w.heap.size w] (rfl) (⟨by (try dsimp only); omega, by (try dsimp only); subst hi0; rw [shK_succ hbk hr]; rw [← hd2]; exact step_0t ⟨hl3, by rw [hd2]; exact hcon⟩ (by rw [hd1]; exact hn) (by omega)⟩) (by dsimp only; omega) (⟨rfl, rfl, rfl, rfl, rfl, rfl, rfl, trivial⟩)
              · try simp only [decide_eq_true_eq, decide_eq_false_iff_not, Bool.not_eq_true', Bool.not_eq_false', Int.not_lt, Int.not_le, ne_eq, Decidable.not_not] at h6
                try have h6b := inB_iff.1 h6
                exact to_callF rfl rfl (fun w s => sure_f _ w) rfl (fun w' s a ea => ⟨ea.ds, below_of s, .inr ⟨parse_none hr3 hbk hr (by omega) (by subst hi0; exact step_0m (by rw [hd1]; exact hn) (by omega)), _, rfl⟩⟩)
          · try simp only [decide_eq_true_eq, decide_eq_false_iff_not, Bool.not_eq_true', Bool.not_eq_false', Int.not_lt, Int.not_le, ne_eq, Decidable.not_not] at h5
            try have h5b := inB_iff.1 h5
            have hcon : rulesB.contains wd2 = false := h5
            exact to_callF rfl rfl (fun w s => sure_f _ w) rfl (fun w' s a ea a' ha' => ⟨ha'.trans ea.ds, below_of s, .inr ⟨parse_none hr3 hbk hr (by omega) (by subst hi0; exact step_0f (fun hh => by obtain ⟨hh1, hh2⟩ := hh; first | (rw [hd2] at hh2; simp_all; done) | omega)), _, rfl⟩⟩)
        · try simp only [decide_eq_true_eq, decide_eq_false_iff_not, Bool.not_eq_true', Bool.not_eq_false', Int.not_lt, Int.not_le, ne_eq, Decidable.not_not] at h4
          try have h4b := inB_iff.1 h4
          have hl3 : ¬ (splitL 32 l).length = 3 := by omega
          refine tpr_gf rfl rfl rfl rfl ?_
          refine tpr_gf rfl rfl rfl rfl ?_
          refine tpr_gf rfl rfl rfl rfl ?_
          refine tpr_gf rfl rfl rfl rfl ?_
          refine tpr_gf rfl rfl rfl rfl ?_
          refine tpr_q ?e23 rfl ?q23 ?r23
          case q23 =>
            refine to_pkF rfl rfl rfl ?_
            exact tprq_end
          refine tpr_q ?e24 rfl ?q24 ?r24
          case q24 =>
            refine to_mv rfl rfl ?_
            exact tprq_end
          refine tpr_s rfl ?_ (fun _ h => by cases h) rfl
          exact to_callF rfl rfl (fun w s => sure_f _ w) rfl (fun w' s a ea a' ha' => ⟨ha'.trans ea.ds, below_of s, .inr ⟨parse_none hr3 hbk hr (by omega) (by subst hi0; exact step_0f (fun hh => by obtain ⟨hh1, hh2⟩ := hh; first | (rw [hd2] at hh2; simp_all; done) | omega)), _, rfl⟩⟩)
      · try simp only [decide_eq_true_eq, decide_eq_false_iff_not, Bool.not_eq_true', Bool.not_eq_false', Int.not_lt, Int.not_le, ne_eq, Decidable.not_not] at h3
        try have h3b := inB_iff.1 h3
        have hi0 : ¬ i = 0 := by omega
        obtain ⟨wd0, hw0⟩ := some_get (xs := (splitL 32 l)) (k := 0) (by omega)
        have hx0 := map_get (f := strC) hw0
        have hd0 := getD_at hw0
        refine t_seq ?_
        refine t_reg ?_
        refine to_mv rfl rfl ?_
        first | refine to_ix rfl rfl rfl (by first | omega | decide) (by first | omega | decide) rfl ?_ | refine to_ixi rfl rfl rfl (by omega) (by omega) (by omega) rfl ?_
        by_cases hG : (splitL 32 l).getD 0 [] = wGuard ∧ (splitL 32 l).length = 2
        rotate_left
        by_cases hR : (splitL 32 l).getD 0 [] = wRow ∧ (splitL 32 l).length = 2
        rotate_left
        · have hnG := hG
          have hnR := hR
          first | refine to_lds rfl rfl rfl ?_ | refine to_ldes rfl (by assumption) rfl rfl ?_
          refine to_seq rfl rfl rfl ?_
          refine to_mv rfl rfl ?_
          refine to_gs rfl rfl rfl (fun h7 => ?_) (fun h7 => ?_)
          · try simp only [decide_eq_true_eq, decide_eq_false_iff_not, Bool.not_eq_true', Bool.not_eq_false', Int.not_lt, Int.not_le, ne_eq, Decidable.not_not] at h7
            try have h7b := inB_iff.1 h7
            refine to_gt rfl rfl ?_
            refine to_mv rfl rfl ?_
            refine to_gt rfl rfl ?_
            refine to_lenS rfl rfl ?_
            refine to_gt rfl rfl ?_
            refine to_eql rfl rfl rfl ?_
            refine to_fix (s := 72) (b' := false) rfl (decide_eq_false (fun e => hnG ⟨by rw [hd0]; assumption, by omega⟩)) ?_
            refine to_pkT rfl rfl rfl ?_
            refine to_as rfl rfl ?_
            refine to_nil ?_
            refine tn_code ?_
            refine t_ifF rfl ?_
            refine t_seq ?_
            refine t_reg ?_
            refine to_mv rfl rfl ?_
            first | refine to_ix rfl rfl rfl (by first | omega | decide) (by first | omega | decide) rfl ?_ | refine to_ixi rfl rfl rfl (by omega) (by omega) (by omega) rfl ?_
            first | refine to_lds rfl rfl rfl ?_ | refine to_ldes rfl (by assumption) rfl rfl ?_
            refine to_seq rfl rfl rfl ?_
            refine to_mv rfl rfl ?_
            refine to_gs rfl rfl rfl (fun h8 => ?_) (fun h8 => ?_)
            · try simp only [decide_eq_true_eq, decide_eq_false_iff_not, Bool.not_eq_true', Bool.not_eq_false', Int.not_lt, Int.not_le, ne_eq, Decidable.not_not] at h8
              try have h8b := inB_iff.1 h8
              refine to_gt rfl rfl ?_
              refine to_mv rfl rfl ?_
              refine to_gt rfl rfl ?_
              refine to_lenS rfl rfl ?_
              refine to_gt rfl rfl ?_
              refine to_eql rfl rfl rfl ?_
              refine to_fix (s := 102) (b' := false) rfl (decide_eq_false (fun e => hnR ⟨by rw [hd0]; assumption, by omega⟩)) ?_
              refine to_pkT rfl rfl rfl ?_
              refine to_as rfl rfl ?_
              refine to_nil ?_
              refine tn_code ?_
              refine t_ifF rfl ?_
              refine t_reg ?_
              refine to_mv rfl rfl ?_
              exact to_callF rfl rfl (fun w s => sure_f _ w) rfl (fun w' s a ea => ⟨ea.ds, below_of s, .inr ⟨parse_none hr3 hbk hr (by omega) (step_f hi0 hnG hnR), _, rfl⟩⟩)
            · try simp only [decide_eq_true_eq, decide_eq_false_iff_not, Bool.not_eq_true', Bool.not_eq_false', Int.not_lt, Int.not_le, ne_eq, Decidable.not_not] at h8
              try have h8b := inB_iff.1 h8
              refine to_gf rfl rfl rfl rfl ?_
              refine to_gf rfl rfl rfl rfl ?_
              refine to_gf rfl rfl rfl rfl ?_
              refine to_pkF rfl rfl rfl ?_
              refine to_as rfl rfl ?_
              refine to_nil ?_
              refine tn_code ?_
              refine t_ifF rfl ?_
              refine t_reg ?_
              refine to_mv rfl rfl ?_
              exact to_callF rfl rfl (fun w s => sure_f _ w) rfl (fun w' s a ea => ⟨ea.ds, below_of s, .inr ⟨parse_none hr3 hbk hr (by omega) (step_f hi0 hnG hnR), _, rfl⟩⟩)
          · try simp only [decide_eq_true_eq, decide_eq_false_iff_not, Bool.not_eq_true', Bool.not_eq_false', Int.not_lt, Int.not_le, ne_eq, Decidable.not_not] at h7
            try have h7b := inB_iff.1 h7
            refine to_gf rfl rfl rfl rfl ?_
            refine to_gf rfl rfl rfl rfl ?_
            refine to_gf rfl rfl rfl rfl ?_
            refine to_pkF rfl rfl rfl ?_
            refine to_as rfl rfl ?_
            refine to_nil ?_
            refine tn_code ?_
            refine t_ifF rfl ?_
            refine t_seq ?_
            refine t_reg ?_
            refine to_mv rfl rfl ?_
            first | refine to_ix rfl rfl rfl (by first | omega | decide) (by first | omega | decide) rfl ?_ | refine to_ixi rfl rfl rfl (by omega) (by omega) (by omega) rfl ?_
            first | refine to_lds rfl rfl rfl ?_ | refine to_ldes rfl (by assumption) rfl rfl ?_
            refine to_seq rfl rfl rfl ?_
            refine to_mv rfl rfl ?_
            refine to_gs rfl rfl rfl (fun h9 => ?_) (fun h9 => ?_)
            · try simp only [decide_eq_true_eq, decide_eq_false_iff_not, Bool.not_eq_true', Bool.not_eq_false', Int.not_lt, Int.not_le, ne_eq, Decidable.not_not] at h9
              try have h9b := inB_iff.1 h9
              refine to_gt rfl rfl ?_
              refine to_mv rfl rfl ?_
              refine to_gt rfl rfl ?_
              refine to_lenS rfl rfl ?_
              refine to_gt rfl rfl ?_
              refine to_eql rfl rfl rfl ?_
              refine to_fix (s := 102) (b' := false) rfl (decide_eq_false (fun e => hnR ⟨by rw [hd0]; assumption, by omega⟩)) ?_
              refine to_pkT rfl rfl rfl ?_
              refine to_as rfl rfl ?_
              refine to_nil ?_
              refine tn_code ?_
              refine t_ifF rfl ?_
              refine t_reg ?_
              refine to_mv rfl rfl ?_
              exact to_callF rfl rfl (fun w s => sure_f _ w) rfl (fun w' s a ea => ⟨ea.ds, below_of s, .inr ⟨parse_none hr3 hbk hr (by omega) (step_f hi0 hnG hnR), _, rfl⟩⟩)
            · try simp only [decide_eq_true_eq, decide_eq_false_iff_not, Bool.not_eq_true', Bool.not_eq_false', Int.not_lt, Int.not_le, ne_eq, Decidable.not_not] at h9
              try have h9b := inB_iff.1 h9
              refine to_gf rfl rfl rfl rfl ?_
              refine to_gf rfl rfl rfl rfl ?_
              refine to_gf rfl rfl rfl rfl ?_
              refine to_pkF rfl rfl rfl ?_
              refine to_as rfl rfl ?_
              refine to_nil ?_
              refine tn_code ?_
              refine t_ifF rfl ?_
              refine t_reg ?_
              refine to_mv rfl rfl ?_
              exact to_callF rfl rfl (fun w s => sure_f _ w) rfl (fun w' s a ea => ⟨ea.ds, below_of s, .inr ⟨parse_none hr3 hbk hr (by omega) (step_f hi0 hnG hnR), _, rfl⟩⟩)
        · have hl2 := hG.2
          obtain ⟨wd1, hw1⟩ := some_get (xs := (splitL 32 l)) (k := 1) (by omega)
          have hx1 := map_get (f := strC) hw1
          have hd1 := getD_at hw1
          have hwl1 := splitL_each 32 (List.mem_of_getElem? hw1)
          first | refine to_lds rfl rfl rfl ?_ | refine to_ldes rfl (by assumption) rfl rfl ?_
          refine to_seq rfl rfl rfl ?_
          refine to_fix (s := 68) (b' := true) rfl (decide_eq_true (by rw [← hd0]; exact hG.1)) ?_
          refine to_mv rfl rfl ?_
          refine to_gt rfl rfl ?_
          refine to_mv rfl rfl ?_
          refine to_gt rfl rfl ?_
          refine to_lenS rfl rfl ?_
          refine to_gt rfl rfl ?_
          refine to_eql rfl rfl rfl ?_
          refine to_fix (s := 72) (b' := true) rfl (decide_eq_true (by omega)) ?_
          refine to_pkT rfl rfl rfl ?_
          refine to_as rfl rfl ?_
          refine to_nil ?_
          refine tn_code ?_
          refine t_ifT rfl ?_
          refine t_seq ?_
          refine t_regPR [5, 6, 7, 9] [0, 1, 2, 3, 4, 5, 6, 7, 8, 9] [.own b4 (isC (shC x pt) 33), .snap lo29 w29.heap.size w29, .snap lo10 w10.heap.size w10, .snap 0 w.heap.size w] (by kernel_rfl) (by kernel_rfl) ?_
          refine tpr_q ?e25 rfl ?q25 ?r25
          case q25 =>
            first | refine to_fa rfl rfl rfl (by simp only [Nat.reduceAdd]; rfl) rfl ?_ | refine to_fae rfl rfl rfl (by simp only [Nat.reduceAdd]; rfl) rfl ?_
            exact tprq_end
          refine tpr_q ?e26 rfl ?q26 ?r26
          case q26 =>
            first | refine to_lds rfl rfl rfl ?_ | refine to_ldes rfl (by assumption) rfl rfl ?_
            exact tprq_end
          refine tpr_q ?e27 rfl ?q27 ?r27
          case q27 =>
            refine to_mv rfl rfl ?_
            exact tprq_end
          refine tpr_q ?e28 rfl ?q28 ?r28
          case q28 =>
            first | refine to_ix rfl rfl rfl (by first | omega | decide) (by first | omega | decide) rfl ?_ | refine to_ixi rfl rfl rfl (by omega) (by omega) (by omega) rfl ?_
            exact tprq_end
          refine tpr_q ?e29 rfl ?q29 ?r29
          case q29 =>
            first | refine to_lds rfl rfl rfl ?_ | refine to_ldes rfl (by assumption) rfl rfl ?_
            exact tprq_end
          refine tpr_s rfl ?_ (fun _ h => by cases h) rfl
          refine to_callP (R := NumP wd1) rfl rfl (fun w s => c_number wd1 w (by omega) (gl_up hg (belowH_of s))) rfl (fun w2 s2 e2 w3 hd => ?_)
          obtain ⟨hbl, ⟨nn, hn, rfl⟩ | ⟨hn, z, rfl⟩⟩ := hd
          rotate_left
          · exact .inr ⟨_, rfl, fun a ea a' ha' => ⟨ha'.trans ea.ds, below_tr (below_of s2) hbl, .inr ⟨parse_none hr3 hbk hr (by omega) (step_gn hi0 hG (by rw [hd1]; exact hn)), _, rfl⟩⟩⟩
          have hnb := (numZ_b hn).1
          unfold okZ at hnb
          refine .inl ⟨_, _, rfl, s2.below hbl, ?_⟩
          · skip
            refine tpr_se rfl ?_
            refine tpr_s rfl ?_ (fun _ h => by cases h) rfl
            refine to_bsl rfl rfl rfl rfl (fun a80 => ?_)
            refine tpr_se rfl ?_
            refine tpr_s rfl ?_ (fun _ h => by cases h) rfl
            refine to_app rfl rfl rfl (by simp [scals, scal]) (by decide) (by omega) (by decide) rfl (fun a81 c81 => ?_)
            refine tpr_se rfl ?_
            refine tpr_q ?e30 rfl ?q30 ?r30
            case q30 =>
              first | refine to_fa rfl rfl rfl (by simp only [Nat.reduceAdd]; rfl) rfl ?_ | refine to_fae rfl rfl rfl (by simp only [Nat.reduceAdd]; rfl) rfl ?_
              exact tprq_end
            refine tpr_s rfl ?_ (fun _ h => by cases h) rfl
            first | refine to_st rfl rfl rfl rfl ?_ | refine to_ste rfl rfl (by assumption) rfl rfl ?_
            refine tpr_sl (by kernel_rfl) rfl rfl ?_
            refine tn_code ?_
            have hx9 : (ints x.errs ++ [[Value.int .i64 nn]])[(((x.errs.length + 1 : Nat) : Int) - 1).toNat]? = some [Value.int .i64 nn] := by
              rw [show (((x.errs.length + 1 : Nat) : Int) - 1).toNat = x.errs.length by omega, List.getElem?_append_right (by simp)]; simp
            refine t_reg ?_
            first | refine to_fa rfl rfl rfl (by simp only [Nat.reduceAdd]; rfl) rfl ?_ | refine to_fae rfl rfl rfl (by simp only [Nat.reduceAdd]; rfl) rfl ?_
            first | refine to_lds rfl rfl rfl ?_ | refine to_ldes rfl (by assumption) rfl rfl ?_
            first | refine to_fa rfl rfl rfl (by simp only [Nat.reduceAdd]; rfl) rfl ?_ | refine to_fae rfl rfl rfl (by simp only [Nat.reduceAdd]; rfl) rfl ?_
            first | refine to_lds rfl rfl rfl ?_ | refine to_ldes rfl (by assumption) rfl rfl ?_
            refine to_lenS rfl rfl ?_
            refine to_sub rfl rfl (by omega) rfl ?_
            first | refine to_ix rfl rfl rfl (by first | omega | decide) (by first | omega | decide) rfl ?_ | refine to_ixi rfl rfl rfl (by omega) (by omega) (by omega) rfl ?_
            first | refine to_lds rfl rfl rfl ?_ | refine to_ldes rfl (by assumption) rfl rfl ?_
            refine to_geq rfl rfl rfl ?_
            refine to_mv rfl rfl ?_
            refine to_bc (s := 91) rfl (fun h10 => ?_) (fun h10 => ?_)
            · try simp only [decide_eq_true_eq, decide_eq_false_iff_not, Bool.not_eq_true', Bool.not_eq_false', Int.not_lt, Int.not_le, ne_eq, Decidable.not_not] at h10
              try have h10b := inB_iff.1 h10
              refine to_call0 rfl rfl (fun w s => sure_t _ w) rfl ?_
              refine to_nil ?_
              refine tn_blk ?_
              refine tn_blk ?_
              refine tn_code ?_
              refine t_reg ?_
              refine to_add rfl rfl (by omega) rfl ?_
              refine to_mv rfl rfl ?_
              refine to_nil ?_
              exact tn_loop2 ((i + 1, ⟨x.unit, x.rule, x.errs ++ [nn], x.rows⟩, ⟨a81, c81, pt.ra, pt.rc⟩)) [.own b4 (isC [.int .i64 x.unit, .int .i64 x.rule, .slice a81 (x.errs.length + 1) c81, .slice pt.ra x.rows.length pt.rc] 33), .row a81 (x.errs.length + 1) c81 3 1 (ints x.errs ++ [[.int .i64 nn]]), .row pt.ra x.rows.length pt.rc 3 1 (ints x.rows), .own b5 (isC rulesC 134), .own b2 (isC [.int .i64 0, .int .i64 0, .slice none 0 0, .slice none 0 0] 33), .snap lo10 w10.heap.size w10, .snap 0 w.heap.size w] (by simp only [shC, List.length_append, List.length_singleton, ints_snoc]) (⟨by (try dsimp only); omega, by (try dsimp only); rw [shK_succ hbk hr]; exact step_gt hi0 hG (by rw [hd1]; exact hn) (by omega)⟩) (by dsimp only; omega) (⟨rfl, rfl, rfl, rfl, rfl, rfl, rfl, trivial⟩)
            · try simp only [decide_eq_true_eq, decide_eq_false_iff_not, Bool.not_eq_true', Bool.not_eq_false', Int.not_lt, Int.not_le, ne_eq, Decidable.not_not] at h10
              try have h10b := inB_iff.1 h10
              exact to_callF rfl rfl (fun w s => sure_f _ w) rfl (fun w' s a ea => ⟨ea.ds, below_of s, .inr ⟨parse_none hr3 hbk hr (by omega) (step_gm hi0 hG (by rw [hd1]; exact hn) (by omega)), _, rfl⟩⟩)
        · have hl2 := hR.2
          obtain ⟨wd1, hw1⟩ := some_get (xs := (splitL 32 l)) (k := 1) (by omega)
          have hx1 := map_get (f := strC) hw1
          have hd1 := getD_at hw1
          have hwl1 := splitL_each 32 (List.mem_of_getElem? hw1)
          first | refine to_lds rfl rfl rfl ?_ | refine to_ldes rfl (by assumption) rfl rfl ?_
          refine to_seq rfl rfl rfl ?_
          refine to_fix (s := 68) (b' := false) rfl (decide_eq_false (fun e => guard_row ((e.symm.trans (hd0.symm.trans hR.1))))) ?_
          refine to_mv rfl rfl ?_
          refine to_gf rfl rfl rfl rfl ?_
          refine to_gf rfl rfl rfl rfl ?_
          refine to_gf rfl rfl rfl rfl ?_
          refine to_pkF rfl rfl rfl ?_
          refine to_as rfl rfl ?_
          refine to_nil ?_
          refine tn_code ?_
          refine t_ifF rfl ?_
          refine t_seq ?_
          refine t_reg ?_
          refine to_mv rfl rfl ?_
          first | refine to_ix rfl rfl rfl (by first | omega | decide) (by first | omega | decide) rfl ?_ | refine to_ixi rfl rfl rfl (by omega) (by omega) (by omega) rfl ?_
          first | refine to_lds rfl rfl rfl ?_ | refine to_ldes rfl (by assumption) rfl rfl ?_
          refine to_seq rfl rfl rfl ?_
          refine to_fix (s := 98) (b' := true) rfl (decide_eq_true (by rw [← hd0]; exact hR.1)) ?_
          refine to_mv rfl rfl ?_
          refine to_gt rfl rfl ?_
          refine to_mv rfl rfl ?_
          refine to_gt rfl rfl ?_
          refine to_lenS rfl rfl ?_
          refine to_gt rfl rfl ?_
          refine to_eql rfl rfl rfl ?_
          refine to_fix (s := 102) (b' := true) rfl (decide_eq_true (by omega)) ?_
          refine to_pkT rfl rfl rfl ?_
          refine to_as rfl rfl ?_
          refine to_nil ?_
          refine tn_code ?_
          refine t_ifT rfl ?_
          refine t_regPR [5, 6, 7, 9] [0, 1, 2, 3, 4, 5, 6, 7, 8, 9] [.own b4 (isC (shC x pt) 33), .snap lo29 w29.heap.size w29, .snap lo10 w10.heap.size w10, .snap 0 w.heap.size w] (by kernel_rfl) (by kernel_rfl) ?_
          refine tpr_q ?e31 rfl ?q31 ?r31
          case q31 =>
            first | refine to_fa rfl rfl rfl (by simp only [Nat.reduceAdd]; rfl) rfl ?_ | refine to_fae rfl rfl rfl (by simp only [Nat.reduceAdd]; rfl) rfl ?_
            exact tprq_end
          refine tpr_q ?e32 rfl ?q32 ?r32
          case q32 =>
            first | refine to_lds rfl rfl rfl ?_ | refine to_ldes rfl (by assumption) rfl rfl ?_
            exact tprq_end
          refine tpr_q ?e33 rfl ?q33 ?r33
          case q33 =>
            refine to_mv rfl rfl ?_
            exact tprq_end
          refine tpr_q ?e34 rfl ?q34 ?r34
          case q34 =>
            first | refine to_ix rfl rfl rfl (by first | omega | decide) (by first | omega | decide) rfl ?_ | refine to_ixi rfl rfl rfl (by omega) (by omega) (by omega) rfl ?_
            exact tprq_end
          refine tpr_q ?e35 rfl ?q35 ?r35
          case q35 =>
            first | refine to_lds rfl rfl rfl ?_ | refine to_ldes rfl (by assumption) rfl rfl ?_
            exact tprq_end
          refine tpr_s rfl ?_ (fun _ h => by cases h) rfl
          refine to_callP (R := NumP wd1) rfl rfl (fun w s => c_number wd1 w (by omega) (gl_up hg (belowH_of s))) rfl (fun w2 s2 e2 w3 hd => ?_)
          obtain ⟨hbl, ⟨nn, hn, rfl⟩ | ⟨hn, z, rfl⟩⟩ := hd
          rotate_left
          · exact .inr ⟨_, rfl, fun a ea a' ha' => ⟨ha'.trans ea.ds, below_tr (below_of s2) hbl, .inr ⟨parse_none hr3 hbk hr (by omega) (step_rn hi0 hR (by rw [hd1]; exact hn)), _, rfl⟩⟩⟩
          have hnb := (numZ_b hn).1
          unfold okZ at hnb
          refine .inl ⟨_, _, rfl, s2.below hbl, ?_⟩
          · skip
            refine tpr_se rfl ?_
            refine tpr_s rfl ?_ (fun _ h => by cases h) rfl
            refine to_bsl rfl rfl rfl rfl (fun a110 => ?_)
            refine tpr_se rfl ?_
            refine tpr_s rfl ?_ (fun _ h => by cases h) rfl
            refine to_app rfl rfl rfl (by simp [scals, scal]) (by decide) (by omega) (by decide) rfl (fun a111 c111 => ?_)
            refine tpr_se rfl ?_
            refine tpr_q ?e36 rfl ?q36 ?r36
            case q36 =>
              first | refine to_fa rfl rfl rfl (by simp only [Nat.reduceAdd]; rfl) rfl ?_ | refine to_fae rfl rfl rfl (by simp only [Nat.reduceAdd]; rfl) rfl ?_
              exact tprq_end
            refine tpr_s rfl ?_ (fun _ h => by cases h) rfl
            first | refine to_st rfl rfl rfl rfl ?_ | refine to_ste rfl rfl (by assumption) rfl rfl ?_
            refine tpr_sl (by kernel_rfl) rfl rfl ?_
            refine tn_blk ?_
            refine tn_blk ?_
            refine tn_code ?_
            refine t_reg ?_
            refine to_add rfl rfl (by omega) rfl ?_
            refine to_mv rfl rfl ?_
            refine to_nil ?_
            exact tn_loop2 ((i + 1, ⟨x.unit, x.rule, x.errs, x.rows ++ [nn]⟩, ⟨pt.ea, pt.ec, a111, c111⟩)) [.own b4 (isC [.int .i64 x.unit, .int .i64 x.rule, .slice pt.ea x.errs.length pt.ec, .slice a111 (x.rows.length + 1) c111] 33), .row pt.ea x.errs.length pt.ec 3 1 (ints x.errs), .row a111 (x.rows.length + 1) c111 3 1 (ints x.rows ++ [[.int .i64 nn]]), .own b5 (isC rulesC 134), .own b2 (isC [.int .i64 0, .int .i64 0, .slice none 0 0, .slice none 0 0] 33), .snap lo10 w10.heap.size w10, .snap 0 w.heap.size w] (by simp only [shC, List.length_append, List.length_singleton, ints_snoc]) (⟨by (try dsimp only); omega, by (try dsimp only); rw [shK_succ hbk hr]; exact step_rt hi0 hR (by rw [hd1]; exact hn)⟩) (by dsimp only; omega) (⟨rfl, rfl, rfl, rfl, rfl, rfl, rfl, trivial⟩)
    · try simp only [decide_eq_true_eq, decide_eq_false_iff_not, Bool.not_eq_true', Bool.not_eq_false', Int.not_lt, Int.not_le, ne_eq, Decidable.not_not] at h2
      try have h2b := inB_iff.1 h2
      obtain ⟨hi, hbk⟩ := hk
      have hi2 : i = (splitL 10 tx).length - 2 := by omega
      subst hi2
      have hno := nums_of hbk (by omega) (by omega)
      refine t_exit ?_
      refine tx_code ?_
      refine tx_inv ?_
      refine tx_blk ?_
      refine tn_code ?_
      refine t_seq ?_
      refine t_reg ?_
      first | refine to_lda rfl rfl rfl ?_ | refine to_ldea rfl (by assumption) rfl rfl ?_
      refine to_call0 rfl rfl (fun w s => r_text x pt w (rdw s) (rdw s) hno (gl_up hg (belowH_of s))) rfl ?_
      refine to_mv rfl rfl ?_
      refine to_seq rfl rfl rfl ?_
      refine to_mv rfl rfl ?_
      refine to_bc (s := 117) rfl (fun h11 => ?_) (fun h11 => ?_)
      · try simp only [decide_eq_true_eq, decide_eq_false_iff_not, Bool.not_eq_true', Bool.not_eq_false', Int.not_lt, Int.not_le, ne_eq, Decidable.not_not] at h11
        try have h11b := inB_iff.1 h11
        refine to_call0 rfl rfl (fun w s => sure_t _ w) rfl ?_
        refine to_nil ?_
        refine tn_code ?_
        refine t_seq ?_
        refine t_reg ?_
        first | refine to_lda rfl rfl rfl ?_ | refine to_ldea rfl (by assumption) rfl rfl ?_
        first | refine to_st rfl rfl rfl rfl ?_ | refine to_ste rfl rfl (by assumption) rfl rfl ?_
        refine to_nil ?_
        refine tn_code ?_
        refine t_ret1G rfl rfl (res_cellA rfl rfl) (fun w' s => ?_)
        exact ⟨below_of s, .inl ⟨x, pt, parse_t hr3 hbk (by assumption), rfl, ro_row s, ro_row s⟩⟩
      · try simp only [decide_eq_true_eq, decide_eq_false_iff_not, Bool.not_eq_true', Bool.not_eq_false', Int.not_lt, Int.not_le, ne_eq, Decidable.not_not] at h11
        try have h11b := inB_iff.1 h11
        exact to_callF rfl rfl (fun w s => sure_f _ w) rfl (fun w' s a ea => ⟨ea.ds, below_of s, .inr ⟨parse_ne hr3 hbk (by assumption), _, rfl⟩⟩)
  · try simp only [decide_eq_true_eq, decide_eq_false_iff_not, Bool.not_eq_true', Bool.not_eq_false', Int.not_lt, Int.not_le, ne_eq, Decidable.not_not] at h1
    try have h1b := inB_iff.1 h1
    exact to_callF rfl rfl (fun w s => sure_f _ w) rfl (fun w' s a ea => ⟨ea.ds, below_of s, .inr ⟨parse_short (by omega), _, rfl⟩⟩)

end Go.Proofs


namespace Go.Proofs
open Go Go.Sx Go.RowKit

def ResR (tx : Bs) (bb lo : Nat) : Out2 → World → Prop
  | .ok, w' => ∃ (x : Sh) (pt : Pt), parseZ tx = some x ∧ w'.heap[bb]? = some (.cells (shC x pt).toArray 33 (0, 0)) ∧ Ro w' lo w'.heap.size pt.ea x.errs.length pt.ec 1 (ints x.errs) ∧ Ro w' lo w'.heap.size pt.ra x.rows.length pt.rc 1 (ints x.rows)
  | .no _, _ => parseZ tx = none
  | .fd _ _ _, _ => False
structure DoW (bb : Nat) (w w' : World) : Prop where
  os : w'.os = w.os
  tape : w'.tape = w.tape
  output : w'.output = w.output
  size : w.heap.size ≤ w'.heap.size
  block : ∀ k, k < w.heap.size → k ≠ bb → w'.heap[k]? = w.heap[k]?
def DoR (tx : Bs) (bb : Nat) (w : World) : Ending → World → Prop := fun e w' => ∃ o : Out2, outE2 108 128 o e ∧ DoW bb w w' ∧ ResR tx bb w.heap.size o w'
def AttR (tx : Bs) (bb : Nat) (w : World) : Ending → World → Prop := fun e w' => ∃ o : Out2, e = .returned (.tuple #[Out2.sl o, .int .i64 (Out2.er o)]) ∧ DoW bb w w' ∧ ResR tx bb w.heap.size o w'
theorem cl_ne {w : World} {bt bb : Nat} {cs0 cs : List Value} {t : TypeId} (h : Rb w 0 w.heap.size bt cs) (hne : bt ≠ bb) : Cl w [.own bb (isC cs0 t), .snap 0 bb w, .snap (bb + 1) w.heap.size w] bt cs := ⟨fun w' s o v hv => by
  obtain ⟨h1, h2, te, h3⟩ := h
  have h4 : w'.heap[bt]? = w.heap[bt]? := by
    rcases Nat.lt_or_ge bt bb with h5 | h5
    · exact s.ok (.snap 0 bb w) (by simp) bt (Nat.zero_le _) h5
    · exact s.ok (.snap (bb + 1) w.heap.size w) (by simp) bt (by omega) h2
  simp [World.cell?, h4, h3, hv]⟩
theorem doW_of {w w' : World} {bb : Nat} {p : Obj → Prop} {H : List Seg} (s : St w (.own bb p :: H) w') (h1 : .snap 0 bb w ∈ H) (h2 : .snap (bb + 1) w.heap.size w ∈ H) : DoW bb w w' := by
  refine ⟨s.os, s.tape, s.output, s.ge, fun k hk hne => ?_⟩
  rcases Nat.lt_or_ge k bb with h | h
  · exact s.ok _ (List.mem_cons_of_mem _ h1) k (Nat.zero_le _) h
  · exact s.ok _ (List.mem_cons_of_mem _ h2) k (by omega) hk

set_option maxRecDepth 20000 in
theorem c_Read1 (tx : Bs) (bt bb : Nat) (w : World) (hls : tx.length ≤ 500) (hg : Gl w) (hbb : w.heap[bb]? = some (.cells ([Value.int .i64 0, .int .i64 0, .slice none 0 0, .slice none 0 0] : List Value).toArray 33 (0, 0))) (h3 : 3 < bb) (hne : bt ≠ bb) (hbt : Rb w 0 w.heap.size bt [strV tx]) : Calls Tryz.prog 99 #[(.pointer (some ⟨bt, 0, none⟩)), (.pointer (some ⟨bb, 0, none⟩))] w (DoR tx bb w) := by
  have hcl := cl_ne (cs0 := [.int .i64 0, .int .i64 0, .slice none 0 0, .slice none 0 0]) (t := 33) hbt hne
  refine calls_TG (av := [_, _]) Tryz.func99 rfl rfl rfl (St.startO hbb) ?_
  refine t_reg ?_
  first | refine to_lds rfl rfl rfl ?_ | refine to_ldes rfl (by assumption) rfl rfl ?_
  refine to_callP (R := ParP tx) rfl rfl (fun w2 s => c_parsed tx w2 hls (gl_cong hg s.ge (fun k hk => s.ok (.snap 0 bb w) (by simp) k (Nat.zero_le _) (by omega)))) rfl (fun w2 s2 e2 w3 hd => ?_)
  obtain ⟨hbl, ⟨x, pt, hp, rfl, hro, hro2⟩ | ⟨hp, z, rfl⟩⟩ := hd
  rotate_left
  · exact .inr ⟨_, rfl, fun a ea => ⟨ea.ds, .no z, rfl, doW_of (s2.below hbl) (by simp) (by simp), hp⟩⟩
  have hlo2 := s2.ge
  refine .inl ⟨_, _, rfl, s2.snap hbl, ?_⟩
  · skip
    first | refine to_st rfl rfl rfl rfl ?_ | refine to_ste rfl rfl (by assumption) rfl rfl ?_
    refine to_nil ?_
    exact t_end0G rfl rfl (fun w' s => ⟨.ok, rfl, doW_of s (by simp) (by simp), x, pt, hp, (by obtain ⟨o, ho, hpo⟩ := s.own_at (b := bb); rw [ho]; exact congrArg some hpo), hro.mono hlo2 (s.le (.snap w2.heap.size w3.heap.size w3) (by simp)) (fun k h1 h2 => s.ok (.snap w2.heap.size w3.heap.size w3) (by simp) k h1 h2), hro2.mono hlo2 (s.le (.snap w2.heap.size w3.heap.size w3) (by simp)) (fun k h1 h2 => s.ok (.snap w2.heap.size w3.heap.size w3) (by simp) k h1 h2)⟩)

theorem st_att {w w2 w3 : World} {b2 b3 bb : Nat} (s : St w [.own b3 (isC [.int .i64 0] 23), .own b2 (isC [.slice none 0 0] 30), .snap 0 w.heap.size w] w2) (hd : DoW bb w2 w3) (hb : bb < w.heap.size) : St w [.own b2 (isC [.slice none 0 0] 30), .own b3 (isC [.int .i64 0] 23), .snap 0 w.heap.size w3, .snap w2.heap.size w3.heap.size w3] w3 := by
  have h1 : b2 + 1 ≤ w2.heap.size := s.le (.own b2 (isC [.slice none 0 0] 30)) (by simp)
  have h1' : b3 + 1 ≤ w2.heap.size := s.le (.own b3 (isC [.int .i64 0] 23)) (by simp)
  have hap := s.apart
  simp only [List.pairwise_cons, List.mem_cons, List.not_mem_nil, or_false, forall_eq_or_imp, forall_eq, Seg.apart, Seg.lo, Seg.hi] at hap
  have h5 := hd.size
  have hge := s.ge
  refine ⟨hd.os.trans s.os, hd.tape.trans s.tape, hd.output.trans s.output, Nat.le_trans s.ge hd.size, ?_, ?_, ?_⟩
  · intro t ht
    simp only [List.mem_cons, List.not_mem_nil, or_false] at ht
    rcases ht with rfl | rfl | rfl | rfl <;> simp only [Seg.hi] <;> omega
  · intro t ht
    simp only [List.mem_cons, List.not_mem_nil, or_false] at ht
    rcases ht with rfl | rfl | rfl | rfl
    · obtain ⟨o, ho, hp⟩ := s.ok (.own b2 (isC [.slice none 0 0] 30)) (by simp)
      exact ⟨o, (hd.block b2 (by omega) (by omega)).trans ho, hp⟩
    · obtain ⟨o, ho, hp⟩ := s.ok (.own b3 (isC [.int .i64 0] 23)) (by simp)
      exact ⟨o, (hd.block b3 (by omega) (by omega)).trans ho, hp⟩
    · exact fun _ _ _ => rfl
    · exact fun _ _ _ => rfl
  · simp only [List.pairwise_cons, List.mem_cons, List.not_mem_nil, or_false, forall_eq_or_imp, forall_eq, Seg.apart, Seg.lo, Seg.hi]
    refine ⟨⟨by omega, by omega, by omega⟩, ⟨by omega, by omega⟩, by omega, ?_⟩
    simp
theorem att_leaveR (tx : Bs) (bb : Nat) (o : Out2) (w w2 w3 w5 : World) (b2 b3 : Nat) (hb : bb < w.heap.size) (s : St w [.own b3 (isC [.int .i64 0] 23), .own b2 (isC [.slice none 0 0] 30), .snap 0 w.heap.size w] w2) (hd : DoW bb w2 w3) (hr : ResR tx bb w2.heap.size o w3) (s5 : St w [.own b2 (isC [.slice none 0 0] 30), .own b3 (isC [.int .i64 (Out2.e0 o)] 23), .snap 0 w.heap.size w3, .snap w2.heap.size w3.heap.size w3] w5) (m : List (Nat × Value)) (a : Act) (ea : Env.ok ⟨Tryz.f87.ntmps, m, [{ target := .fn (.func 109) [(.pointer (some ⟨b2, 0, none⟩)), (.pointer (some ⟨b3, 0, none⟩))].toArray, args := #[] }]⟩ a) (hm : lk m 2 = some (.pointer (some ⟨b2, 0, none⟩))) (hm2 : lk m 3 = some (.pointer (some ⟨b3, 0, none⟩))) :
    Leaves Tryz.prog Tryz.f87 a.tmps (AttR tx bb w) a.defers (Out2.mode 108 128 o) w5 := by
  refine leave1 ea.ds (by cases o <;> simp [Out2.mode]) (c_att o w _ b2 b3 w5 s5) ?_
  rintro e u' w' ⟨rfl, h2', h3⟩
  have hlow : ∀ k, k < w.heap.size → w'.heap[k]? = w3.heap[k]? := fun k hk => h3.ok (.snap 0 w.heap.size w3) (by simp) k (Nat.zero_le _) hk
  have hs5 := h3.le (.snap w2.heap.size w3.heap.size w3) (by simp)
  simp only [Seg.hi] at hs5
  have hdw : DoW bb w w' := ⟨h3.os, h3.tape, h3.output, h3.ge, fun k hk hne => (hlow k hk).trans ((hd.block k (Nat.lt_of_lt_of_le hk s.ge) hne).trans (s.ok (.snap 0 w.heap.size w) (by simp) k (Nat.zero_le _) hk))⟩
  have hres2 : ResR tx bb w.heap.size o w' := by
    cases o with
    | fd a n c => exact hr
    | no z => exact hr
    | ok =>
      obtain ⟨b, a1, g1, g2, g3, g4⟩ := hr
      exact ⟨b, a1, g1, (hlow bb (by omega)).trans g2, g3.mono s.ge hs5 (fun k g4 g5 => h3.ok (.snap w2.heap.size w3.heap.size w3) (by simp) k g4 g5), g4.mono s.ge hs5 (fun k g4 g5 => h3.ok (.snap w2.heap.size w3.heap.size w3) (by simp) k g4 g5)⟩
  refine ⟨rfl, h2', .tuple #[o.sl, .int .i64 o.er], ?_, o, rfl, hdw, hres2⟩
  have hsl : ∃ a n c, o.sl = .slice a n c := by cases o <;> exact ⟨_, _, _, rfl⟩
  obtain ⟨sa, sn, sc, hsl⟩ := hsl
  rw [hsl] at h3 ⊢
  have hres : ResOk Tryz.prog w ⟨Tryz.f87.ntmps, m, [{ target := .fn (.func 109) [(.pointer (some ⟨b2, 0, none⟩)), (.pointer (some ⟨b3, 0, none⟩))].toArray, args := #[] }]⟩ [.own b2 (isC [.slice sa sn sc] 30), .own b3 (isC [.int .i64 o.er] 23), .snap 0 w.heap.size w3, .snap w2.heap.size w3.heap.size w3] (.cell 2 30) (.slice sa sn sc) := res_cellS (ht := Tryz.ty30) hm rfl
  have hres3 : ResOk Tryz.prog w ⟨Tryz.f87.ntmps, m, [{ target := .fn (.func 109) [(.pointer (some ⟨b2, 0, none⟩)), (.pointer (some ⟨b3, 0, none⟩))].toArray, args := #[] }]⟩ [.own b2 (isC [.slice sa sn sc] 30), .own b3 (isC [.int .i64 o.er] 23), .snap 0 w.heap.size w3, .snap w2.heap.size w3.heap.size w3] (.cell 3 23) (.int .i64 o.er) := res_cellS (ht := Tryz.ty23) hm2 rfl
  exact run_results (l := [.cell 2 30, .cell 3 23]) (vs := [.slice sa sn sc, .int .i64 o.er]) rfl rfl (fun i r v h h' => by
    match i with
    | 0 => cases h; cases h'; exact hres a w' ea h3
    | 1 => cases h; cases h'; exact hres3 a w' ea h3
    | i + 2 => simp at h)

set_option maxRecDepth 20000 in
theorem c_attemptR (tx : Bs) (bt bb : Nat) (w : World) (hls : tx.length ≤ 500) (hg : Gl w) (hbb : w.heap[bb]? = some (.cells ([Value.int .i64 0, .int .i64 0, .slice none 0 0, .slice none 0 0] : List Value).toArray 33 (0, 0))) (h3 : 3 < bb) (hne : bt ≠ bb) (hbt : Rb w 0 w.heap.size bt [strV tx]) : Calls Tryz.prog 87 #[.func (.func 99) ([] : List Value).toArray [(.pointer (some ⟨bt, 0, none⟩)), (.pointer (some ⟨bb, 0, none⟩))].toArray] w (AttR tx bb w) := by
  have hlt : bb < w.heap.size := (Array.getElem?_eq_some_iff.1 hbb).1
  refine calls_TD (av := [_]) Tryz.func87 rfl rfl rfl (St.start w) ?_
  refine t_seq ?_
  refine t_reg ?_
  refine to_alloc rfl (fun b2 => ?_)
  refine to_alloc rfl (fun b3 => ?_)
  refine to_nil ?_
  refine tn_code ?_
  refine t_seq ?_
  refine t_reg ?_
  refine to_mf rfl rfl rfl ?_
  refine to_defer rfl rfl ?_
  refine to_nil ?_
  refine tn_code ?_
  refine t_seq ?_
  refine t_reg ?_
  refine to_mv rfl rfl ?_
  refine to_callP (R := DoR tx bb) rfl rfl (fun w2 s => c_Read1 tx bt bb w2 hls (gl_up hg (belowH_of s)) ((s.ok (.snap 0 w.heap.size w) (by simp) bb (Nat.zero_le _) hlt).trans hbb) h3 hne (rb_up hbt (belowH_of s))) rfl (fun w2 s e w3 hd => ?_)
  obtain ⟨o, ho, hw, hr⟩ := hd
  have s3 := st_att (show St w [.own b3 (isC [.int .i64 0] 23), .own b2 (isC [.slice none 0 0] 30), .snap 0 w.heap.size w] w2 from s.sub) hw hlt
  rcases o with _ | ⟨fa, fn, fc⟩ | z
  rotate_left
  · exact hr.elim
  · exact .inr ⟨_, ho, fun a ea => att_leaveR tx bb (.no z) w w2 w3 w3 b2 b3 hlt s.sub hw hr s3 _ a ea rfl rfl⟩
  refine .inl ⟨_, _, ho, s3, ?_⟩
  · skip
    refine to_nil ?_
    refine tn_code ?_
    refine t_seq ?_
    refine t_reg ?_
    first | refine to_st rfl rfl rfl rfl ?_ | refine to_ste rfl rfl (by assumption) rfl rfl ?_
    first | refine to_st rfl rfl rfl rfl ?_ | refine to_ste rfl rfl (by assumption) rfl rfl ?_
    refine to_nil ?_
    refine tn_code ?_
    exact t_ret (fun a w' ea s' => att_leaveR tx bb .ok w w2 w3 w' b2 b3 hlt s.sub hw hr (show St w [.own b2 (isC [.slice none 0 0] 30), .own b3 (isC [.int .i64 5] 23), .snap 0 w.heap.size w3, .snap w2.heap.size w3.heap.size w3] w' from s'.sub) _ a ea rfl rfl)

end Go.Proofs


namespace Go.Proofs
open Go Go.Sx Go.RowKit

def RShE (x : Sh) (er : Int) : Nat → World → Value → Prop := fun lo w1 v => ∃ pt : Pt, v = .tuple #[shV x pt, .int .i64 er] ∧ Ro w1 lo w1.heap.size pt.ea x.errs.length pt.ec 1 (ints x.errs) ∧ Ro w1 lo w1.heap.size pt.ra x.rows.length pt.rc 1 (ints x.rows)
theorem rr_long {tx : Bs} (h : 150 < tx.length) : roundRead tx = (sh0, 3) := by simp only [roundRead, if_pos h]
theorem rr_no {tx : Bs} (h : ¬ 150 < tx.length) (hp : parseZ tx = none) : roundRead tx = (sh0, 4) := by simp only [roundRead, if_neg h, hp]
theorem rr_t {tx : Bs} {b : Sh} (h : ¬ 150 < tx.length) (hp : parseZ tx = some b) (hb : isSh b = true) : roundRead tx = (b, 0) := by simp only [roundRead, if_neg h, hp, hb, if_true]
theorem rr_f {tx : Bs} {b : Sh} (h : ¬ 150 < tx.length) (hp : parseZ tx = some b) (hb : isSh b = false) : roundRead tx = (sh0, 2) := by simp only [roundRead, if_neg h, hp, hb, Bool.false_eq_true, if_false]
theorem own_ne2 {w0 w : World} {H : List Seg} {a b : Nat} {p q : Obj → Prop} (s : St w0 (.own a p :: H) w) (hm : .own b q ∈ H) : b ≠ a := by
  have := (List.pairwise_cons.1 s.apart).1 _ hm
  simp only [Seg.apart, Seg.lo, Seg.hi] at this
  omega
theorem own_ge {w0 w : World} {H : List Seg} {a hi : Nat} {p : Obj → Prop} {w1 : World} (s : St w0 (.own a p :: H) w) (hm : .snap 0 hi w1 ∈ H) : hi ≤ a := by
  have := (List.pairwise_cons.1 s.apart).1 _ hm
  simp only [Seg.apart, Seg.lo, Seg.hi] at this
  omega
theorem own_obj {w0 w : World} {H : List Seg} {b : Nat} {cs : List Value} {t : TypeId} (s : St w0 (.own b (isC cs t) :: H) w) : w.heap[b]? = some (.cells cs.toArray t (0, 0)) := by
  obtain ⟨o, ho, hp⟩ := s.ok _ (List.mem_cons_self ..)
  rw [ho]; exact congrArg some hp
theorem rshe_nil (er : Int) (lo : Nat) (w : World) : RShE sh0 er lo w (.tuple #[.agg [.int .i64 0, .int .i64 0, .slice none 0 0, .slice none 0 0].toArray, .int .i64 er]) := ⟨⟨none, 0, none, 0⟩, rfl, Ro.nil _ _ _ _, Ro.nil _ _ _ _⟩

set_option maxRecDepth 20000 in
theorem r_Read (tx : Bs) (w : World) (hg : Gl w) : Calls Tryz.prog 63 #[strV tx] w (Ret w (RShE (roundRead tx).1 (roundRead tx).2)) := by
  refine calls_T (av := [_]) Tryz.func63 rfl rfl rfl ?_
  refine t_seq ?_
  refine t_reg ?_
  refine to_box rfl rfl (fun b1 => ?_)
  refine to_alloc rfl (fun b2 => ?_)
  refine to_as rfl rfl ?_
  refine to_nil ?_
  refine tn_code ?_
  refine t_seq ?_
  refine t_seq ?_
  refine t_reg ?_
  first | refine to_lds rfl rfl rfl ?_ | refine to_ldes rfl (by assumption) rfl rfl ?_
  refine to_lenL rfl rfl ?_
  refine to_gtr rfl rfl rfl ?_
  refine to_nil ?_
  refine tn_code ?_
  refine t_if rfl (fun h1 => ?_) (fun h1 => ?_)
  · try simp only [decide_eq_true_eq, decide_eq_false_iff_not, Bool.not_eq_true', Bool.not_eq_false', Int.not_lt, Int.not_le, ne_eq, Decidable.not_not] at h1
    try have h1b := inB_iff.1 h1
    have hlong : 150 < tx.length := by omega
    refine t_seq ?_
    refine t_reg ?_
    refine to_bs rfl rfl ?_
    first | refine to_st rfl rfl rfl rfl ?_ | refine to_ste rfl rfl (by assumption) rfl rfl ?_
    refine to_as rfl rfl ?_
    refine to_nil ?_
    refine tn_code ?_
    refine t_ret2 rfl rfl (res_cellA rfl rfl) (res_tmp rfl) (fun w' s => ?_)
    first | (rw [rr_long hlong]; exact rshe_nil _ _ _) | (rw [rr_no hlong hp]; exact rshe_nil _ _ _) | (rw [rr_t hlong hp hib]; exact ⟨_, rfl, ro_snap s hlo2, ro_snap s hlo2⟩) | (rw [rr_f hlong hp hib]; exact rshe_nil _ _ _)
  · try simp only [decide_eq_true_eq, decide_eq_false_iff_not, Bool.not_eq_true', Bool.not_eq_false', Int.not_lt, Int.not_le, ne_eq, Decidable.not_not] at h1
    try have h1b := inB_iff.1 h1
    have hlong : ¬ 150 < tx.length := by omega
    refine t_skip ?_
    refine tn_code ?_
    refine t_seq ?_
    refine t_reg ?_
    refine to_alloc rfl (fun b4 => ?_)
    refine to_nil ?_
    refine tn_code ?_
    refine t_seq ?_
    refine t_seq ?_
    refine t_reg ?_
    refine to_mf rfl rfl rfl ?_
    refine to_callP (R := AttR tx b4) rfl rfl (fun w2 s => c_attemptR tx b1 b4 w2 (by omega) (gl_up hg (belowH_of s)) (own_obj s) (Nat.lt_of_lt_of_le hg.size (own_ge s (w1 := w) (by simp))) (own_ne2 (q := isC [strV tx] 9) s (by simp)) (rbw s)) rfl (fun w2 s2 e2 w3 hd => ?_)
    obtain ⟨o, rfl, hw, hr⟩ := hd
    rcases o with _ | ⟨fa, fn, fc⟩ | z
    rotate_left
    · exact hr.elim
    rotate_left
    · obtain ⟨x, pt, hp, hbb, hro, hro2⟩ := hr
      have hlo2 := s2.ge
      refine .inl ⟨_, _, rfl, s2.rewO (p' := isC (shC x pt) 33) hw.os hw.tape hw.output hw.size hw.block hbb rfl, ?_⟩
      refine to_mv rfl rfl ?_
      refine to_ex rfl rfl rfl ?_
      refine to_ex rfl rfl rfl ?_
      refine to_as rfl rfl ?_
      refine to_as rfl rfl ?_
      refine to_nil ?_
      refine tn_code ?_
      refine t_seq ?_
      refine t_reg ?_
      refine to_mv rfl rfl ?_
      refine to_eql rfl rfl rfl ?_
      refine to_fix (s := 17) (b' := false) rfl (rfl) ?_
      refine to_nil ?_
      refine tn_code ?_
      refine t_ifF rfl ?_
      refine t_skip ?_
      refine tn_code ?_
      refine t_seq ?_
      refine t_seq ?_
      refine t_reg ?_
      first | refine to_lda rfl rfl rfl ?_ | refine to_ldea rfl (by assumption) rfl rfl ?_
      refine to_call0 rfl rfl (fun w s => r_isSheet x pt w (rdw s) (rdw s)) rfl ?_
      refine to_not rfl rfl ?_
      refine to_nil ?_
      refine tn_code ?_
      refine t_if rfl (fun h2 => ?_) (fun h2 => ?_)
      · try simp only [decide_eq_true_eq, decide_eq_false_iff_not, Bool.not_eq_true', Bool.not_eq_false', Int.not_lt, Int.not_le, ne_eq, Decidable.not_not] at h2
        try have h2b := inB_iff.1 h2
        have hib := h2
        refine t_seq ?_
        refine t_reg ?_
        refine to_bs rfl rfl ?_
        first | refine to_st rfl rfl rfl rfl ?_ | refine to_ste rfl rfl (by assumption) rfl rfl ?_
        refine to_as rfl rfl ?_
        refine to_nil ?_
        refine tn_code ?_
        refine t_ret2 rfl rfl (res_cellA rfl rfl) (res_tmp rfl) (fun w' s => ?_)
        first | (rw [rr_long hlong]; exact rshe_nil _ _ _) | (rw [rr_no hlong hp]; exact rshe_nil _ _ _) | (rw [rr_t hlong hp hib]; exact ⟨_, rfl, ro_snap s hlo2, ro_snap s hlo2⟩) | (rw [rr_f hlong hp hib]; exact rshe_nil _ _ _)
      · try simp only [decide_eq_true_eq, decide_eq_false_iff_not, Bool.not_eq_true', Bool.not_eq_false', Int.not_lt, Int.not_le, ne_eq, Decidable.not_not] at h2
        try have h2b := inB_iff.1 h2
        have hib := h2
        refine t_skip ?_
        refine tn_code ?_
        refine t_seq ?_
        refine t_reg ?_
        first | refine to_lda rfl rfl rfl ?_ | refine to_ldea rfl (by assumption) rfl rfl ?_
        first | refine to_st rfl rfl rfl rfl ?_ | refine to_ste rfl rfl (by assumption) rfl rfl ?_
        refine to_as rfl rfl ?_
        refine to_nil ?_
        refine tn_code ?_
        refine t_ret2 rfl rfl (res_cellA rfl rfl) (res_tmp rfl) (fun w' s => ?_)
        first | (rw [rr_long hlong]; exact rshe_nil _ _ _) | (rw [rr_no hlong hp]; exact rshe_nil _ _ _) | (rw [rr_t hlong hp hib]; exact ⟨_, rfl, ro_snap s hlo2, ro_snap s hlo2⟩) | (rw [rr_f hlong hp hib]; exact rshe_nil _ _ _)
    · have hp := hr
      obtain ⟨ob, hob⟩ : ∃ ob, w3.heap[b4]? = some ob := ⟨_, Array.getElem?_eq_getElem (Nat.lt_of_lt_of_le (Array.getElem?_eq_some_iff.1 (own_obj s2)).1 hw.size)⟩
      refine .inl ⟨_, _, rfl, s2.rewO (p' := fun _ => True) hw.os hw.tape hw.output hw.size hw.block hob trivial, ?_⟩
      refine to_mv rfl rfl ?_
      refine to_ex rfl rfl rfl ?_
      refine to_ex rfl rfl rfl ?_
      refine to_as rfl rfl ?_
      refine to_as rfl rfl ?_
      refine to_nil ?_
      refine tn_code ?_
      refine t_seq ?_
      refine t_reg ?_
      refine to_mv rfl rfl ?_
      refine to_eql rfl rfl rfl ?_
      refine to_fix (s := 17) (b' := true) rfl (rfl) ?_
      refine to_nil ?_
      refine tn_code ?_
      refine t_ifT rfl ?_
      refine t_seq ?_
      refine t_reg ?_
      refine to_bs rfl rfl ?_
      refine to_mv rfl rfl ?_
      first | refine to_st rfl rfl rfl rfl ?_ | refine to_ste rfl rfl (by assumption) rfl rfl ?_
      refine to_as rfl rfl ?_
      refine to_nil ?_
      refine tn_code ?_
      refine t_ret2 rfl rfl (res_cellA rfl rfl) (res_tmp rfl) (fun w' s => ?_)
      first | (rw [rr_long hlong]; exact rshe_nil _ _ _) | (rw [rr_no hlong hp]; exact rshe_nil _ _ _) | (rw [rr_t hlong hp hib]; exact ⟨_, rfl, ro_snap s hlo2, ro_snap s hlo2⟩) | (rw [rr_f hlong hp hib]; exact rshe_nil _ _ _)

end Go.Proofs


namespace Go.Proofs
open Go Go.Sx Go.RowKit

theorem dg1_eq {n : Int} (h : 0 ≤ n) : UInt8.ofNat (48 + n).toNat = dg1 n := by
  simp only [dg1]
  rw [show (48 + n).toNat = 48 + n.toNat from by omega]
theorem decZ_step {n : Int} (h : 10 ≤ n) : decZ n = decZ (n / 10) ++ [dg1 (n % 10)] := by
  obtain ⟨u, rfl⟩ := Int.eq_ofNat_of_zero_le (show 0 ≤ n by omega)
  have e1 : ((u : Int) / 10) = ((u / 10 : Nat) : Int) := by omega
  have e2 : ((u : Int) % 10).toNat = u % 10 := by omega
  rw [e1, decZ_nat, decZ_nat, decDigits_step (by omega), dg1, e2]
theorem decZ_min {v : Int} (h : 1 ≤ v) : decZ (-v) = 45 :: decZ v := by
  obtain ⟨u, rfl⟩ := Int.eq_ofNat_of_zero_le (show 0 ≤ v by omega)
  rw [decZ_neg (by omega), decZ_nat]
theorem neg_quo {v : Int} (h : 1 ≤ v ∧ v ≤ 999999) : (-v).tdiv 10 = -(v / 10) := by
  rw [Int.neg_tdiv, Int.tdiv_eq_ediv_of_nonneg (by omega)]
theorem neg_rem {v : Int} (h : 1 ≤ v ∧ v ≤ 999999) : (-v).tmod 10 = -(v % 10) := by
  rw [Int.neg_tmod, Int.tmod_eq_emod_of_nonneg (by omega)]
theorem okZ_len {n : Int} (h : 0 ≤ n ∧ n ≤ 999999) : 1 ≤ (decZ n).length ∧ (decZ n).length ≤ 7 := decZ_len (by unfold okZ; omega)

set_option maxRecDepth 20000 in
theorem dec_pos (n : Int) (w : World) (h : 0 ≤ n ∧ n ≤ 999999) (hrec : 10 ≤ n → ∀ w, Calls Tryz.prog 122 #[.int .i64 (n / 10)] w (RetV w (strV (decZ (n / 10))))) : Calls Tryz.prog 122 #[(.int .i64 n)] w (RetV w (strV (decZ n))) := by
  refine calls_T0 (av := [_]) Tryz.func122 rfl rfl rfl ?_
  refine t_seq ?_
  refine t_reg ?_
  refine to_as rfl rfl ?_
  refine to_nil ?_
  refine tn_code ?_
  refine t_seq ?_
  refine t_seq ?_
  refine t_reg ?_
  refine to_mv rfl rfl ?_
  refine to_gtr rfl rfl rfl ?_
  refine to_mv rfl rfl ?_
  refine to_gs rfl rfl rfl (fun h1 => ?_) (fun h1 => ?_)
  · try simp only [decide_eq_true_eq, decide_eq_false_iff_not, Bool.not_eq_true', Bool.not_eq_false', Int.not_lt, Int.not_le, ne_eq, Decidable.not_not] at h1
    try have h1b := inB_iff.1 h1
    refine to_gt rfl rfl ?_
    refine to_mv rfl rfl ?_
    refine to_gt rfl rfl ?_
    refine to_lss rfl rfl rfl ?_
    refine to_pkT rfl rfl rfl ?_
    refine to_nil ?_
    refine tn_code ?_
    refine t_if rfl (fun h2 => ?_) (fun h2 => ?_)
    · try simp only [decide_eq_true_eq, decide_eq_false_iff_not, Bool.not_eq_true', Bool.not_eq_false', Int.not_lt, Int.not_le, ne_eq, Decidable.not_not] at h2
      try have h2b := inB_iff.1 h2
      exfalso; omega
    · try simp only [decide_eq_true_eq, decide_eq_false_iff_not, Bool.not_eq_true', Bool.not_eq_false', Int.not_lt, Int.not_le, ne_eq, Decidable.not_not] at h2
      try have h2b := inB_iff.1 h2
      refine t_skip ?_
      refine tn_code ?_
      refine t_seq ?_
      refine t_seq ?_
      refine t_reg ?_
      refine to_mv rfl rfl ?_
      refine to_lss rfl rfl rfl ?_
      refine to_nil ?_
      refine tn_code ?_
      refine t_if rfl (fun h3 => ?_) (fun h3 => ?_)
      · try simp only [decide_eq_true_eq, decide_eq_false_iff_not, Bool.not_eq_true', Bool.not_eq_false', Int.not_lt, Int.not_le, ne_eq, Decidable.not_not] at h3
        try have h3b := inB_iff.1 h3
        exfalso; omega
      · try simp only [decide_eq_true_eq, decide_eq_false_iff_not, Bool.not_eq_true', Bool.not_eq_false', Int.not_lt, Int.not_le, ne_eq, Decidable.not_not] at h3
        try have h3b := inB_iff.1 h3
        refine t_skip ?_
        refine tn_code ?_
        refine t_seq ?_
        refine t_seq ?_
        refine t_reg ?_
        refine to_mv rfl rfl ?_
        refine to_lss rfl rfl rfl ?_
        refine to_nil ?_
        refine tn_code ?_
        refine t_if rfl (fun h4 => ?_) (fun h4 => ?_)
        · try simp only [decide_eq_true_eq, decide_eq_false_iff_not, Bool.not_eq_true', Bool.not_eq_false', Int.not_lt, Int.not_le, ne_eq, Decidable.not_not] at h4
          try have h4b := inB_iff.1 h4
          refine t_seq ?_
          refine t_reg ?_
          refine to_mv rfl rfl ?_
          refine to_add rfl rfl (by omega) rfl ?_
          refine to_cv rfl (by first | exact wrap_id (by omega) | exact IntWalk.u8_in _ (by omega) | exact IntWalk.i32_in _ (by omega)) rfl ?_
          refine to_bsl rfl rfl rfl rfl (fun a32 => ?_)
          refine to_bts1 rfl rfl ?_
          refine to_as rfl rfl ?_
          refine to_nil ?_
          refine tn_code ?_
          refine t_ret1 rfl rfl (res_tmp rfl) (fun w' s => ?_)
          first | (rw [decZ_one (n := n) (by omega)]; rw [dg1_eq (n := n) (by omega)]) | (rw [decZ_step (n := n) (by omega)]; rw [dg1_eq (n := n % 10) (by omega)])
        · try simp only [decide_eq_true_eq, decide_eq_false_iff_not, Bool.not_eq_true', Bool.not_eq_false', Int.not_lt, Int.not_le, ne_eq, Decidable.not_not] at h4
          try have h4b := inB_iff.1 h4
          refine t_skip ?_
          refine tn_code ?_
          refine t_seq ?_
          have hdl := okZ_len (n := n / 10) (by omega)
          refine t_regM [7, 8] [.snap 0 w.heap.size w] rfl (by kernel_rfl) (by kernel_rfl) ?_
          refine tm_q ?e1 rfl ?q1 ?r1
          case q1 =>
            refine to_mv rfl rfl ?_
            exact tmq_end
          refine tm_q ?e2 rfl ?q2 ?r2
          case q2 =>
            refine to_quo rfl rfl (by omega) (by omega) rfl ?_
            exact tmq_end
          refine tm_q ?e3 rfl ?q3 ?r3
          case q3 =>
            refine to_call0 rfl rfl (fun w s => hrec (by omega) w) rfl ?_
            exact tmq_end
          refine tm_q ?e4 rfl ?q4 ?r4
          case q4 =>
            refine to_mv rfl rfl ?_
            exact tmq_end
          refine tm_q ?e5 rfl ?q5 ?r5
          case q5 =>
            refine to_rem rfl rfl (by omega) (by omega) rfl ?_
            exact tmq_end
          refine tm_q ?e6 rfl ?q6 ?r6
          case q6 =>
            refine to_add rfl rfl (by omega) rfl ?_
            exact tmq_end
          refine tm_q ?e7 rfl ?q7 ?r7
          case q7 =>
            refine to_cv rfl (by first | exact wrap_id (by omega) | exact IntWalk.u8_in _ (by omega) | exact IntWalk.i32_in _ (by omega)) rfl ?_
            exact tmq_end
          refine tm_s rfl ?_ (fun _ h => by cases h) rfl
          refine to_bsl rfl rfl rfl rfl (fun a41 => ?_)
          refine tm_se rfl ?_
          refine tm_s rfl ?_ (fun _ h => by cases h) rfl
          refine to_bts1 rfl rfl ?_
          refine tm_se rfl ?_
          refine tm_q ?e8 rfl ?q8 ?r8
          case q8 =>
            refine to_sadd rfl rfl (by first | omega | (simp only [List.length_append, List.length_cons, List.length_nil]; omega)) rfl ?_
            exact tmq_end
          refine tm_q ?e9 rfl ?q9 ?r9
          case q9 =>
            refine to_as rfl rfl ?_
            exact tmq_end
          refine tm_nil ?_
          refine tn_code ?_
          refine t_ret1 rfl rfl (res_tmp rfl) (fun w' s => ?_)
          first | (rw [decZ_one (n := n) (by omega)]; rw [dg1_eq (n := n) (by omega)]) | (rw [decZ_step (n := n) (by omega)]; rw [dg1_eq (n := n % 10) (by omega)])
  · try simp only [decide_eq_true_eq, decide_eq_false_iff_not, Bool.not_eq_true', Bool.not_eq_false', Int.not_lt, Int.not_le, ne_eq, Decidable.not_not] at h1
    try have h1b := inB_iff.1 h1
    refine to_gf rfl rfl rfl rfl ?_
    refine to_gf rfl rfl rfl rfl ?_
    refine to_pkF rfl rfl rfl ?_
    refine to_nil ?_
    refine tn_code ?_
    refine t_ifF rfl ?_
    refine t_skip ?_
    refine tn_code ?_
    refine t_seq ?_
    refine t_seq ?_
    refine t_reg ?_
    refine to_mv rfl rfl ?_
    refine to_lss rfl rfl rfl ?_
    refine to_nil ?_
    refine tn_code ?_
    refine t_if rfl (fun h5 => ?_) (fun h5 => ?_)
    · try simp only [decide_eq_true_eq, decide_eq_false_iff_not, Bool.not_eq_true', Bool.not_eq_false', Int.not_lt, Int.not_le, ne_eq, Decidable.not_not] at h5
      try have h5b := inB_iff.1 h5
      exfalso; omega
    · try simp only [decide_eq_true_eq, decide_eq_false_iff_not, Bool.not_eq_true', Bool.not_eq_false', Int.not_lt, Int.not_le, ne_eq, Decidable.not_not] at h5
      try have h5b := inB_iff.1 h5
      refine t_skip ?_
      refine tn_code ?_
      refine t_seq ?_
      refine t_seq ?_
      refine t_reg ?_
      refine to_mv rfl rfl ?_
      refine to_lss rfl rfl rfl ?_
      refine to_nil ?_
      refine tn_code ?_
      refine t_if rfl (fun h6 => ?_) (fun h6 => ?_)
      · try simp only [decide_eq_true_eq, decide_eq_false_iff_not, Bool.not_eq_true', Bool.not_eq_false', Int.not_lt, Int.not_le, ne_eq, Decidable.not_not] at h6
        try have h6b := inB_iff.1 h6
        refine t_seq ?_
        refine t_reg ?_
        refine to_mv rfl rfl ?_
        refine to_add rfl rfl (by omega) rfl ?_
        refine to_cv rfl (by first | exact wrap_id (by omega) | exact IntWalk.u8_in _ (by omega) | exact IntWalk.i32_in _ (by omega)) rfl ?_
        refine to_bsl rfl rfl rfl rfl (fun a32 => ?_)
        refine to_bts1 rfl rfl ?_
        refine to_as rfl rfl ?_
        refine to_nil ?_
        refine tn_code ?_
        refine t_ret1 rfl rfl (res_tmp rfl) (fun w' s => ?_)
        first | (rw [decZ_one (n := n) (by omega)]; rw [dg1_eq (n := n) (by omega)]) | (rw [decZ_step (n := n) (by omega)]; rw [dg1_eq (n := n % 10) (by omega)])
      · try simp only [decide_eq_true_eq, decide_eq_false_iff_not, Bool.not_eq_true', Bool.not_eq_false', Int.not_lt, Int.not_le, ne_eq, Decidable.not_not] at h6
        try have h6b := inB_iff.1 h6
        refine t_skip ?_
        refine tn_code ?_
        refine t_seq ?_
        have hdl := okZ_len (n := n / 10) (by omega)
        refine t_regM [7, 8] [.snap 0 w.heap.size w] rfl (by kernel_rfl) (by kernel_rfl) ?_
        refine tm_q ?e10 rfl ?q10 ?r10
        case q10 =>
          refine to_mv rfl rfl ?_
          exact tmq_end
        refine tm_q ?e11 rfl ?q11 ?r11
        case q11 =>
          refine to_quo rfl rfl (by omega) (by omega) rfl ?_
          exact tmq_end
        refine tm_q ?e12 rfl ?q12 ?r12
        case q12 =>
          refine to_call0 rfl rfl (fun w s => hrec (by omega) w) rfl ?_
          exact tmq_end
        refine tm_q ?e13 rfl ?q13 ?r13
        case q13 =>
          refine to_mv rfl rfl ?_
          exact tmq_end
        refine tm_q ?e14 rfl ?q14 ?r14
        case q14 =>
          refine to_rem rfl rfl (by omega) (by omega) rfl ?_
          exact tmq_end
        refine tm_q ?e15 rfl ?q15 ?r15
        case q15 =>
          refine to_add rfl rfl (by omega) rfl ?_
          exact tmq_end
        refine tm_q ?e16 rfl ?q16 ?r16
        case q16 =>
          refine to_cv rfl (by first | exact wrap_id (by omega) | exact IntWalk.u8_in _ (by omega) | exact IntWalk.i32_in _ (by omega)) rfl ?_
          exact tmq_end
        refine tm_s rfl ?_ (fun _ h => by cases h) rfl
        refine to_bsl rfl rfl rfl rfl (fun a41 => ?_)
        refine tm_se rfl ?_
        refine tm_s rfl ?_ (fun _ h => by cases h) rfl
        refine to_bts1 rfl rfl ?_
        refine tm_se rfl ?_
        refine tm_q ?e17 rfl ?q17 ?r17
        case q17 =>
          refine to_sadd rfl rfl (by first | omega | (simp only [List.length_append, List.length_cons, List.length_nil]; omega)) rfl ?_
          exact tmq_end
        refine tm_q ?e18 rfl ?q18 ?r18
        case q18 =>
          refine to_as rfl rfl ?_
          exact tmq_end
        refine tm_nil ?_
        refine tn_code ?_
        refine t_ret1 rfl rfl (res_tmp rfl) (fun w' s => ?_)
        first | (rw [decZ_one (n := n) (by omega)]; rw [dg1_eq (n := n) (by omega)]) | (rw [decZ_step (n := n) (by omega)]; rw [dg1_eq (n := n % 10) (by omega)])

set_option maxRecDepth 20000 in
theorem dec_neg (v : Int) (w : World) (h : 1 ≤ v ∧ v ≤ 999999) (hrec : 10 ≤ v → ∀ w, Calls Tryz.prog 122 #[.int .i64 (-(v / 10))] w (RetV w (strV (45 :: decZ (v / 10))))) : Calls Tryz.prog 122 #[(.int .i64 (-v))] w (RetV w (strV (45 :: decZ v))) := by
  have hdl := okZ_len (n := v / 10) (by omega)
  refine calls_T0 (av := [_]) Tryz.func122 rfl rfl rfl ?_
  refine t_seq ?_
  refine t_reg ?_
  refine to_as rfl rfl ?_
  refine to_nil ?_
  refine tn_code ?_
  refine t_seq ?_
  refine t_seq ?_
  refine t_reg ?_
  refine to_mv rfl rfl ?_
  refine to_gtr rfl rfl rfl ?_
  refine to_mv rfl rfl ?_
  refine to_gs rfl rfl rfl (fun h1 => ?_) (fun h1 => ?_)
  · try simp only [decide_eq_true_eq, decide_eq_false_iff_not, Bool.not_eq_true', Bool.not_eq_false', Int.not_lt, Int.not_le, ne_eq, Decidable.not_not] at h1
    try have h1b := inB_iff.1 h1
    refine to_gt rfl rfl ?_
    refine to_mv rfl rfl ?_
    refine to_gt rfl rfl ?_
    refine to_lss rfl rfl rfl ?_
    refine to_pkT rfl rfl rfl ?_
    refine to_nil ?_
    refine tn_code ?_
    refine t_if rfl (fun h2 => ?_) (fun h2 => ?_)
    · try simp only [decide_eq_true_eq, decide_eq_false_iff_not, Bool.not_eq_true', Bool.not_eq_false', Int.not_lt, Int.not_le, ne_eq, Decidable.not_not] at h2
      try have h2b := inB_iff.1 h2
      refine t_seq ?_
      refine t_reg ?_
      refine to_mv rfl rfl ?_
      refine to_sub rfl rfl (by omega) rfl ?_
      refine to_cv rfl (by first | exact wrap_id (by omega) | exact IntWalk.u8_in _ (by omega) | exact IntWalk.i32_in _ (by omega)) rfl ?_
      refine to_bsl rfl rfl rfl rfl (fun a12 => ?_)
      refine to_bts1 rfl rfl ?_
      refine to_sadd rfl rfl (by first | omega | (simp only [List.length_append, List.length_cons, List.length_nil]; omega)) rfl ?_
      refine to_as rfl rfl ?_
      refine to_nil ?_
      refine tn_code ?_
      refine t_ret1 rfl rfl (res_tmp rfl) (fun w' s => ?_)
      first | (rw [decZ_one (n := v) (by omega), Int.sub_neg, dg1_eq (n := v) (by omega)]; done) | (rw [decZ_one (n := v) (by omega), Int.sub_neg, dg1_eq (n := v) (by omega)]; rfl) | (rw [decZ_step (n := v) (by omega), Int.sub_neg, dg1_eq (n := v % 10) (by omega)]; done) | (rw [decZ_step (n := v) (by omega), Int.sub_neg, dg1_eq (n := v % 10) (by omega)]; rfl)
    · try simp only [decide_eq_true_eq, decide_eq_false_iff_not, Bool.not_eq_true', Bool.not_eq_false', Int.not_lt, Int.not_le, ne_eq, Decidable.not_not] at h2
      try have h2b := inB_iff.1 h2
      refine t_skip ?_
      refine tn_code ?_
      refine t_seq ?_
      refine t_seq ?_
      refine t_reg ?_
      refine to_mv rfl rfl ?_
      refine to_lss rfl rfl rfl ?_
      refine to_fix (s := 16) (b' := true) rfl (decide_eq_true (by omega)) ?_
      refine to_nil ?_
      refine tn_code ?_
      refine t_ifT rfl ?_
      refine t_seq ?_
      refine t_regM [7, 8] [.snap 0 w.heap.size w] rfl (by kernel_rfl) (by kernel_rfl) ?_
      refine tm_q ?e1 rfl ?q1 ?r1
      case q1 =>
        refine to_mv rfl rfl ?_
        exact tmq_end
      refine tm_q ?e2 rfl ?q2 ?r2
      case q2 =>
        refine to_quoE rfl rfl (by decide) ((congrArg _ (neg_quo h)).trans (wrap_id (by omega))) rfl ?_
        exact tmq_end
      refine tm_q ?e3 rfl ?q3 ?r3
      case q3 =>
        refine to_call0 rfl rfl (fun w s => hrec (by omega) w) rfl ?_
        exact tmq_end
      refine tm_q ?e4 rfl ?q4 ?r4
      case q4 =>
        refine to_mv rfl rfl ?_
        exact tmq_end
      refine tm_q ?e5 rfl ?q5 ?r5
      case q5 =>
        refine to_remE rfl rfl (by decide) (neg_rem h) rfl ?_
        exact tmq_end
      refine tm_q ?e6 rfl ?q6 ?r6
      case q6 =>
        refine to_sub rfl rfl (by omega) rfl ?_
        exact tmq_end
      refine tm_q ?e7 rfl ?q7 ?r7
      case q7 =>
        refine to_cv rfl (by first | exact wrap_id (by omega) | exact IntWalk.u8_in _ (by omega) | exact IntWalk.i32_in _ (by omega)) rfl ?_
        exact tmq_end
      refine tm_s rfl ?_ (fun _ h => by cases h) rfl
      refine to_bsl rfl rfl rfl rfl (fun a24 => ?_)
      refine tm_se rfl ?_
      refine tm_s rfl ?_ (fun _ h => by cases h) rfl
      refine to_bts1 rfl rfl ?_
      refine tm_se rfl ?_
      refine tm_q ?e8 rfl ?q8 ?r8
      case q8 =>
        refine to_sadd rfl rfl (by first | omega | (simp only [List.length_append, List.length_cons, List.length_nil]; omega)) rfl ?_
        exact tmq_end
      refine tm_q ?e9 rfl ?q9 ?r9
      case q9 =>
        refine to_as rfl rfl ?_
        exact tmq_end
      refine tm_nil ?_
      refine tn_code ?_
      refine t_ret1 rfl rfl (res_tmp rfl) (fun w' s => ?_)
      first | (rw [decZ_one (n := v) (by omega), Int.sub_neg, dg1_eq (n := v) (by omega)]; done) | (rw [decZ_one (n := v) (by omega), Int.sub_neg, dg1_eq (n := v) (by omega)]; rfl) | (rw [decZ_step (n := v) (by omega), Int.sub_neg, dg1_eq (n := v % 10) (by omega)]; done) | (rw [decZ_step (n := v) (by omega), Int.sub_neg, dg1_eq (n := v % 10) (by omega)]; rfl)
  · try simp only [decide_eq_true_eq, decide_eq_false_iff_not, Bool.not_eq_true', Bool.not_eq_false', Int.not_lt, Int.not_le, ne_eq, Decidable.not_not] at h1
    try have h1b := inB_iff.1 h1
    refine to_gf rfl rfl rfl rfl ?_
    refine to_gf rfl rfl rfl rfl ?_
    refine to_pkF rfl rfl rfl ?_
    refine to_nil ?_
    refine tn_code ?_
    refine t_ifF rfl ?_
    refine t_skip ?_
    refine tn_code ?_
    refine t_seq ?_
    refine t_seq ?_
    refine t_reg ?_
    refine to_mv rfl rfl ?_
    refine to_lss rfl rfl rfl ?_
    refine to_fix (s := 16) (b' := true) rfl (decide_eq_true (by omega)) ?_
    refine to_nil ?_
    refine tn_code ?_
    refine t_ifT rfl ?_
    refine t_seq ?_
    refine t_regM [7, 8] [.snap 0 w.heap.size w] rfl (by kernel_rfl) (by kernel_rfl) ?_
    refine tm_q ?e10 rfl ?q10 ?r10
    case q10 =>
      refine to_mv rfl rfl ?_
      exact tmq_end
    refine tm_q ?e11 rfl ?q11 ?r11
    case q11 =>
      refine to_quoE rfl rfl (by decide) ((congrArg _ (neg_quo h)).trans (wrap_id (by omega))) rfl ?_
      exact tmq_end
    refine tm_q ?e12 rfl ?q12 ?r12
    case q12 =>
      refine to_call0 rfl rfl (fun w s => hrec (by omega) w) rfl ?_
      exact tmq_end
    refine tm_q ?e13 rfl ?q13 ?r13
    case q13 =>
      refine to_mv rfl rfl ?_
      exact tmq_end
    refine tm_q ?e14 rfl ?q14 ?r14
    case q14 =>
      refine to_remE rfl rfl (by decide) (neg_rem h) rfl ?_
      exact tmq_end
    refine tm_q ?e15 rfl ?q15 ?r15
    case q15 =>
      refine to_sub rfl rfl (by omega) rfl ?_
      exact tmq_end
    refine tm_q ?e16 rfl ?q16 ?r16
    case q16 =>
      refine to_cv rfl (by first | exact wrap_id (by omega) | exact IntWalk.u8_in _ (by omega) | exact IntWalk.i32_in _ (by omega)) rfl ?_
      exact tmq_end
    refine tm_s rfl ?_ (fun _ h => by cases h) rfl
    refine to_bsl rfl rfl rfl rfl (fun a24 => ?_)
    refine tm_se rfl ?_
    refine tm_s rfl ?_ (fun _ h => by cases h) rfl
    refine to_bts1 rfl rfl ?_
    refine tm_se rfl ?_
    refine tm_q ?e17 rfl ?q17 ?r17
    case q17 =>
      refine to_sadd rfl rfl (by first | omega | (simp only [List.length_append, List.length_cons, List.length_nil]; omega)) rfl ?_
      exact tmq_end
    refine tm_q ?e18 rfl ?q18 ?r18
    case q18 =>
      refine to_as rfl rfl ?_
      exact tmq_end
    refine tm_nil ?_
    refine tn_code ?_
    refine t_ret1 rfl rfl (res_tmp rfl) (fun w' s => ?_)
    first | (rw [decZ_one (n := v) (by omega), Int.sub_neg, dg1_eq (n := v) (by omega)]; done) | (rw [decZ_one (n := v) (by omega), Int.sub_neg, dg1_eq (n := v) (by omega)]; rfl) | (rw [decZ_step (n := v) (by omega), Int.sub_neg, dg1_eq (n := v % 10) (by omega)]; done) | (rw [decZ_step (n := v) (by omega), Int.sub_neg, dg1_eq (n := v % 10) (by omega)]; rfl)

theorem T_DecPos : ∀ (k : Nat) (n : Int) (w : World), 0 ≤ n → n < 10 ^ (k + 1) → k ≤ 5 → Calls Tryz.prog 122 #[.int .i64 n] w (RetV w (strV (decZ n)))
  | 0, n, w, h1, h2, _ => dec_pos n w (by omega) (fun h => by omega)
  | k + 1, n, w, h1, h2, h3 => by
    have hb : (10 : Int) ^ (k + 1 + 1) ≤ 1000000 := by
      obtain rfl | rfl | rfl | rfl | rfl : k = 0 ∨ k = 1 ∨ k = 2 ∨ k = 3 ∨ k = 4 := by omega
      all_goals decide
    exact dec_pos n w (by omega) (fun h w => T_DecPos k (n / 10) w (by omega) (by rw [Int.pow_succ] at h2; generalize (10 : Int) ^ (k + 1) = p at *; omega) (by omega))
theorem T_DecNeg : ∀ (k : Nat) (v : Int) (w : World), 1 ≤ v → v < 10 ^ (k + 1) → k ≤ 5 → Calls Tryz.prog 122 #[.int .i64 (-v)] w (RetV w (strV (45 :: decZ v)))
  | 0, v, w, h1, h2, _ => dec_neg v w (by omega) (fun h => by omega)
  | k + 1, v, w, h1, h2, h3 => by
    have hb : (10 : Int) ^ (k + 1 + 1) ≤ 1000000 := by
      obtain rfl | rfl | rfl | rfl | rfl : k = 0 ∨ k = 1 ∨ k = 2 ∨ k = 3 ∨ k = 4 := by omega
      all_goals decide
    exact dec_neg v w (by omega) (fun h w => T_DecNeg k (v / 10) w (by omega) (by rw [Int.pow_succ] at h2; generalize (10 : Int) ^ (k + 1) = p at *; omega) (by omega))
theorem T_Decimal (n : Int) (w : World) (h : okZ n) : Calls Tryz.prog 122 #[.int .i64 n] w (RetV w (strV (decZ n))) := by
  unfold okZ at h
  by_cases hn : 0 ≤ n
  · exact T_DecPos 5 n w hn (by have h9 : (10 : Int) ^ (5 + 1) = 1000000 := (by decide); omega) (by decide)
  · have h1 := T_DecNeg 5 (-n) w (by omega) (by have h9 : (10 : Int) ^ (5 + 1) = 1000000 := (by decide); omega) (by decide)
    rw [← decZ_min (by omega), Int.neg_neg] at h1
    exact h1

def rw1 (word : Bs) (n : Int) (k : Nat) : Bs := if k = 0 then word else lineZ word n

set_option maxRecDepth 20000 in
theorem T_Row1 (word : Bs) (n : Int) (a : Option Addr) (c : Nat) (w : World) (hr : Ro w 0 w.heap.size a 1 c 1 (ints [n])) (hb : okZ n) (hwl : word.length ≤ 1000) : Calls Tryz.prog 101 #[strV word, .slice a 1 c] w (RetV w (strV (lineZ word n))) := by
  have hdl := decZ_len hb
  refine calls_T0 (av := [_, _]) Tryz.func101 rfl rfl rfl ?_
  refine t_seq ?_
  refine t_reg ?_
  refine to_as rfl rfl ?_
  refine to_nil ?_
  refine tn_code ?_
  refine t_seq ?_
  refine t_seq ?_
  refine t_reg ?_
  refine to_as rfl rfl ?_
  refine to_nil ?_
  refine tn_code ?_
  refine t_blk ?_
  refine t_loop2 (ι := Nat) (fun k => k ≤ 1) (fun k => [(0, strV (rw1 word n k)), (1, .slice a 1 c), (5, .int .i64 (k : Int))]) (fun k => [.snap 0 w.heap.size w]) (fun k => 1 - k) (0) [.snap 0 w.heap.size w] (rfl) (Nat.zero_le _) (⟨rfl, rfl, rfl, trivial⟩) ?_
  rintro k hk
  show T _ _ _ ⟨_, [(0, strV (rw1 word n k)), (1, .slice a 1 c), (5, .int .i64 (k : Int))], _⟩ [.snap 0 w.heap.size w]
  refine t_seq ?_
  refine t_seq ?_
  refine t_reg ?_
  refine to_mv rfl rfl ?_
  refine to_mv rfl rfl ?_
  refine to_lenS rfl rfl ?_
  refine to_lss rfl rfl rfl ?_
  refine to_nil ?_
  refine tn_code ?_
  refine t_if rfl (fun h1 => ?_) (fun h1 => ?_)
  · try simp only [decide_eq_true_eq, decide_eq_false_iff_not, Bool.not_eq_true', Bool.not_eq_false', Int.not_lt, Int.not_le, ne_eq, Decidable.not_not] at h1
    try have h1b := inB_iff.1 h1
    have hk0 : k = 0 := by omega
    subst hk0
    have hx : (ints [n])[0]? = some (intC n) := rfl
    have hrw : rw1 word n 0 = word := rfl
    rw [hrw]
    refine t_skip ?_
    refine tn_code ?_
    refine t_seq ?_
    refine t_blk ?_
    refine t_reg ?_
    refine to_mv rfl rfl ?_
    refine to_sadd rfl rfl (by first | omega | (simp only [List.length_append, List.length_cons, List.length_nil]; omega)) rfl ?_
    refine to_mv rfl rfl ?_
    refine to_mv rfl rfl ?_
    first | refine to_ix rfl rfl rfl (by first | omega | decide) (by first | omega | decide) rfl ?_ | refine to_ixi rfl rfl rfl (by omega) (by omega) (by omega) rfl ?_
    first | refine to_lds rfl rfl rfl ?_ | refine to_ldes rfl (by assumption) rfl rfl ?_
    refine to_call0 rfl rfl (fun w s => T_Decimal n w hb) rfl ?_
    refine to_sadd rfl rfl (by first | omega | (simp only [List.length_append, List.length_cons, List.length_nil]; omega)) rfl ?_
    refine to_as rfl rfl ?_
    refine to_nil ?_
    refine tn_blk ?_
    refine tn_code ?_
    refine t_reg ?_
    refine to_mv rfl rfl ?_
    refine to_add rfl rfl (by omega) rfl ?_
    refine to_as rfl rfl ?_
    refine to_nil ?_
    exact tn_loop2 (0 + 1) [.snap 0 w.heap.size w] (rfl) (by omega) (by omega) (⟨congrArg (fun z => some (strV z)) (by simp [rw1, lineZ]), rfl, rfl, trivial⟩)
  · try simp only [decide_eq_true_eq, decide_eq_false_iff_not, Bool.not_eq_true', Bool.not_eq_false', Int.not_lt, Int.not_le, ne_eq, Decidable.not_not] at h1
    try have h1b := inB_iff.1 h1
    have hk2 : k = 1 := by omega
    subst hk2
    refine t_exit ?_
    refine tx_code ?_
    refine tx_inv ?_
    refine tx_blk ?_
    refine tn_code ?_
    refine t_seq ?_
    refine t_reg ?_
    refine to_mv rfl rfl ?_
    refine to_as rfl rfl ?_
    refine to_nil ?_
    refine tn_code ?_
    refine t_ret1 rfl rfl (res_tmp rfl) (fun w' s => ?_)
    rfl

set_option maxRecDepth 20000 in
theorem T_Sealed (ws : List Bs) (a : Option Addr) (c : Nat) (w : World) (hr : Ro w 0 w.heap.size a ws.length c 1 (strs ws)) (hre : ∀ r ∈ ws, r.length ≤ 100) (hl : ws.length ≤ 1000) : Calls Tryz.prog 103 #[.slice a ws.length c, (.int .i64 239)] w (RetV w (strV (sealZ ws 239))) := by
  refine calls_T0 (av := [_, _]) Tryz.func103 rfl rfl rfl ?_
  refine t_seq ?_
  refine t_reg ?_
  refine to_as rfl rfl ?_
  refine to_nil ?_
  refine tn_code ?_
  refine t_seq ?_
  refine t_reg ?_
  refine to_as rfl rfl ?_
  refine to_as rfl rfl ?_
  refine to_nil ?_
  refine tn_code ?_
  refine t_seq ?_
  refine t_seq ?_
  refine t_reg ?_
  refine to_as rfl rfl ?_
  refine to_nil ?_
  refine tn_code ?_
  refine t_blk ?_
  refine t_loop2 (ι := Nat) (fun i => i ≤ ws.length) (fun i => [(0, .slice a ws.length c), (1, .int .i64 239), (5, strV (linesT ws i)), (6, .int .i64 (chkR ws i)), (7, .int .i64 (i : Int))]) (fun i => [.snap 0 w.heap.size w]) (fun i => ws.length - i) (0) [.snap 0 w.heap.size w] (rfl) (Nat.zero_le _) (⟨rfl, rfl, rfl, rfl, rfl, trivial⟩) ?_
  rintro i hk
  show T _ _ _ ⟨_, [(0, .slice a ws.length c), (1, .int .i64 239), (5, strV (linesT ws i)), (6, .int .i64 (chkR ws i)), (7, .int .i64 (i : Int))], _⟩ [.snap 0 w.heap.size w]
  refine t_seq ?_
  refine t_seq ?_
  refine t_reg ?_
  refine to_mv rfl rfl ?_
  refine to_mv rfl rfl ?_
  refine to_lenS rfl rfl ?_
  refine to_lss rfl rfl rfl ?_
  refine to_nil ?_
  refine tn_code ?_
  refine t_if rfl (fun h1 => ?_) (fun h1 => ?_)
  · try simp only [decide_eq_true_eq, decide_eq_false_iff_not, Bool.not_eq_true', Bool.not_eq_false', Int.not_lt, Int.not_le, ne_eq, Decidable.not_not] at h1
    try have h1b := inB_iff.1 h1
    obtain ⟨wd, hw⟩ := some_get (xs := ws) (k := i) (by omega)
    have hx := map_get (f := strC) hw
    have hwl := hre wd (List.mem_of_getElem? hw)
    have hll := linesT_len hre i (by omega)
    have hrb := chkR_b hre i (by omega) (by omega)
    refine t_skip ?_
    refine tn_code ?_
    refine t_seq ?_
    refine t_blk ?_
    refine t_seq ?_
    refine t_seq ?_
    refine t_reg ?_
    refine to_as rfl rfl ?_
    refine to_nil ?_
    refine tn_code ?_
    refine t_blk ?_
    refine t_loop2 (ι := Nat) (fun k => k ≤ wd.length) (fun k => [(0, .slice a ws.length c), (1, .int .i64 239), (5, strV (linesT ws i)), (6, .int .i64 (chkR ws i + chkC i wd k)), (7, .int .i64 (i : Int)), (8, .int .i64 (k : Int))]) (fun k => [.snap 0 w.heap.size w]) (fun k => wd.length - k) (0) [.snap 0 w.heap.size w] (rfl) (Nat.zero_le _) (⟨rfl, rfl, rfl, congrArg (fun z => some (Value.int .i64 z)) (Int.add_zero _).symm, rfl, rfl, trivial⟩) ?_
    rintro k hk
    show T _ _ _ ⟨_, [(0, .slice a ws.length c), (1, .int .i64 239), (5, strV (linesT ws i)), (6, .int .i64 (chkR ws i + chkC i wd k)), (7, .int .i64 (i : Int)), (8, .int .i64 (k : Int))], _⟩ [.snap 0 w.heap.size w]
    refine t_seq ?_
    refine t_seq ?_
    refine t_reg ?_
    refine to_mv rfl rfl ?_
    refine to_mv rfl rfl ?_
    refine to_mv rfl rfl ?_
    first | refine to_ix rfl rfl rfl (by first | omega | decide) (by first | omega | decide) rfl ?_ | refine to_ixi rfl rfl rfl (by omega) (by omega) (by omega) rfl ?_
    first | refine to_lds rfl rfl rfl ?_ | refine to_ldes rfl (by assumption) rfl rfl ?_
    refine to_lenL rfl rfl ?_
    refine to_lss rfl rfl rfl ?_
    refine to_nil ?_
    refine tn_code ?_
    refine t_if rfl (fun h2 => ?_) (fun h2 => ?_)
    · try simp only [decide_eq_true_eq, decide_eq_false_iff_not, Bool.not_eq_true', Bool.not_eq_false', Int.not_lt, Int.not_le, ne_eq, Decidable.not_not] at h2
      try have h2b := inB_iff.1 h2
      obtain ⟨cc, hc⟩ := some_get (xs := wd) (k := k) (by omega)
      have hcu := u8_le cc
      have hm1 := mul_bd (a := ((cc.toNat : Nat) : Int)) (b := (k : Int) + 1) (B := 255) (C := 100) (by omega) (by omega) (by omega) (by omega)
      have hm2 := mul_bd (a := ((cc.toNat : Nat) : Int) * ((k : Int) + 1)) (b := (i : Int) + 1) (B := 25500) (C := 1001) (by omega) (by omega) (by omega) (by omega)
      have hcb := chkC_b (i := i) (w := wd) (by omega) k (by omega)
      refine t_skip ?_
      refine tn_code ?_
      refine t_seq ?_
      refine t_blk ?_
      refine t_reg ?_
      refine to_mv rfl rfl ?_
      refine to_mv rfl rfl ?_
      refine to_mv rfl rfl ?_
      first | refine to_ix rfl rfl rfl (by first | omega | decide) (by first | omega | decide) rfl ?_ | refine to_ixi rfl rfl rfl (by omega) (by omega) (by omega) rfl ?_
      first | refine to_lds rfl rfl rfl ?_ | refine to_ldes rfl (by assumption) rfl rfl ?_
      refine to_mv rfl rfl ?_
      refine to_sidx rfl rfl (by assumption) rfl ?_
      refine to_cv rfl (by first | exact wrap_id (by omega) | exact IntWalk.u8_in _ (by omega) | exact IntWalk.i32_in _ (by omega)) rfl ?_
      refine to_mv rfl rfl ?_
      refine to_add rfl rfl (by omega) rfl ?_
      refine to_mul rfl rfl (by first | omega | exact mul_ok (by omega) (by omega) (by omega) (by omega)) rfl ?_
      refine to_mv rfl rfl ?_
      refine to_add rfl rfl (by omega) rfl ?_
      refine to_mul rfl rfl (by first | omega | exact mul_ok (by omega) (by omega) (by omega) (by omega)) rfl ?_
      refine to_add rfl rfl (by omega) rfl ?_
      refine to_as rfl rfl ?_
      refine to_nil ?_
      refine tn_blk ?_
      refine tn_code ?_
      refine t_reg ?_
      refine to_mv rfl rfl ?_
      refine to_add rfl rfl (by omega) rfl ?_
      refine to_as rfl rfl ?_
      refine to_nil ?_
      exact tn_loop2 (k + 1) [.snap 0 w.heap.size w] (rfl) (by omega) (by omega) (⟨rfl, rfl, rfl, congrArg (fun z => some (Value.int .i64 z)) (by rw [chkC_succ hc, Int.add_assoc]), rfl, rfl, trivial⟩)
    · try simp only [decide_eq_true_eq, decide_eq_false_iff_not, Bool.not_eq_true', Bool.not_eq_false', Int.not_lt, Int.not_le, ne_eq, Decidable.not_not] at h2
      try have h2b := inB_iff.1 h2
      have hk2 : k = wd.length := by omega
      subst hk2
      have hcb := chkC_b (i := i) (w := wd) (by omega) wd.length (by omega)
      refine t_exit ?_
      refine tx_code ?_
      refine tx_inv ?_
      refine tx_blk ?_
      refine tn_code ?_
      refine t_reg ?_
      refine to_mv rfl rfl ?_
      refine to_mv rfl rfl ?_
      refine to_mv rfl rfl ?_
      first | refine to_ix rfl rfl rfl (by first | omega | decide) (by first | omega | decide) rfl ?_ | refine to_ixi rfl rfl rfl (by omega) (by omega) (by omega) rfl ?_
      first | refine to_lds rfl rfl rfl ?_ | refine to_ldes rfl (by assumption) rfl rfl ?_
      refine to_sadd rfl rfl (by first | omega | (simp only [List.length_append, List.length_cons, List.length_nil]; omega)) rfl ?_
      refine to_sadd rfl rfl (by first | omega | (simp only [List.length_append, List.length_cons, List.length_nil]; omega)) rfl ?_
      refine to_as rfl rfl ?_
      refine to_nil ?_
      refine tn_blk ?_
      refine tn_code ?_
      refine t_reg ?_
      refine to_mv rfl rfl ?_
      refine to_add rfl rfl (by omega) rfl ?_
      refine to_as rfl rfl ?_
      refine to_nil ?_
      exact tn_loop2 (i + 1) [.snap 0 w.heap.size w] (rfl) (by omega) (by omega) (⟨rfl, rfl, congrArg (fun z => some (strV z)) ((linesT_succ hw).trans (List.append_assoc _ _ _).symm).symm, congrArg (fun z => some (Value.int .i64 z)) (chkR_succ hw).symm, rfl, trivial⟩)
  · try simp only [decide_eq_true_eq, decide_eq_false_iff_not, Bool.not_eq_true', Bool.not_eq_false', Int.not_lt, Int.not_le, ne_eq, Decidable.not_not] at h1
    try have h1b := inB_iff.1 h1
    have hi2 : i = ws.length := by omega
    subst hi2
    have hll := linesT_len hre ws.length (Nat.le_refl _)
    have hrb := chkR_b hre ws.length (Nat.le_refl _) (by omega)
    have hd1 := okZ_len (n := chkR ws ws.length % 239 / 100) (by omega)
    have hd2 := okZ_len (n := chkR ws ws.length % 239 / 10 % 10) (by omega)
    have hd3 := okZ_len (n := chkR ws ws.length % 239 % 10) (by omega)
    refine t_exit ?_
    refine tx_code ?_
    refine tx_inv ?_
    refine tx_blk ?_
    refine tn_code ?_
    refine t_seq ?_
    refine t_reg ?_
    refine to_mv rfl rfl ?_
    refine to_mv rfl rfl ?_
    refine to_rem rfl rfl (by omega) (by omega) rfl ?_
    refine to_as rfl rfl ?_
    refine to_nil ?_
    refine tn_code ?_
    refine t_seq ?_
    refine t_reg ?_
    refine to_mv rfl rfl ?_
    refine to_sadd rfl rfl (by first | omega | (simp only [List.length_append, List.length_cons, List.length_nil]; omega)) rfl ?_
    refine to_mv rfl rfl ?_
    refine to_quo rfl rfl (by omega) (by omega) rfl ?_
    refine to_call0 rfl rfl (fun w s => T_Decimal _ w (by unfold okZ; omega)) rfl ?_
    refine to_sadd rfl rfl (by first | omega | (simp only [List.length_append, List.length_cons, List.length_nil]; omega)) rfl ?_
    refine to_mv rfl rfl ?_
    refine to_quo rfl rfl (by omega) (by omega) rfl ?_
    refine to_rem rfl rfl (by omega) (by omega) rfl ?_
    refine to_call0 rfl rfl (fun w s => T_Decimal _ w (by unfold okZ; omega)) rfl ?_
    refine to_sadd rfl rfl (by first | omega | (simp only [List.length_append, List.length_cons, List.length_nil]; omega)) rfl ?_
    refine to_mv rfl rfl ?_
    refine to_rem rfl rfl (by omega) (by omega) rfl ?_
    refine to_call0 rfl rfl (fun w s => T_Decimal _ w (by unfold okZ; omega)) rfl ?_
    refine to_sadd rfl rfl (by first | omega | (simp only [List.length_append, List.length_cons, List.length_nil]; omega)) rfl ?_
    refine to_sadd rfl rfl (by first | omega | (simp only [List.length_append, List.length_cons, List.length_nil]; omega)) rfl ?_
    refine to_as rfl rfl ?_
    refine to_nil ?_
    refine tn_code ?_
    refine t_ret1 rfl rfl (res_tmp rfl) (fun w' s => ?_)
    rfl

def RRul : Nat → World → Value → Prop := fun lo w1 v => ∃ a1 c1, v = .slice a1 5 c1 ∧ Ro w1 lo w1.heap.size a1 5 c1 1 (strs ([] :: rulesB))
def rowsG (s : Sh) (k : Nat) : List Bs := hdZ s :: (s.errs.take k).map (lineZ wGuard)
def rowsR (s : Sh) (k : Nat) : List Bs := rowsG s s.errs.length ++ (s.rows.take k).map (lineZ wRow)
theorem rowsG_succ {s : Sh} {k : Nat} {n : Int} (h : s.errs[k]? = some n) : strs (rowsG s (k + 1)) = strs (rowsG s k) ++ [strC (lineZ wGuard n)] := by
  simp only [rowsG, take_snoc h, List.map_append, List.cons_append, List.map_cons, List.map_nil]
theorem rowsR_succ {s : Sh} {k : Nat} {n : Int} (h : s.rows[k]? = some n) : strs (rowsR s (k + 1)) = strs (rowsR s k) ++ [strC (lineZ wRow n)] := by
  simp only [rowsR, take_snoc h, List.map_append, List.map_cons, List.map_nil, List.append_assoc]
theorem rowsR_all (s : Sh) : rowsR s s.rows.length = rowsZ s := by simp [rowsR, rowsG, rowsZ]
theorem rule_at {r : Int} (h : 1 ≤ r ∧ r ≤ 4) : (strs ([] :: rulesB))[r.toNat]? = some (strC (ruleW r)) := by
  obtain rfl | rfl | rfl | rfl : r = 1 ∨ r = 2 ∨ r = 3 ∨ r = 4 := by omega
  all_goals rfl

set_option maxRecDepth 20000 in
theorem ref_rules  (w : World)  : Calls Tryz.prog 102 #[] w (Ret w (RRul)) := by
  refine calls_T (av := []) Tryz.func102 rfl rfl rfl ?_
  refine t_seq ?_
  refine t_reg ?_
  refine to_as rfl rfl ?_
  refine to_nil ?_
  refine tn_code ?_
  refine t_seq ?_
  refine t_reg ?_
  refine to_bsl rfl rfl rfl rfl (fun a1 => ?_)
  refine to_as rfl rfl ?_
  refine to_nil ?_
  refine tn_code ?_
  refine t_ret1 rfl rfl (res_tmp rfl) (fun w' s => ?_)
  exact ⟨_, _, rfl, ro_row s⟩

set_option maxRecDepth 20000 in
theorem ref_Print (s : Sh) (pt : Pt) (w : World) (hre : Ro w 0 w.heap.size pt.ea s.errs.length pt.ec 1 (ints s.errs)) (hrr : Ro w 0 w.heap.size pt.ra s.rows.length pt.rc 1 (ints s.rows)) (hn : numsZ s) : Calls Tryz.prog 64 #[shV s pt] w (RetV w (strV (textZ s))) := by
  have hnl := hn.2.2.2.2
  have hrl := rowsZ_len s
  have hre0 := rowsZ_each hn
  have hre : ∀ w ∈ rowsZ s, w.length ≤ 100 := fun w hw => Nat.le_trans (hre0 w hw) (by decide)
  have hu := lineZ_len wRound hn.1
  have hwr : wRound.length = 5 := rfl
  have hrw := ruleW_len s.rule
  have hru := hn.2.1
  have hra := rule_at hru
  refine calls_T0 (av := [_]) Tryz.func64 rfl rfl rfl ?_
  refine t_seq ?_
  refine t_reg ?_
  refine to_box rfl rfl (fun b1 => ?_)
  refine to_as rfl rfl ?_
  refine to_nil ?_
  refine tn_code ?_
  refine t_seq ?_
  refine t_regP [2, 3, 5, 8, 9, 11] [0, 1, 6, 7, 2, 3, 4, 5, 8, 9, 10, 11, 12] [.own b1 (isC (shC s pt) 33), .snap 0 w.heap.size w] rfl (by kernel_rfl) (by kernel_rfl) ?_
  refine tp_q ?e1 rfl ?q1 ?r1
  case q1 =>
    first | refine to_fa rfl rfl rfl (by simp only [Nat.reduceAdd]; rfl) rfl ?_ | refine to_fae rfl rfl rfl (by simp only [Nat.reduceAdd]; rfl) rfl ?_
    exact tpq_end
  refine tp_q ?e2 rfl ?q2 ?r2
  case q2 =>
    first | refine to_lds rfl rfl rfl ?_ | refine to_ldes rfl (by assumption) rfl rfl ?_
    exact tpq_end
  refine tp_q ?e3 rfl ?q3 ?r3
  case q3 =>
    first | refine to_fa rfl rfl rfl (by simp only [Nat.reduceAdd]; rfl) rfl ?_ | refine to_fae rfl rfl rfl (by simp only [Nat.reduceAdd]; rfl) rfl ?_
    exact tpq_end
  refine tp_q ?e4 rfl ?q4 ?r4
  case q4 =>
    first | refine to_lds rfl rfl rfl ?_ | refine to_ldes rfl (by assumption) rfl rfl ?_
    exact tpq_end
  refine tp_s rfl ?_ (fun _ h => by cases h) rfl
  refine to_bsl rfl rfl rfl rfl (fun a8 => ?_)
  refine tp_se rfl ?_
  refine tp_s rfl ?_ (fun _ h => by cases h) rfl
  refine to_call0 rfl rfl (fun w s => T_Row1 wRound _ _ _ w (rdw s) hn.1 (by decide)) rfl ?_
  refine tp_se rfl ?_
  refine tp_q ?e5 rfl ?q5 ?r5
  case q5 =>
    refine to_sadd rfl rfl (by first | omega | (simp only [List.length_append, List.length_cons, List.length_nil]; omega)) rfl ?_
    exact tpq_end
  refine tp_s rfl ?_ (fun _ h => by cases h) rfl
  refine to_callR rfl rfl (fun w s => ref_rules w) rfl (fun v11 lo11 w11 hlo11 hR11 => ?_)
  obtain ⟨a11, c11, rfl, hro11⟩ := hR11
  refine tp_se rfl ?_
  refine tp_s rfl ?_ (fun _ h => by cases h) rfl
  first | refine to_ix rfl rfl rfl (by first | omega | decide) (by first | omega | decide) rfl ?_ | refine to_ixi rfl rfl rfl (by omega) (by omega) (by omega) rfl ?_
  refine tp_se rfl ?_
  refine tp_s rfl ?_ (fun _ h => by cases h) rfl
  first | refine to_lds rfl rfl rfl ?_ | refine to_ldes rfl (by assumption) rfl rfl ?_
  refine tp_se rfl ?_
  refine tp_q ?e6 rfl ?q6 ?r6
  case q6 =>
    refine to_sadd rfl rfl (by first | omega | (simp only [List.length_append, List.length_cons, List.length_nil]; omega)) rfl ?_
    exact tpq_end
  refine tp_s rfl ?_ (fun _ h => by cases h) rfl
  refine to_bsl rfl rfl rfl rfl (fun a17 => ?_)
  refine tp_se rfl ?_
  refine tp_q ?e7 rfl ?q7 ?r7
  case q7 =>
    refine to_as rfl rfl ?_
    exact tpq_end
  refine tp_nil ?_
  refine tn_code ?_
  refine t_seq ?_
  refine t_seq ?_
  refine t_reg ?_
  refine to_as rfl rfl ?_
  refine to_nil ?_
  refine tn_code ?_
  refine t_blk ?_
  refine t_loop2 (ι := Nat × Option Addr × Nat) (fun ((k, a', c') : Nat × Option Addr × Nat) => k ≤ s.errs.length) (fun ((k, a', c') : Nat × Option Addr × Nat) => [(1, (.pointer (some ⟨b1, 0, none⟩))), (3, .slice a' (k + 1) c'), (4, .int .i64 (k : Int))]) (fun ((k, a', c') : Nat × Option Addr × Nat) => [.row a' (k + 1) c' 9 1 (strs (rowsG s k)), .own b1 (isC (shC s pt) 33), .snap 0 w.heap.size w]) (fun ((k, a', c') : Nat × Option Addr × Nat) => s.errs.length - k) ((0, a17, 1)) [.row a17 1 1 9 1 [[strV (lineZ wRound s.unit ++ [32] ++ ruleW s.rule)]], .own b1 (isC (shC s pt) 33), .snap 0 w.heap.size w] (by simp [rowsG, hdZ]) (Nat.zero_le _) (⟨rfl, rfl, rfl, trivial⟩) ?_
  rintro ⟨k, a', c'⟩ hk
  try dsimp only at hk
  show T _ _ _ ⟨_, [(1, (.pointer (some ⟨b1, 0, none⟩))), (3, .slice a' (k + 1) c'), (4, .int .i64 (k : Int))], _⟩ [.row a' (k + 1) c' 9 1 (strs (rowsG s k)), .own b1 (isC (shC s pt) 33), .snap 0 w.heap.size w]
  refine t_seq ?_
  refine t_seq ?_
  refine t_reg ?_
  refine to_mv rfl rfl ?_
  first | refine to_fa rfl rfl rfl (by simp only [Nat.reduceAdd]; rfl) rfl ?_ | refine to_fae rfl rfl rfl (by simp only [Nat.reduceAdd]; rfl) rfl ?_
  first | refine to_lds rfl rfl rfl ?_ | refine to_ldes rfl (by assumption) rfl rfl ?_
  refine to_lenS rfl rfl ?_
  refine to_lss rfl rfl rfl ?_
  refine to_nil ?_
  refine tn_code ?_
  refine t_if rfl (fun h1 => ?_) (fun h1 => ?_)
  · try simp only [decide_eq_true_eq, decide_eq_false_iff_not, Bool.not_eq_true', Bool.not_eq_false', Int.not_lt, Int.not_le, ne_eq, Decidable.not_not] at h1
    try have h1b := inB_iff.1 h1
    obtain ⟨n, hnk⟩ := some_get (xs := s.errs) (k := k) (by omega)
    have hx := map_get (f := intC) hnk
    refine t_skip ?_
    refine tn_code ?_
    refine t_seq ?_
    refine t_blk ?_
    refine t_reg ?_
    refine to_mv rfl rfl ?_
    first | refine to_fa rfl rfl rfl (by simp only [Nat.reduceAdd]; rfl) rfl ?_ | refine to_fae rfl rfl rfl (by simp only [Nat.reduceAdd]; rfl) rfl ?_
    first | refine to_lds rfl rfl rfl ?_ | refine to_ldes rfl (by assumption) rfl rfl ?_
    refine to_mv rfl rfl ?_
    first | refine to_ix rfl rfl rfl (by first | omega | decide) (by first | omega | decide) rfl ?_ | refine to_ixi rfl rfl rfl (by omega) (by omega) (by omega) rfl ?_
    first | refine to_lds rfl rfl rfl ?_ | refine to_ldes rfl (by assumption) rfl rfl ?_
    refine to_bsl rfl rfl rfl rfl (fun a31 => ?_)
    refine to_call0 rfl rfl (fun w s => T_Row1 wGuard n _ _ w (rdw s) (hn.2.2.1 n (List.mem_of_getElem? hnk)) (by decide)) rfl ?_
    refine to_bsl rfl rfl rfl rfl (fun a33 => ?_)
    refine to_app rfl rfl rfl (by simp [scals, scal]) (by decide) (by omega) (by decide) rfl (fun a34 c34 => ?_)
    refine to_as rfl rfl ?_
    refine to_nil ?_
    refine tn_blk ?_
    refine tn_code ?_
    refine t_reg ?_
    refine to_mv rfl rfl ?_
    refine to_add rfl rfl (by omega) rfl ?_
    refine to_as rfl rfl ?_
    refine to_nil ?_
    exact tn_loop2 ((k + 1, a34, c34)) [.row a34 (k + 1 + 1) c34 9 1 (strs (rowsG s k) ++ [strC (lineZ wGuard n)]), .own b1 (isC (shC s pt) 33), .snap 0 w.heap.size w] (by dsimp only; rw [rowsG_succ hnk]) (by dsimp only; omega) (by dsimp only; omega) (⟨rfl, rfl, rfl, trivial⟩)
  · try simp only [decide_eq_true_eq, decide_eq_false_iff_not, Bool.not_eq_true', Bool.not_eq_false', Int.not_lt, Int.not_le, ne_eq, Decidable.not_not] at h1
    try have h1b := inB_iff.1 h1
    have hk2 : k = s.errs.length := by omega
    subst hk2
    refine t_exit ?_
    refine tx_code ?_
    refine tx_inv ?_
    refine tx_blk ?_
    refine tn_code ?_
    refine t_seq ?_
    refine t_seq ?_
    refine t_reg ?_
    refine to_as rfl rfl ?_
    refine to_nil ?_
    refine tn_code ?_
    refine t_blk ?_
    refine t_loop2 (ι := Nat × Option Addr × Nat) (fun ((k, a', c') : Nat × Option Addr × Nat) => k ≤ s.rows.length) (fun ((k, a', c') : Nat × Option Addr × Nat) => [(1, (.pointer (some ⟨b1, 0, none⟩))), (3, .slice a' (s.errs.length + 1 + k) c'), (5, .int .i64 (k : Int))]) (fun ((k, a', c') : Nat × Option Addr × Nat) => [.row a' (s.errs.length + 1 + k) c' 9 1 (strs (rowsR s k)), .own b1 (isC (shC s pt) 33), .snap 0 w.heap.size w]) (fun ((k, a', c') : Nat × Option Addr × Nat) => s.rows.length - k) ((0, a', c')) [.row a' (s.errs.length + 1) c' 9 1 (strs (rowsG s s.errs.length)), .own b1 (isC (shC s pt) 33), .snap 0 w.heap.size w] (by simp [rowsR]) (Nat.zero_le _) (⟨rfl, rfl, rfl, trivial⟩) ?_
    rintro ⟨k, a', c'⟩ hk
    try dsimp only at hk
    show T _ _ _ ⟨_, [(1, (.pointer (some ⟨b1, 0, none⟩))), (3, .slice a' (s.errs.length + 1 + k) c'), (5, .int .i64 (k : Int))], _⟩ [.row a' (s.errs.length + 1 + k) c' 9 1 (strs (rowsR s k)), .own b1 (isC (shC s pt) 33), .snap 0 w.heap.size w]
    refine t_seq ?_
    refine t_seq ?_
    refine t_reg ?_
    refine to_mv rfl rfl ?_
    first | refine to_fa rfl rfl rfl (by simp only [Nat.reduceAdd]; rfl) rfl ?_ | refine to_fae rfl rfl rfl (by simp only [Nat.reduceAdd]; rfl) rfl ?_
    first | refine to_lds rfl rfl rfl ?_ | refine to_ldes rfl (by assumption) rfl rfl ?_
    refine to_lenS rfl rfl ?_
    refine to_lss rfl rfl rfl ?_
    refine to_nil ?_
    refine tn_code ?_
    refine t_if rfl (fun h2 => ?_) (fun h2 => ?_)
    · try simp only [decide_eq_true_eq, decide_eq_false_iff_not, Bool.not_eq_true', Bool.not_eq_false', Int.not_lt, Int.not_le, ne_eq, Decidable.not_not] at h2
      try have h2b := inB_iff.1 h2
      obtain ⟨n, hnk⟩ := some_get (xs := s.rows) (k := k) (by omega)
      have hx := map_get (f := intC) hnk
      refine t_skip ?_
      refine tn_code ?_
      refine t_seq ?_
      refine t_blk ?_
      refine t_reg ?_
      refine to_mv rfl rfl ?_
      first | refine to_fa rfl rfl rfl (by simp only [Nat.reduceAdd]; rfl) rfl ?_ | refine to_fae rfl rfl rfl (by simp only [Nat.reduceAdd]; rfl) rfl ?_
      first | refine to_lds rfl rfl rfl ?_ | refine to_ldes rfl (by assumption) rfl rfl ?_
      refine to_mv rfl rfl ?_
      first | refine to_ix rfl rfl rfl (by first | omega | decide) (by first | omega | decide) rfl ?_ | refine to_ixi rfl rfl rfl (by omega) (by omega) (by omega) rfl ?_
      first | refine to_lds rfl rfl rfl ?_ | refine to_ldes rfl (by assumption) rfl rfl ?_
      refine to_bsl rfl rfl rfl rfl (fun a48 => ?_)
      refine to_call0 rfl rfl (fun w s => T_Row1 wRow n _ _ w (rdw s) (hn.2.2.2.1 n (List.mem_of_getElem? hnk)) (by decide)) rfl ?_
      refine to_bsl rfl rfl rfl rfl (fun a50 => ?_)
      refine to_app rfl rfl rfl (by simp [scals, scal]) (by decide) (by omega) (by decide) rfl (fun a51 c51 => ?_)
      refine to_as rfl rfl ?_
      refine to_nil ?_
      refine tn_blk ?_
      refine tn_code ?_
      refine t_reg ?_
      refine to_mv rfl rfl ?_
      refine to_add rfl rfl (by omega) rfl ?_
      refine to_as rfl rfl ?_
      refine to_nil ?_
      exact tn_loop2 ((k + 1, a51, c51)) [.row a51 (s.errs.length + 1 + k + 1) c51 9 1 (strs (rowsR s k) ++ [strC (lineZ wRow n)]), .own b1 (isC (shC s pt) 33), .snap 0 w.heap.size w] (by dsimp only; rw [rowsR_succ hnk]; rfl) (by dsimp only; omega) (by dsimp only; omega) (⟨rfl, rfl, rfl, trivial⟩)
    · try simp only [decide_eq_true_eq, decide_eq_false_iff_not, Bool.not_eq_true', Bool.not_eq_false', Int.not_lt, Int.not_le, ne_eq, Decidable.not_not] at h2
      try have h2b := inB_iff.1 h2
      have hk2 : k = s.rows.length := by omega
      subst hk2
      rw [rowsR_all]
      have hrl2 : s.errs.length + 1 + s.rows.length = (rowsZ s).length := by omega
      rw [hrl2]
      have hsl := fun w (h : Ro w 0 w.heap.size a' (rowsZ s).length c' 1 (strs (rowsZ s))) => T_Sealed (rowsZ s) a' c' w h hre (by omega)
      refine t_exit ?_
      refine tx_code ?_
      refine tx_inv ?_
      refine tx_blk ?_
      refine tn_code ?_
      refine t_seq ?_
      refine t_reg ?_
      refine to_mv rfl rfl ?_
      refine to_call0 rfl rfl (fun w s => hsl w (rdw s)) rfl ?_
      refine to_as rfl rfl ?_
      refine to_nil ?_
      refine tn_code ?_
      refine t_ret1 rfl rfl (res_tmp rfl) (fun w' s => ?_)
      rfl

end Go.Proofs


namespace Go.Proofs
open Go Go.Sx Go.RowKit

set_option maxRecDepth 20000 in
theorem law_short (sh : Sh) (pt : Pt) (w : World)  : Calls Tryz.prog 20 #[shV sh pt] w (RetV w (.bool (decide (sh.errs.length ≤ 7) && decide (sh.rows.length ≤ 7)))) := by
  refine calls_T0 (av := [_]) Tryz.func20 rfl rfl rfl ?_
  refine t_seq ?_
  refine t_reg ?_
  refine to_box rfl rfl (fun b1 => ?_)
  refine to_as rfl rfl ?_
  refine to_nil ?_
  refine tn_code ?_
  refine t_seq ?_
  refine t_reg ?_
  first | refine to_fa rfl rfl rfl (by simp only [Nat.reduceAdd]; rfl) rfl ?_ | refine to_fae rfl rfl rfl (by simp only [Nat.reduceAdd]; rfl) rfl ?_
  first | refine to_lds rfl rfl rfl ?_ | refine to_ldes rfl (by assumption) rfl rfl ?_
  refine to_lenS rfl rfl ?_
  refine to_leq rfl rfl rfl ?_
  refine to_mv rfl rfl ?_
  refine to_gs rfl rfl rfl (fun h1 => ?_) (fun h1 => ?_)
  · try simp only [decide_eq_true_eq, decide_eq_false_iff_not, Bool.not_eq_true', Bool.not_eq_false', Int.not_lt, Int.not_le, ne_eq, Decidable.not_not] at h1
    try have h1b := inB_iff.1 h1
    refine to_gt rfl rfl ?_
    first | refine to_fa rfl rfl rfl (by simp only [Nat.reduceAdd]; rfl) rfl ?_ | refine to_fae rfl rfl rfl (by simp only [Nat.reduceAdd]; rfl) rfl ?_
    refine to_gt rfl rfl ?_
    first | refine to_lds rfl rfl rfl ?_ | refine to_ldes rfl (by assumption) rfl rfl ?_
    refine to_gt rfl rfl ?_
    refine to_lenS rfl rfl ?_
    refine to_gt rfl rfl ?_
    refine to_leq rfl rfl rfl ?_
    refine to_pkT rfl rfl rfl ?_
    refine to_as rfl rfl ?_
    refine to_nil ?_
    refine tn_code ?_
    refine t_ret1 rfl rfl (res_tmp rfl) (fun w' s => ?_)
    first | (have hq : sh.errs.length ≤ 7 := (by omega); have hq2 : decide ((sh.rows.length : Int) ≤ 7) = decide (sh.rows.length ≤ 7) := decide_eq_decide.2 (by omega); simp [hq, hq2]; done) | (have hq : ¬ sh.errs.length ≤ 7 := (by omega); simp [hq])
  · try simp only [decide_eq_true_eq, decide_eq_false_iff_not, Bool.not_eq_true', Bool.not_eq_false', Int.not_lt, Int.not_le, ne_eq, Decidable.not_not] at h1
    try have h1b := inB_iff.1 h1
    refine to_gf rfl rfl rfl rfl ?_
    refine to_gf rfl rfl rfl rfl ?_
    refine to_gf rfl rfl rfl rfl ?_
    refine to_gf rfl rfl rfl rfl ?_
    refine to_pkF rfl rfl rfl ?_
    refine to_as rfl rfl ?_
    refine to_nil ?_
    refine tn_code ?_
    refine t_ret1 rfl rfl (res_tmp rfl) (fun w' s => ?_)
    first | (have hq : sh.errs.length ≤ 7 := (by omega); have hq2 : decide ((sh.rows.length : Int) ≤ 7) = decide (sh.rows.length ≤ 7) := decide_eq_decide.2 (by omega); simp [hq, hq2]; done) | (have hq : ¬ sh.errs.length ≤ 7 := (by omega); simp [hq])

set_option maxRecDepth 20000 in
theorem law_slim (t : List Int) (ta : Option Addr) (tc : Nat) (w : World)  : Calls Tryz.prog 30 #[.slice ta t.length tc] w (RetV w (.bool (decide (t.length ≤ 7)))) := by
  refine calls_T0 (av := [_]) Tryz.func30 rfl rfl rfl ?_
  refine t_seq ?_
  refine t_reg ?_
  refine to_as rfl rfl ?_
  refine to_nil ?_
  refine tn_code ?_
  refine t_seq ?_
  refine t_reg ?_
  refine to_mv rfl rfl ?_
  refine to_lenS rfl rfl ?_
  refine to_leq rfl rfl rfl ?_
  refine to_as rfl rfl ?_
  refine to_nil ?_
  refine tn_code ?_
  refine t_ret1 rfl rfl (res_tmp rfl) (fun w' s => ?_)
  simp; omega

set_option maxRecDepth 20000 in
theorem law_span (x y : Int) (w : World)  : Calls Tryz.prog 35 #[(.int .i64 x), (.int .i64 y)] w (RetV w (spanV (x, y))) := by
  refine calls_T0 (av := [_, _]) Tryz.func35 rfl rfl rfl ?_
  refine t_seq ?_
  refine t_reg ?_
  refine to_alloc rfl (fun b4 => ?_)
  refine to_nil ?_
  refine tn_code ?_
  refine t_seq ?_
  refine t_reg ?_
  refine to_mv rfl rfl ?_
  refine to_mv rfl rfl ?_
  refine to_bs rfl rfl ?_
  first | refine to_st rfl rfl rfl rfl ?_ | refine to_ste rfl rfl (by assumption) rfl rfl ?_
  refine to_nil ?_
  refine tn_code ?_
  refine t_ret1 rfl rfl (res_cellA rfl rfl) (fun w' s => ?_)
  rfl

set_option maxRecDepth 20000 in
theorem ref_Same (xs ys : List Int) (a : Option Addr) (c : Nat) (a2 : Option Addr) (c2 : Nat) (w : World) (hr : Ro w 0 w.heap.size a xs.length c 1 (ints xs)) (hs : Ro w 0 w.heap.size a2 ys.length c2 1 (ints ys)) (hn : xs.length ≤ 1000) : Calls Tryz.prog 25 #[.slice a xs.length c, .slice a2 ys.length c2] w (RetV w (.bool (decide (xs = ys)))) := by
  refine calls_T0 (av := [_, _]) Tryz.func25 rfl rfl rfl ?_
  refine t_seq ?_
  refine t_reg ?_
  refine to_as rfl rfl ?_
  refine to_nil ?_
  refine tn_code ?_
  refine t_seq ?_
  refine t_seq ?_
  refine t_reg ?_
  refine to_mv rfl rfl ?_
  refine to_lenS rfl rfl ?_
  refine to_mv rfl rfl ?_
  refine to_lenS rfl rfl ?_
  refine to_neq rfl rfl rfl ?_
  refine to_nil ?_
  refine tn_code ?_
  refine t_if rfl (fun h1 => ?_) (fun h1 => ?_)
  · try simp only [decide_eq_true_eq, decide_eq_false_iff_not, Bool.not_eq_true', Bool.not_eq_false', Int.not_lt, Int.not_le, ne_eq, Decidable.not_not] at h1
    try have h1b := inB_iff.1 h1
    refine t_seq ?_
    refine t_reg ?_
    refine to_as rfl rfl ?_
    refine to_nil ?_
    refine tn_code ?_
    refine t_ret1 rfl rfl (res_tmp rfl) (fun w' s => ?_)
    first | (have hfin : xs ≠ ys := ne_of_len (by omega)) | (have hfin : xs ≠ ys := ne_of_get hy hz (by assumption)) | (have hfin : xs = ys := eq_of_get (by omega) hall)
    simp [hfin]
  · try simp only [decide_eq_true_eq, decide_eq_false_iff_not, Bool.not_eq_true', Bool.not_eq_false', Int.not_lt, Int.not_le, ne_eq, Decidable.not_not] at h1
    try have h1b := inB_iff.1 h1
    refine t_skip ?_
    refine tn_code ?_
    refine t_seq ?_
    refine t_seq ?_
    refine t_reg ?_
    refine to_as rfl rfl ?_
    refine to_nil ?_
    refine tn_code ?_
    refine t_blk ?_
    refine t_loop2 (ι := Nat) (fun k => k ≤ xs.length ∧ ∀ j, j < k → ∀ y z, xs[j]? = some y → ys[j]? = some z → y = z) (fun k => [(0, .slice a xs.length c), (1, .slice a2 ys.length c2), (5, .int .i64 (k : Int))]) (fun k => [.snap 0 w.heap.size w]) (fun k => xs.length - k) (0) [.snap 0 w.heap.size w] (rfl) (⟨Nat.zero_le _, fun j hj => absurd hj (Nat.not_lt_zero _)⟩) (⟨rfl, rfl, rfl, trivial⟩) ?_
    rintro k ⟨hk, hall⟩
    show T _ _ _ ⟨_, [(0, .slice a xs.length c), (1, .slice a2 ys.length c2), (5, .int .i64 (k : Int))], _⟩ [.snap 0 w.heap.size w]
    refine t_seq ?_
    refine t_seq ?_
    refine t_reg ?_
    refine to_mv rfl rfl ?_
    refine to_mv rfl rfl ?_
    refine to_lenS rfl rfl ?_
    refine to_lss rfl rfl rfl ?_
    refine to_nil ?_
    refine tn_code ?_
    refine t_if rfl (fun h2 => ?_) (fun h2 => ?_)
    · try simp only [decide_eq_true_eq, decide_eq_false_iff_not, Bool.not_eq_true', Bool.not_eq_false', Int.not_lt, Int.not_le, ne_eq, Decidable.not_not] at h2
      try have h2b := inB_iff.1 h2
      obtain ⟨y, hy⟩ := some_get (xs := xs) (k := k) (by omega)
      have hx := map_get (f := intC) hy
      obtain ⟨z, hz⟩ := some_get (xs := ys) (k := k) (by omega)
      have hx2 := map_get (f := intC) hz
      refine t_skip ?_
      refine tn_code ?_
      refine t_seq ?_
      refine t_blk ?_
      refine t_seq ?_
      refine t_regD rfl (by kernel_rfl) (by kernel_rfl) ?_
      refine to_mv rfl rfl ?_
      refine to_mv rfl rfl ?_
      first | refine to_ix rfl rfl rfl (by first | omega | decide) (by first | omega | decide) rfl ?_ | refine to_ixi rfl rfl rfl (by omega) (by omega) (by omega) rfl ?_
      first | refine to_lds rfl rfl rfl ?_ | refine to_ldes rfl (by assumption) rfl rfl ?_
      refine to_mv rfl rfl ?_
      refine to_mv rfl rfl ?_
      first | refine to_ix rfl rfl rfl (by first | omega | decide) (by first | omega | decide) rfl ?_ | refine to_ixi rfl rfl rfl (by omega) (by omega) (by omega) rfl ?_
      first | refine to_lds rfl rfl rfl ?_ | refine to_ldes rfl (by assumption) rfl rfl ?_
      refine to_neq rfl rfl rfl ?_
      refine to_nil ?_
      refine tn_code ?_
      refine t_if rfl (fun h3 => ?_) (fun h3 => ?_)
      · try simp only [decide_eq_true_eq, decide_eq_false_iff_not, Bool.not_eq_true', Bool.not_eq_false', Int.not_lt, Int.not_le, ne_eq, Decidable.not_not] at h3
        try have h3b := inB_iff.1 h3
        refine t_seq ?_
        refine t_reg ?_
        refine to_as rfl rfl ?_
        refine to_nil ?_
        refine tn_code ?_
        refine t_ret1 rfl rfl (res_tmp rfl) (fun w' s => ?_)
        first | (have hfin : xs ≠ ys := ne_of_len (by omega)) | (have hfin : xs ≠ ys := ne_of_get hy hz (by assumption)) | (have hfin : xs = ys := eq_of_get (by omega) hall)
        simp [hfin]
      · try simp only [decide_eq_true_eq, decide_eq_false_iff_not, Bool.not_eq_true', Bool.not_eq_false', Int.not_lt, Int.not_le, ne_eq, Decidable.not_not] at h3
        try have h3b := inB_iff.1 h3
        refine t_skip ?_
        refine tn_blk ?_
        refine tn_code ?_
        refine t_reg ?_
        refine to_mv rfl rfl ?_
        refine to_add rfl rfl (by omega) rfl ?_
        refine to_as rfl rfl ?_
        refine to_nil ?_
        exact tn_loop2 (k + 1) [.snap 0 w.heap.size w] (rfl) (⟨by omega, all_succ hall (fun u v h1 h2 => by rw [hy] at h1; rw [hz] at h2; cases h1; cases h2; assumption)⟩) (by omega) (⟨rfl, rfl, rfl, trivial⟩)
    · try simp only [decide_eq_true_eq, decide_eq_false_iff_not, Bool.not_eq_true', Bool.not_eq_false', Int.not_lt, Int.not_le, ne_eq, Decidable.not_not] at h2
      try have h2b := inB_iff.1 h2
      have hk2 : k = xs.length := by omega
      subst hk2
      refine t_exit ?_
      refine tx_code ?_
      refine tx_inv ?_
      refine tx_blk ?_
      refine tn_code ?_
      refine t_seq ?_
      refine t_reg ?_
      refine to_as rfl rfl ?_
      refine to_nil ?_
      refine tn_code ?_
      refine t_ret1 rfl rfl (res_tmp rfl) (fun w' s => ?_)
      first | (have hfin : xs ≠ ys := ne_of_len (by omega)) | (have hfin : xs ≠ ys := ne_of_get hy hz (by assumption)) | (have hfin : xs = ys := eq_of_get (by omega) hall)
      simp [hfin]

set_option maxRecDepth 20000 in
theorem ref_SameSpans (xs ys : List (Int × Int)) (a : Option Addr) (c : Nat) (a2 : Option Addr) (c2 : Nat) (w : World) (hr : Ro w 0 w.heap.size a xs.length c 2 (spans xs)) (hs : Ro w 0 w.heap.size a2 ys.length c2 2 (spans ys)) (hn : xs.length ≤ 1000) : Calls Tryz.prog 56 #[.slice a xs.length c, .slice a2 ys.length c2] w (RetV w (.bool (decide (xs = ys)))) := by
  refine calls_T0 (av := [_, _]) Tryz.func56 rfl rfl rfl ?_
  refine t_seq ?_
  refine t_reg ?_
  refine to_as rfl rfl ?_
  refine to_nil ?_
  refine tn_code ?_
  refine t_seq ?_
  refine t_seq ?_
  refine t_reg ?_
  refine to_mv rfl rfl ?_
  refine to_lenS rfl rfl ?_
  refine to_mv rfl rfl ?_
  refine to_lenS rfl rfl ?_
  refine to_neq rfl rfl rfl ?_
  refine to_nil ?_
  refine tn_code ?_
  refine t_if rfl (fun h1 => ?_) (fun h1 => ?_)
  · try simp only [decide_eq_true_eq, decide_eq_false_iff_not, Bool.not_eq_true', Bool.not_eq_false', Int.not_lt, Int.not_le, ne_eq, Decidable.not_not] at h1
    try have h1b := inB_iff.1 h1
    refine t_seq ?_
    refine t_reg ?_
    refine to_as rfl rfl ?_
    refine to_nil ?_
    refine tn_code ?_
    refine t_ret1 rfl rfl (res_tmp rfl) (fun w' s => ?_)
    first | (have hfin : xs ≠ ys := ne_of_len (by omega)) | (have hfin : xs ≠ ys := ne_of_get hy hz (by intro he; subst he; simp_all [ieq])) | (have hfin : xs = ys := eq_of_get (by omega) hall)
    simp [hfin]
  · try simp only [decide_eq_true_eq, decide_eq_false_iff_not, Bool.not_eq_true', Bool.not_eq_false', Int.not_lt, Int.not_le, ne_eq, Decidable.not_not] at h1
    try have h1b := inB_iff.1 h1
    refine t_skip ?_
    refine tn_code ?_
    refine t_seq ?_
    refine t_seq ?_
    refine t_reg ?_
    refine to_as rfl rfl ?_
    refine to_nil ?_
    refine tn_code ?_
    refine t_blk ?_
    refine t_loop2 (ι := Nat) (fun k => k ≤ xs.length ∧ ∀ j, j < k → ∀ y z, xs[j]? = some y → ys[j]? = some z → y = z) (fun k => [(0, .slice a xs.length c), (1, .slice a2 ys.length c2), (5, .int .i64 (k : Int))]) (fun k => [.snap 0 w.heap.size w]) (fun k => xs.length - k) (0) [.snap 0 w.heap.size w] (rfl) (⟨Nat.zero_le _, fun j hj => absurd hj (Nat.not_lt_zero _)⟩) (⟨rfl, rfl, rfl, trivial⟩) ?_
    rintro k ⟨hk, hall⟩
    show T _ _ _ ⟨_, [(0, .slice a xs.length c), (1, .slice a2 ys.length c2), (5, .int .i64 (k : Int))], _⟩ [.snap 0 w.heap.size w]
    refine t_seq ?_
    refine t_seq ?_
    refine t_reg ?_
    refine to_mv rfl rfl ?_
    refine to_mv rfl rfl ?_
    refine to_lenS rfl rfl ?_
    refine to_lss rfl rfl rfl ?_
    refine to_nil ?_
    refine tn_code ?_
    refine t_if rfl (fun h2 => ?_) (fun h2 => ?_)
    · try simp only [decide_eq_true_eq, decide_eq_false_iff_not, Bool.not_eq_true', Bool.not_eq_false', Int.not_lt, Int.not_le, ne_eq, Decidable.not_not] at h2
      try have h2b := inB_iff.1 h2
      obtain ⟨y, hy⟩ := some_get (xs := xs) (k := k) (by omega)
      have hx := map_get (f := spanC) hy
      obtain ⟨z, hz⟩ := some_get (xs := ys) (k := k) (by omega)
      have hx2 := map_get (f := spanC) hz
      refine t_skip ?_
      refine tn_code ?_
      refine t_seq ?_
      refine t_blk ?_
      refine t_seq ?_
      refine t_regD rfl (by kernel_rfl) (by kernel_rfl) ?_
      refine to_mv rfl rfl ?_
      refine to_mv rfl rfl ?_
      first | refine to_ix rfl rfl rfl (by first | omega | decide) (by first | omega | decide) rfl ?_ | refine to_ixi rfl rfl rfl (by omega) (by omega) (by omega) rfl ?_
      first | refine to_lda rfl rfl rfl ?_ | refine to_ldea rfl (by assumption) rfl rfl ?_
      refine to_mv rfl rfl ?_
      refine to_mv rfl rfl ?_
      first | refine to_ix rfl rfl rfl (by first | omega | decide) (by first | omega | decide) rfl ?_ | refine to_ixi rfl rfl rfl (by omega) (by omega) (by omega) rfl ?_
      first | refine to_lda rfl rfl rfl ?_ | refine to_ldea rfl (by assumption) rfl rfl ?_
      refine to_nes rfl rfl rfl rfl rfl rfl rfl ?_
      refine to_nil ?_
      refine tn_code ?_
      refine t_if rfl (fun h3 => ?_) (fun h3 => ?_)
      · try simp only [decide_eq_true_eq, decide_eq_false_iff_not, Bool.not_eq_true', Bool.not_eq_false', Int.not_lt, Int.not_le, ne_eq, Decidable.not_not] at h3
        try have h3b := inB_iff.1 h3
        refine t_seq ?_
        refine t_reg ?_
        refine to_as rfl rfl ?_
        refine to_nil ?_
        refine tn_code ?_
        refine t_ret1 rfl rfl (res_tmp rfl) (fun w' s => ?_)
        first | (have hfin : xs ≠ ys := ne_of_len (by omega)) | (have hfin : xs ≠ ys := ne_of_get hy hz (by intro he; subst he; simp_all [ieq])) | (have hfin : xs = ys := eq_of_get (by omega) hall)
        simp [hfin]
      · try simp only [decide_eq_true_eq, decide_eq_false_iff_not, Bool.not_eq_true', Bool.not_eq_false', Int.not_lt, Int.not_le, ne_eq, Decidable.not_not] at h3
        try have h3b := inB_iff.1 h3
        refine t_skip ?_
        refine tn_blk ?_
        refine tn_code ?_
        refine t_reg ?_
        refine to_mv rfl rfl ?_
        refine to_add rfl rfl (by omega) rfl ?_
        refine to_as rfl rfl ?_
        refine to_nil ?_
        exact tn_loop2 (k + 1) [.snap 0 w.heap.size w] (rfl) (⟨by omega, all_succ hall (fun u v h1 h2 => by rw [hy] at h1; rw [hz] at h2; cases h1; cases h2; simp_all [ieq, Prod.ext_iff])⟩) (by omega) (⟨rfl, rfl, rfl, trivial⟩)
    · try simp only [decide_eq_true_eq, decide_eq_false_iff_not, Bool.not_eq_true', Bool.not_eq_false', Int.not_lt, Int.not_le, ne_eq, Decidable.not_not] at h2
      try have h2b := inB_iff.1 h2
      have hk2 : k = xs.length := by omega
      subst hk2
      refine t_exit ?_
      refine tx_code ?_
      refine tx_inv ?_
      refine tx_blk ?_
      refine tn_code ?_
      refine t_seq ?_
      refine t_reg ?_
      refine to_as rfl rfl ?_
      refine to_nil ?_
      refine tn_code ?_
      refine t_ret1 rfl rfl (res_tmp rfl) (fun w' s => ?_)
      first | (have hfin : xs ≠ ys := ne_of_len (by omega)) | (have hfin : xs ≠ ys := ne_of_get hy hz (by intro he; subst he; simp_all [ieq])) | (have hfin : xs = ys := eq_of_get (by omega) hall)
      simp [hfin]

set_option maxRecDepth 20000 in
theorem ref_Before (xs ys : List Int) (a : Option Addr) (c : Nat) (a2 : Option Addr) (c2 : Nat) (w : World) (hr : Ro w 0 w.heap.size a xs.length c 1 (ints xs)) (hs : Ro w 0 w.heap.size a2 ys.length c2 1 (ints ys)) (hn : xs.length ≤ 1000) (hn2 : ys.length ≤ 1000) : Calls Tryz.prog 53 #[.slice a xs.length c, .slice a2 ys.length c2] w (RetV w (.bool (befI xs ys))) := by
  refine calls_T0 (av := [_, _]) Tryz.func53 rfl rfl rfl ?_
  refine t_seq ?_
  refine t_reg ?_
  refine to_as rfl rfl ?_
  refine to_nil ?_
  refine tn_code ?_
  refine t_seq ?_
  refine t_seq ?_
  refine t_reg ?_
  refine to_as rfl rfl ?_
  refine to_nil ?_
  refine tn_code ?_
  refine t_blk ?_
  refine t_loop2 (ι := Nat) (fun k => k ≤ xs.length ∧ k ≤ ys.length ∧ ∀ j, j < k → ∀ y z, xs[j]? = some y → ys[j]? = some z → y = z) (fun k => [(0, .slice a xs.length c), (1, .slice a2 ys.length c2), (5, .int .i64 (k : Int))]) (fun k => [.snap 0 w.heap.size w]) (fun k => xs.length - k) (0) [.snap 0 w.heap.size w] (rfl) (⟨Nat.zero_le _, Nat.zero_le _, fun j hj => absurd hj (Nat.not_lt_zero _)⟩) (⟨rfl, rfl, rfl, trivial⟩) ?_
  rintro k ⟨hk, hk', hall⟩
  show T _ _ _ ⟨_, [(0, .slice a xs.length c), (1, .slice a2 ys.length c2), (5, .int .i64 (k : Int))], _⟩ [.snap 0 w.heap.size w]
  refine t_seq ?_
  refine t_seq ?_
  refine t_reg ?_
  refine to_mv rfl rfl ?_
  refine to_mv rfl rfl ?_
  refine to_lenS rfl rfl ?_
  refine to_lss rfl rfl rfl ?_
  refine to_mv rfl rfl ?_
  refine to_gs rfl rfl rfl (fun h1 => ?_) (fun h1 => ?_)
  · try simp only [decide_eq_true_eq, decide_eq_false_iff_not, Bool.not_eq_true', Bool.not_eq_false', Int.not_lt, Int.not_le, ne_eq, Decidable.not_not] at h1
    try have h1b := inB_iff.1 h1
    refine to_gt rfl rfl ?_
    refine to_mv rfl rfl ?_
    refine to_gt rfl rfl ?_
    refine to_mv rfl rfl ?_
    refine to_gt rfl rfl ?_
    refine to_lenS rfl rfl ?_
    refine to_gt rfl rfl ?_
    refine to_lss rfl rfl rfl ?_
    refine to_pkT rfl rfl rfl ?_
    refine to_nil ?_
    refine tn_code ?_
    refine t_if rfl (fun h2 => ?_) (fun h2 => ?_)
    · try simp only [decide_eq_true_eq, decide_eq_false_iff_not, Bool.not_eq_true', Bool.not_eq_false', Int.not_lt, Int.not_le, ne_eq, Decidable.not_not] at h2
      try have h2b := inB_iff.1 h2
      obtain ⟨y, hy⟩ := some_get (xs := xs) (k := k) (by omega)
      have hx := map_get (f := intC) hy
      obtain ⟨z, hz⟩ := some_get (xs := ys) (k := k) (by omega)
      have hx2 := map_get (f := intC) hz
      refine t_skip ?_
      refine tn_code ?_
      refine t_seq ?_
      refine t_blk ?_
      refine t_seq ?_
      refine t_regD rfl (by kernel_rfl) (by kernel_rfl) ?_
      refine to_mv rfl rfl ?_
      refine to_mv rfl rfl ?_
      first | refine to_ix rfl rfl rfl (by first | omega | decide) (by first | omega | decide) rfl ?_ | refine to_ixi rfl rfl rfl (by omega) (by omega) (by omega) rfl ?_
      first | refine to_lds rfl rfl rfl ?_ | refine to_ldes rfl (by assumption) rfl rfl ?_
      refine to_mv rfl rfl ?_
      refine to_mv rfl rfl ?_
      first | refine to_ix rfl rfl rfl (by first | omega | decide) (by first | omega | decide) rfl ?_ | refine to_ixi rfl rfl rfl (by omega) (by omega) (by omega) rfl ?_
      first | refine to_lds rfl rfl rfl ?_ | refine to_ldes rfl (by assumption) rfl rfl ?_
      refine to_neq rfl rfl rfl ?_
      refine to_nil ?_
      refine tn_code ?_
      refine t_if rfl (fun h3 => ?_) (fun h3 => ?_)
      · try simp only [decide_eq_true_eq, decide_eq_false_iff_not, Bool.not_eq_true', Bool.not_eq_false', Int.not_lt, Int.not_le, ne_eq, Decidable.not_not] at h3
        try have h3b := inB_iff.1 h3
        refine t_seq ?_
        refine t_regD rfl (by kernel_rfl) (by kernel_rfl) ?_
        refine to_mv rfl rfl ?_
        refine to_mv rfl rfl ?_
        first | refine to_ix rfl rfl rfl (by first | omega | decide) (by first | omega | decide) rfl ?_ | refine to_ixi rfl rfl rfl (by omega) (by omega) (by omega) rfl ?_
        first | refine to_lds rfl rfl rfl ?_ | refine to_ldes rfl (by assumption) rfl rfl ?_
        refine to_mv rfl rfl ?_
        refine to_mv rfl rfl ?_
        first | refine to_ix rfl rfl rfl (by first | omega | decide) (by first | omega | decide) rfl ?_ | refine to_ixi rfl rfl rfl (by omega) (by omega) (by omega) rfl ?_
        first | refine to_lds rfl rfl rfl ?_ | refine to_ldes rfl (by assumption) rfl rfl ?_
        refine to_lss rfl rfl rfl ?_
        refine to_as rfl rfl ?_
        refine to_nil ?_
        refine tn_code ?_
        refine t_ret1 rfl rfl (res_tmp rfl) (fun w' s => ?_)
        first | (rw [befI_at hall hy hz (by assumption)]; done) | (have hfin := befI_end (xs := xs) (ys := ys) (fun j hj => hall j (by omega)); rw [hfin]; simp)
      · try simp only [decide_eq_true_eq, decide_eq_false_iff_not, Bool.not_eq_true', Bool.not_eq_false', Int.not_lt, Int.not_le, ne_eq, Decidable.not_not] at h3
        try have h3b := inB_iff.1 h3
        refine t_skip ?_
        refine tn_blk ?_
        refine tn_code ?_
        refine t_reg ?_
        refine to_mv rfl rfl ?_
        refine to_add rfl rfl (by omega) rfl ?_
        refine to_as rfl rfl ?_
        refine to_nil ?_
        exact tn_loop2 (k + 1) [.snap 0 w.heap.size w] (rfl) (⟨by omega, by omega, all_succ hall (fun u v h1 h2 => by rw [hy] at h1; rw [hz] at h2; cases h1; cases h2; assumption)⟩) (by omega) (⟨rfl, rfl, rfl, trivial⟩)
    · try simp only [decide_eq_true_eq, decide_eq_false_iff_not, Bool.not_eq_true', Bool.not_eq_false', Int.not_lt, Int.not_le, ne_eq, Decidable.not_not] at h2
      try have h2b := inB_iff.1 h2
      refine t_exit ?_
      refine tx_code ?_
      refine tx_inv ?_
      refine tx_blk ?_
      refine tn_code ?_
      refine t_seq ?_
      refine t_reg ?_
      refine to_mv rfl rfl ?_
      refine to_lenS rfl rfl ?_
      refine to_mv rfl rfl ?_
      refine to_lenS rfl rfl ?_
      refine to_lss rfl rfl rfl ?_
      refine to_as rfl rfl ?_
      refine to_nil ?_
      refine tn_code ?_
      refine t_ret1 rfl rfl (res_tmp rfl) (fun w' s => ?_)
      first | (rw [befI_at hall hy hz (by assumption)]; done) | (have hfin := befI_end (xs := xs) (ys := ys) (fun j hj => hall j (by omega)); rw [hfin]; simp)
  · try simp only [decide_eq_true_eq, decide_eq_false_iff_not, Bool.not_eq_true', Bool.not_eq_false', Int.not_lt, Int.not_le, ne_eq, Decidable.not_not] at h1
    try have h1b := inB_iff.1 h1
    refine to_gf rfl rfl rfl rfl ?_
    refine to_gf rfl rfl rfl rfl ?_
    refine to_gf rfl rfl rfl rfl ?_
    refine to_gf rfl rfl rfl rfl ?_
    refine to_pkF rfl rfl rfl ?_
    refine to_nil ?_
    refine tn_code ?_
    refine t_ifF rfl ?_
    refine t_exit ?_
    refine tx_code ?_
    refine tx_inv ?_
    refine tx_blk ?_
    refine tn_code ?_
    refine t_seq ?_
    refine t_reg ?_
    refine to_mv rfl rfl ?_
    refine to_lenS rfl rfl ?_
    refine to_mv rfl rfl ?_
    refine to_lenS rfl rfl ?_
    refine to_lss rfl rfl rfl ?_
    refine to_as rfl rfl ?_
    refine to_nil ?_
    refine tn_code ?_
    refine t_ret1 rfl rfl (res_tmp rfl) (fun w' s => ?_)
    first | (rw [befI_at hall hy hz (by assumption)]; done) | (have hfin := befI_end (xs := xs) (ys := ys) (fun j hj => hall j (by omega)); rw [hfin]; simp)

set_option maxRecDepth 20000 in
theorem ref_Listed (xs : List Int) (a : Option Addr) (c : Nat) (v : Int) (w : World) (hr : Ro w 0 w.heap.size a xs.length c 1 (ints xs)) (hn : xs.length ≤ 10000000) : Calls Tryz.prog 36 #[.slice a xs.length c, (.int .i64 v)] w (RetV w (.bool (xs.contains v))) := by
  refine calls_T0 (av := [_, _]) Tryz.func36 rfl rfl rfl ?_
  refine t_seq ?_
  refine t_reg ?_
  refine to_as rfl rfl ?_
  refine to_nil ?_
  refine tn_code ?_
  refine t_seq ?_
  refine t_seq ?_
  refine t_reg ?_
  refine to_as rfl rfl ?_
  refine to_nil ?_
  refine tn_code ?_
  refine t_blk ?_
  refine t_loop2 (ι := Nat) (fun k => k ≤ xs.length ∧ ∀ j, j < k → ∀ y, xs[j]? = some y → (v == y) = false) (fun k => [(0, .slice a xs.length c), (1, (.int .i64 v)), (5, .int .i64 (k : Int))]) (fun k => [.snap 0 w.heap.size w]) (fun k => xs.length - k) (0) [.snap 0 w.heap.size w] (rfl) (⟨Nat.zero_le _, fun j hj => absurd hj (Nat.not_lt_zero _)⟩) (⟨rfl, rfl, rfl, trivial⟩) ?_
  rintro k ⟨hk, hall⟩
  show T _ _ _ ⟨_, [(0, .slice a xs.length c), (1, (.int .i64 v)), (5, .int .i64 (k : Int))], _⟩ [.snap 0 w.heap.size w]
  refine t_seq ?_
  refine t_seq ?_
  refine t_reg ?_
  refine to_mv rfl rfl ?_
  refine to_mv rfl rfl ?_
  refine to_lenS rfl rfl ?_
  refine to_lss rfl rfl rfl ?_
  refine to_nil ?_
  refine tn_code ?_
  refine t_if rfl (fun h1 => ?_) (fun h1 => ?_)
  · try simp only [decide_eq_true_eq, decide_eq_false_iff_not, Bool.not_eq_true', Bool.not_eq_false', Int.not_lt, Int.not_le, ne_eq, Decidable.not_not] at h1
    try have h1b := inB_iff.1 h1
    obtain ⟨y, hy⟩ := some_get (xs := xs) (k := k) (by omega)
    have hx := map_get (f := intC) hy
    refine t_skip ?_
    refine tn_code ?_
    refine t_seq ?_
    refine t_blk ?_
    refine t_seq ?_
    refine t_reg ?_
    refine to_mv rfl rfl ?_
    refine to_mv rfl rfl ?_
    first | refine to_ix rfl rfl rfl (by first | omega | decide) (by first | omega | decide) rfl ?_ | refine to_ixi rfl rfl rfl (by omega) (by omega) (by omega) rfl ?_
    first | refine to_lds rfl rfl rfl ?_ | refine to_ldes rfl (by assumption) rfl rfl ?_
    refine to_mv rfl rfl ?_
    refine to_eql rfl rfl rfl ?_
    refine to_nil ?_
    refine tn_code ?_
    refine t_if rfl (fun h2 => ?_) (fun h2 => ?_)
    · try simp only [decide_eq_true_eq, decide_eq_false_iff_not, Bool.not_eq_true', Bool.not_eq_false', Int.not_lt, Int.not_le, ne_eq, Decidable.not_not] at h2
      try have h2b := inB_iff.1 h2
      have hfin : xs.contains v = true := by rw [← h2]; simpa using List.mem_of_getElem? hy
      refine t_seq ?_
      refine t_reg ?_
      refine to_as rfl rfl ?_
      refine to_nil ?_
      refine tn_code ?_
      refine t_ret1 rfl rfl (res_tmp rfl) (fun w' s => ?_)
      rw [hfin]
    · try simp only [decide_eq_true_eq, decide_eq_false_iff_not, Bool.not_eq_true', Bool.not_eq_false', Int.not_lt, Int.not_le, ne_eq, Decidable.not_not] at h2
      try have h2b := inB_iff.1 h2
      refine t_skip ?_
      refine tn_blk ?_
      refine tn_code ?_
      refine t_reg ?_
      refine to_mv rfl rfl ?_
      refine to_add rfl rfl (by omega) rfl ?_
      refine to_as rfl rfl ?_
      refine to_nil ?_
      exact tn_loop2 (k + 1) [.snap 0 w.heap.size w] (rfl) (⟨by omega, all_succ hall (fun z hz => by rw [hy] at hz; cases hz; have h9 : ¬ y = v := (by assumption); simp; exact fun e => h9 e.symm)⟩) (by omega) (⟨rfl, rfl, rfl, trivial⟩)
  · try simp only [decide_eq_true_eq, decide_eq_false_iff_not, Bool.not_eq_true', Bool.not_eq_false', Int.not_lt, Int.not_le, ne_eq, Decidable.not_not] at h1
    try have h1b := inB_iff.1 h1
    have hk2 : k = xs.length := by omega
    subst hk2
    have hfin : xs.contains v = false := by rw [List.contains_eq_any_beq, ← idxI_any, idxI_none (p := fun y => v == y) hall]; rfl
    refine t_exit ?_
    refine tx_code ?_
    refine tx_inv ?_
    refine tx_blk ?_
    refine tn_code ?_
    refine t_seq ?_
    refine t_reg ?_
    refine to_as rfl rfl ?_
    refine to_nil ?_
    refine tn_code ?_
    refine t_ret1 rfl rfl (res_tmp rfl) (fun w' s => ?_)
    rw [hfin]

def shA : Sh := ⟨10, 3, [4, 1, 0], [13, 26, 44]⟩
def shT : Sh := ⟨1, 1, [0], [0]⟩
def txT : Bs := [114, 111, 117, 110, 100, 32, 49, 32, 100, 111, 119, 110, 10, 103, 117, 97, 114, 100, 32, 48, 10, 114, 111, 119, 32, 48, 10, 101, 110, 100, 32, 49, 50, 52, 10]
def RSh (x : Sh) : Nat → World → Value → Prop := fun lo w1 v => ∃ pt : Pt, v = shV x pt ∧ Ro w1 lo w1.heap.size pt.ea x.errs.length pt.ec 1 (ints x.errs) ∧ Ro w1 lo w1.heap.size pt.ra x.rows.length pt.rc 1 (ints x.rows)
theorem rsh_of {u r : Int} {es rs : List Int} {n1 n2 : Nat} {a1 a2 : Option Addr} {c1 c2 lo : Nat} {w : World} (h1 : es.length = n1) (h2 : rs.length = n2) (r1 : Ro w lo w.heap.size a1 n1 c1 1 (ints es)) (r2 : Ro w lo w.heap.size a2 n2 c2 1 (ints rs)) : RSh ⟨u, r, es, rs⟩ lo w (.agg [.int .i64 u, .int .i64 r, .slice a1 n1 c1, .slice a2 n2 c2].toArray) := by
  subst h1 h2; exact ⟨⟨a1, c1, a2, c2⟩, rfl, r1, r2⟩
theorem tx_eq : textZ shT = txT := by
  have h0 : decZ 0 = [48] := decZ_one (by decide)
  have h1 : decZ 1 = [49] := decZ_one (by decide)
  have h2 : decZ 2 = [50] := decZ_one (by decide)
  have h4 : decZ 4 = [52] := decZ_one (by decide)
  have hr : rowsZ shT = [[114, 111, 117, 110, 100, 32, 49, 32, 100, 111, 119, 110], [103, 117, 97, 114, 100, 32, 48], [114, 111, 119, 32, 48]] := by
    simp [rowsZ, hdZ, lineZ, shT, h0, h1, wRound, wGuard, wRow, ruleW, rulesB]
  have hc : chkR [[114, 111, 117, 110, 100, 32, 49, 32, 100, 111, 119, 110], [103, 117, 97, 114, 100, 32, 48], [114, 111, 119, 32, 48]] 3 % 239 = 124 := by kernel_rfl
  rw [textZ, hr, sealZ]
  simp only [List.length_cons, List.length_nil, Nat.zero_add, Nat.reduceAdd, hc]
  rw [show (124 : Int) / 100 = 1 from rfl, show (124 : Int) / 10 % 10 = 2 from rfl, show (124 : Int) % 10 = 4 from rfl, h1, h2, h4]
  rfl
theorem isA : isSh shA = true := by decide
theorem isT : isSh shT = true := by decide
theorem rd_eq : roundRead txT = (shT, 0) := by rw [← tx_eq]; exact read_rt isT

set_option maxRecDepth 20000 in
theorem law_A  (w : World)  : Calls Tryz.prog 62 #[] w (Ret w (RSh shA)) := by
  refine calls_T (av := []) Tryz.func62 rfl rfl rfl ?_
  refine t_seq ?_
  refine t_reg ?_
  refine to_alloc rfl (fun b0 => ?_)
  refine to_nil ?_
  refine tn_code ?_
  refine t_seq ?_
  refine t_reg ?_
  refine to_bsl rfl rfl rfl rfl (fun a1 => ?_)
  refine to_bsl rfl rfl rfl rfl (fun a2 => ?_)
  refine to_bs rfl rfl ?_
  first | refine to_st rfl rfl rfl rfl ?_ | refine to_ste rfl rfl (by assumption) rfl rfl ?_
  refine to_nil ?_
  refine tn_code ?_
  refine t_ret1 rfl rfl (res_cellA rfl rfl) (fun w' s => ?_)
  exact rsh_of rfl rfl (ro_row s) (ro_row s)

theorem k_To (w : World) : Calls Tryz.prog 15 #[.int .i64 25, .int .i64 10, .int .i64 4] w (RetV w (.tuple #[.int .i64 2, .int .i64 0])) := by
  have h := r_To 25 10 4 w
  rw [show rTo 25 10 4 = (2, 0) from by kernel_rfl] at h
  exact h

theorem k_Bounds (pt : Pt) (w : World) (hre : Ro w 0 w.heap.size pt.ea shA.errs.length pt.ec 1 (ints shA.errs)) (hrr : Ro w 0 w.heap.size pt.ra shA.rows.length pt.rc 1 (ints shA.rows)) : Calls Tryz.prog 32 #[shV shA pt, .int .i64 1] w (Ret w (RSpE [(12, 14), (25, 27), (43, 45)] 0)) := by
  have h := r_Bounds_t shA pt 1 1 w hre hrr isA rfl
  rw [show bndL shA 1 = [(12, 14), (25, 27), (43, 45)] from by kernel_rfl] at h
  exact h

theorem k_Figures (pt : Pt) (w : World) (hre : Ro w 0 w.heap.size pt.ea shA.errs.length pt.ec 1 (ints shA.errs)) (hrr : Ro w 0 w.heap.size pt.ra shA.rows.length pt.rc 1 (ints shA.rows)) : Calls Tryz.prog 33 #[shV shA pt, .int .i64 0] w (Ret w (RSpE [(1, 2), (2, 3), (4, 5)] 0)) := by
  have h := r_Figures_t shA pt 0 4 w hre hrr isA rfl
  rw [show figL shA 4 = [(1, 2), (2, 3), (4, 5)] from by kernel_rfl] at h
  exact h

theorem k_Word (pt : Pt) (w : World) (hre : Ro w 0 w.heap.size pt.ea shA.errs.length pt.ec 1 (ints shA.errs)) (hrr : Ro w 0 w.heap.size pt.ra shA.rows.length pt.rc 1 (ints shA.rows)) : Calls Tryz.prog 21 #[shV shA pt, .int .i64 1, .int .i64 1, .int .i64 3] w (RetV w (.tuple #[.int .i64 3, .int .i64 0])) := by
  have h := r_Word_t shA pt 1 1 1 26 3 w hre hrr isA rfl rfl
  rw [show wordF (fig shA (26 - 1), fig shA (26 + 1)) 3 = 3 from by kernel_rfl] at h
  exact h

theorem k_Sure (pt : Pt) (w : World) (hre : Ro w 0 w.heap.size pt.ea shA.errs.length pt.ec 1 (ints shA.errs)) (hrr : Ro w 0 w.heap.size pt.ra shA.rows.length pt.rc 1 (ints shA.rows)) : Calls Tryz.prog 22 #[shV shA pt, .int .i64 1] w (Ret w (RSlE [0, 1] 0)) := by
  have h := r_Sure_t shA pt 1 1 w hre hrr isA rfl
  rw [show sureL shA 1 = [0, 1] from by kernel_rfl] at h
  exact h

theorem k_Need (pt : Pt) (w : World) (hre : Ro w 0 w.heap.size pt.ea shA.errs.length pt.ec 1 (ints shA.errs)) (hrr : Ro w 0 w.heap.size pt.ra shA.rows.length pt.rc 1 (ints shA.rows)) : Calls Tryz.prog 37 #[shV shA pt, .int .i64 2] w (RetV w (.tuple #[.int .i64 2, .int .i64 0])) := by
  have h := r_Need shA pt 2 w hre hrr (by decide)
  rw [show rNeed shA 2 = (2, 0) from by kernel_rfl] at h
  exact h

theorem k_Guards (pt : Pt) (w : World) (hre : Ro w 0 w.heap.size pt.ea shA.errs.length pt.ec 1 (ints shA.errs)) (hrr : Ro w 0 w.heap.size pt.ra shA.rows.length pt.rc 1 (ints shA.rows)) : Calls Tryz.prog 38 #[shV shA pt] w (RetV w (.tuple #[.int .i64 2, .int .i64 0])) := by
  have h := r_Guards shA pt w hre hrr
  rw [show rGuards shA = (2, 0) from by kernel_rfl] at h
  exact h

theorem k_Total (pt : Pt) (w : World) (hre : Ro w 0 w.heap.size pt.ea shA.errs.length pt.ec 1 (ints shA.errs)) (hrr : Ro w 0 w.heap.size pt.ra shA.rows.length pt.rc 1 (ints shA.rows)) : Calls Tryz.prog 41 #[shV shA pt, .int .i64 1] w (RetV w (.tuple #[spanV (8, 9), .int .i64 0])) := by
  have h := r_Total_t shA pt 1 1 w hre hrr isA rfl
  rw [show rTot shA 1 = (8, 9) from by kernel_rfl] at h
  exact h

theorem k_Adds (pt : Pt) (w : World) (hre : Ro w 0 w.heap.size pt.ea shA.errs.length pt.ec 1 (ints shA.errs)) (hrr : Ro w 0 w.heap.size pt.ra shA.rows.length pt.rc 1 (ints shA.rows)) : Calls Tryz.prog 42 #[shV shA pt, .int .i64 1] w (RetV w (.tuple #[spanV (8, 9), .int .i64 0])) := by
  have h := r_Adds_t shA pt 1 1 w hre hrr isA rfl
  rw [show rAdd shA 1 = (8, 9) from by kernel_rfl] at h
  exact h

theorem k_Differs (pt : Pt) (w : World) (hre : Ro w 0 w.heap.size pt.ea shA.errs.length pt.ec 1 (ints shA.errs)) (hrr : Ro w 0 w.heap.size pt.ra shA.rows.length pt.rc 1 (ints shA.rows)) : Calls Tryz.prog 43 #[shV shA pt, .int .i64 1] w (RetV w (.tuple #[spanV (-1, 1), .int .i64 0])) := by
  have h := r_Differs_t shA pt 1 1 w hre hrr isA rfl
  rw [show rDif shA 1 = (-1, 1) from by kernel_rfl] at h
  exact h

theorem k_First (pt : Pt) (w : World) (hre : Ro w 0 w.heap.size pt.ea shA.errs.length pt.ec 1 (ints shA.errs)) (hrr : Ro w 0 w.heap.size pt.ra shA.rows.length pt.rc 1 (ints shA.rows)) : Calls Tryz.prog 48 #[shV shA pt, .int .i64 1] w (RetV w (.tuple #[.int .i64 2, .int .i64 0])) := by
  have h := r_First_t shA pt 1 1 w hre hrr isA rfl
  rw [show rFst shA 1 = (2, 0) from by kernel_rfl] at h
  exact h

theorem k_Proof (pt : Pt) (w : World) (hre : Ro w 0 w.heap.size pt.ea shA.errs.length pt.ec 1 (ints shA.errs)) (hrr : Ro w 0 w.heap.size pt.ra shA.rows.length pt.rc 1 (ints shA.rows)) : Calls Tryz.prog 49 #[shV shA pt, .int .i64 1] w (Ret w (RSlE [12, 25, 45] 0)) := by
  have h := r_Proof_t shA pt 1 1 w hre hrr isA rfl
  rw [show prfR shA 1 = ([12, 25, 45], 0) from by kernel_rfl] at h
  exact h

theorem k_Behind (pt : Pt) (fa : Option Addr) (fc : Nat) (w : World) (hre : Ro w 0 w.heap.size pt.ea shA.errs.length pt.ec 1 (ints shA.errs)) (hrr : Ro w 0 w.heap.size pt.ra shA.rows.length pt.rc 1 (ints shA.rows)) (hrf : Ro w 0 w.heap.size fa 3 fc 1 (ints [1, 3, 4])) : Calls Tryz.prog 54 #[shV shA pt, .int .i64 1, .slice fa 3 fc, .int .i64 9] w (Ret w (RSpE [(14, 14), (27, 27), (44, 44)] 0)) := by
  have h := r_Behind_t shA pt 1 1 [1, 3, 4] fa fc 9 w hre hrr isA rfl hrf rfl
  rw [show bhR shA 1 [1, 3, 4] 9 = ([(14, 14), (27, 27), (44, 44)], 0) from by kernel_rfl] at h
  exact h
theorem k_Read (w : World) (hg : Gl w) : Calls Tryz.prog 63 #[strV txT] w (Ret w (RShE shT 0)) := by
  have h := r_Read txT w hg
  rw [rd_eq] at h
  exact h
theorem k_Print (pt : Pt) (w : World) (hre : Ro w 0 w.heap.size pt.ea shT.errs.length pt.ec 1 (ints shT.errs)) (hrr : Ro w 0 w.heap.size pt.ra shT.rows.length pt.rc 1 (ints shT.rows)) : Calls Tryz.prog 64 #[shV shT pt] w (RetV w (strV txT)) := by
  have h := ref_Print shT pt w hre hrr (numsZ_of isT)
  rw [tx_eq] at h
  exact h

end Go.Proofs


namespace Go.Proofs
open Go Go.Sx Go.RowKit

set_option maxRecDepth 20000 in
theorem law_known  (w : World) (hg : Gl w) : Calls Tryz.prog 17 #[] w (RetV w (.bool true)) := by
  refine calls_T0 (av := []) Tryz.func17 rfl rfl rfl ?_
  refine t_seq ?_
  refine t_reg ?_
  refine to_as rfl rfl ?_
  refine to_nil ?_
  refine tn_code ?_
  refine t_seq ?_
  refine t_reg ?_
  refine to_call0 rfl rfl (fun w s => k_To w) rfl ?_
  refine to_mv rfl rfl ?_
  refine to_ex rfl rfl rfl ?_
  refine to_ex rfl rfl rfl ?_
  refine to_as rfl rfl ?_
  refine to_as rfl rfl ?_
  refine to_nil ?_
  refine tn_code ?_
  refine t_seq ?_
  refine t_reg ?_
  refine to_callR rfl rfl (fun w s => law_A w) rfl (fun v34 lo34 w34 hlo34 hR34 => ?_)
  obtain ⟨pt34, rfl, hro34, hrq34⟩ := hR34
  refine to_callR rfl rfl (fun w s => k_Bounds _ w (rdw s) (rdw s)) rfl (fun v35 lo35 w35 hlo35 hR35 => ?_)
  obtain ⟨pa35, pc35, rfl, hro35⟩ := hR35
  refine to_mv rfl rfl ?_
  refine to_ex rfl rfl rfl ?_
  refine to_ex rfl rfl rfl ?_
  refine to_as rfl rfl ?_
  refine to_as rfl rfl ?_
  refine to_nil ?_
  refine tn_code ?_
  refine t_seq ?_
  refine t_reg ?_
  refine to_callR rfl rfl (fun w s => law_A w) rfl (fun v39 lo39 w39 hlo39 hR39 => ?_)
  obtain ⟨pt39, rfl, hro39, hrq39⟩ := hR39
  refine to_callR rfl rfl (fun w s => k_Figures _ w (rdw s) (rdw s)) rfl (fun v40 lo40 w40 hlo40 hR40 => ?_)
  obtain ⟨pa40, pc40, rfl, hro40⟩ := hR40
  refine to_mv rfl rfl ?_
  refine to_ex rfl rfl rfl ?_
  refine to_ex rfl rfl rfl ?_
  refine to_as rfl rfl ?_
  refine to_as rfl rfl ?_
  refine to_nil ?_
  refine tn_code ?_
  refine t_seq ?_
  refine t_reg ?_
  refine to_callR rfl rfl (fun w s => law_A w) rfl (fun v44 lo44 w44 hlo44 hR44 => ?_)
  obtain ⟨pt44, rfl, hro44, hrq44⟩ := hR44
  refine to_call0 rfl rfl (fun w s => k_Word _ w (rdw s) (rdw s)) rfl ?_
  refine to_mv rfl rfl ?_
  refine to_ex rfl rfl rfl ?_
  refine to_ex rfl rfl rfl ?_
  refine to_as rfl rfl ?_
  refine to_as rfl rfl ?_
  refine to_nil ?_
  refine tn_code ?_
  refine t_seq ?_
  refine t_reg ?_
  refine to_callR rfl rfl (fun w s => law_A w) rfl (fun v49 lo49 w49 hlo49 hR49 => ?_)
  obtain ⟨pt49, rfl, hro49, hrq49⟩ := hR49
  refine to_callR rfl rfl (fun w s => k_Sure _ w (rdw s) (rdw s)) rfl (fun v50 lo50 w50 hlo50 hR50 => ?_)
  obtain ⟨pa50, pc50, rfl, hro50⟩ := hR50
  refine to_mv rfl rfl ?_
  refine to_ex rfl rfl rfl ?_
  refine to_ex rfl rfl rfl ?_
  refine to_as rfl rfl ?_
  refine to_as rfl rfl ?_
  refine to_nil ?_
  refine tn_code ?_
  refine t_seq ?_
  refine t_reg ?_
  refine to_callR rfl rfl (fun w s => law_A w) rfl (fun v54 lo54 w54 hlo54 hR54 => ?_)
  obtain ⟨pt54, rfl, hro54, hrq54⟩ := hR54
  refine to_call0 rfl rfl (fun w s => k_Need _ w (rdw s) (rdw s)) rfl ?_
  refine to_mv rfl rfl ?_
  refine to_ex rfl rfl rfl ?_
  refine to_ex rfl rfl rfl ?_
  refine to_as rfl rfl ?_
  refine to_as rfl rfl ?_
  refine to_nil ?_
  refine tn_code ?_
  refine t_seq ?_
  refine t_reg ?_
  refine to_callR rfl rfl (fun w s => law_A w) rfl (fun v59 lo59 w59 hlo59 hR59 => ?_)
  obtain ⟨pt59, rfl, hro59, hrq59⟩ := hR59
  refine to_call0 rfl rfl (fun w s => k_Guards _ w (rdw s) (rdw s)) rfl ?_
  refine to_mv rfl rfl ?_
  refine to_ex rfl rfl rfl ?_
  refine to_ex rfl rfl rfl ?_
  refine to_as rfl rfl ?_
  refine to_as rfl rfl ?_
  refine to_nil ?_
  refine tn_code ?_
  refine t_seq ?_
  refine t_reg ?_
  refine to_callR rfl rfl (fun w s => law_A w) rfl (fun v64 lo64 w64 hlo64 hR64 => ?_)
  obtain ⟨pt64, rfl, hro64, hrq64⟩ := hR64
  refine to_call0 rfl rfl (fun w s => k_Total _ w (rdw s) (rdw s)) rfl ?_
  refine to_mv rfl rfl ?_
  refine to_ex rfl rfl rfl ?_
  refine to_ex rfl rfl rfl ?_
  refine to_alloc rfl (fun b15 => ?_)
  first | refine to_st rfl rfl rfl rfl ?_ | refine to_ste rfl rfl (by assumption) rfl rfl ?_
  refine to_as rfl rfl ?_
  refine to_nil ?_
  refine tn_code ?_
  refine t_seq ?_
  refine t_reg ?_
  refine to_callR rfl rfl (fun w s => law_A w) rfl (fun v69 lo69 w69 hlo69 hR69 => ?_)
  obtain ⟨pt69, rfl, hro69, hrq69⟩ := hR69
  refine to_call0 rfl rfl (fun w s => k_Adds _ w (rdw s) (rdw s)) rfl ?_
  refine to_mv rfl rfl ?_
  refine to_ex rfl rfl rfl ?_
  refine to_ex rfl rfl rfl ?_
  refine to_alloc rfl (fun b17 => ?_)
  first | refine to_st rfl rfl rfl rfl ?_ | refine to_ste rfl rfl (by assumption) rfl rfl ?_
  refine to_as rfl rfl ?_
  refine to_nil ?_
  refine tn_code ?_
  refine t_seq ?_
  refine t_reg ?_
  refine to_callR rfl rfl (fun w s => law_A w) rfl (fun v74 lo74 w74 hlo74 hR74 => ?_)
  obtain ⟨pt74, rfl, hro74, hrq74⟩ := hR74
  refine to_call0 rfl rfl (fun w s => k_Differs _ w (rdw s) (rdw s)) rfl ?_
  refine to_mv rfl rfl ?_
  refine to_ex rfl rfl rfl ?_
  refine to_ex rfl rfl rfl ?_
  refine to_alloc rfl (fun b19 => ?_)
  first | refine to_st rfl rfl rfl rfl ?_ | refine to_ste rfl rfl (by assumption) rfl rfl ?_
  refine to_as rfl rfl ?_
  refine to_nil ?_
  refine tn_code ?_
  refine t_seq ?_
  refine t_reg ?_
  refine to_callR rfl rfl (fun w s => law_A w) rfl (fun v79 lo79 w79 hlo79 hR79 => ?_)
  obtain ⟨pt79, rfl, hro79, hrq79⟩ := hR79
  refine to_call0 rfl rfl (fun w s => k_First _ w (rdw s) (rdw s)) rfl ?_
  refine to_mv rfl rfl ?_
  refine to_ex rfl rfl rfl ?_
  refine to_ex rfl rfl rfl ?_
  refine to_as rfl rfl ?_
  refine to_as rfl rfl ?_
  refine to_nil ?_
  refine tn_code ?_
  refine t_seq ?_
  refine t_reg ?_
  refine to_callR rfl rfl (fun w s => law_A w) rfl (fun v84 lo84 w84 hlo84 hR84 => ?_)
  obtain ⟨pt84, rfl, hro84, hrq84⟩ := hR84
  refine to_callR rfl rfl (fun w s => k_Proof _ w (rdw s) (rdw s)) rfl (fun v85 lo85 w85 hlo85 hR85 => ?_)
  obtain ⟨pa85, pc85, rfl, hro85⟩ := hR85
  refine to_mv rfl rfl ?_
  refine to_ex rfl rfl rfl ?_
  refine to_ex rfl rfl rfl ?_
  refine to_as rfl rfl ?_
  refine to_as rfl rfl ?_
  refine to_nil ?_
  refine tn_code ?_
  refine t_seq ?_
  refine t_reg ?_
  refine to_callR rfl rfl (fun w s => law_A w) rfl (fun v89 lo89 w89 hlo89 hR89 => ?_)
  obtain ⟨pt89, rfl, hro89, hrq89⟩ := hR89
  refine to_bsl rfl rfl rfl rfl (fun a90 => ?_)
  refine to_callR rfl rfl (fun w s => k_Behind _ _ _ w (rdw s) (rdw s) (rdw s)) rfl (fun v91 lo91 w91 hlo91 hR91 => ?_)
  obtain ⟨pa91, pc91, rfl, hro91⟩ := hR91
  refine to_mv rfl rfl ?_
  refine to_ex rfl rfl rfl ?_
  refine to_ex rfl rfl rfl ?_
  refine to_as rfl rfl ?_
  refine to_as rfl rfl ?_
  refine to_nil ?_
  refine tn_code ?_
  refine t_seq ?_
  refine t_reg ?_
  refine to_callR rfl rfl (fun w s => k_Read w (gl_up hg (belowH_of s))) rfl (fun v95 lo95 w95 hlo95 hR95 => ?_)
  obtain ⟨pt95, rfl, hro95, hrq95⟩ := hR95
  refine to_mv rfl rfl ?_
  refine to_ex rfl rfl rfl ?_
  refine to_ex rfl rfl rfl ?_
  refine to_alloc rfl (fun b27 => ?_)
  first | refine to_st rfl rfl rfl rfl ?_ | refine to_ste rfl rfl (by assumption) rfl rfl ?_
  refine to_as rfl rfl ?_
  refine to_nil ?_
  refine tn_code ?_
  refine t_seq ?_
  refine t_seq ?_
  refine t_reg ?_
  refine to_mv rfl rfl ?_
  refine to_neq rfl rfl rfl ?_
  refine to_fix (s := 99) (b' := false) rfl (rfl) ?_
  refine to_mv rfl rfl ?_
  refine to_gt rfl rfl ?_
  refine to_mv rfl rfl ?_
  refine to_gt rfl rfl ?_
  refine to_neq rfl rfl rfl ?_
  refine to_fix (s := 102) (b' := false) rfl (rfl) ?_
  refine to_pkF rfl rfl rfl ?_
  refine to_mv rfl rfl ?_
  refine to_gt rfl rfl ?_
  refine to_mv rfl rfl ?_
  refine to_gt rfl rfl ?_
  refine to_neq rfl rfl rfl ?_
  refine to_fix (s := 106) (b' := false) rfl (rfl) ?_
  refine to_pkF rfl rfl rfl ?_
  refine to_mv rfl rfl ?_
  refine to_gt rfl rfl ?_
  refine to_mv rfl rfl ?_
  refine to_gt rfl rfl ?_
  refine to_neq rfl rfl rfl ?_
  refine to_fix (s := 110) (b' := false) rfl (rfl) ?_
  refine to_pkF rfl rfl rfl ?_
  refine to_mv rfl rfl ?_
  refine to_gt rfl rfl ?_
  refine to_mv rfl rfl ?_
  refine to_gt rfl rfl ?_
  refine to_neq rfl rfl rfl ?_
  refine to_fix (s := 114) (b' := false) rfl (rfl) ?_
  refine to_pkF rfl rfl rfl ?_
  refine to_mv rfl rfl ?_
  refine to_gt rfl rfl ?_
  refine to_mv rfl rfl ?_
  refine to_gt rfl rfl ?_
  refine to_neq rfl rfl rfl ?_
  refine to_fix (s := 118) (b' := false) rfl (rfl) ?_
  refine to_pkF rfl rfl rfl ?_
  refine to_mv rfl rfl ?_
  refine to_gt rfl rfl ?_
  refine to_mv rfl rfl ?_
  refine to_gt rfl rfl ?_
  refine to_neq rfl rfl rfl ?_
  refine to_fix (s := 122) (b' := false) rfl (rfl) ?_
  refine to_pkF rfl rfl rfl ?_
  refine to_mv rfl rfl ?_
  refine to_gt rfl rfl ?_
  refine to_mv rfl rfl ?_
  refine to_gt rfl rfl ?_
  refine to_neq rfl rfl rfl ?_
  refine to_fix (s := 126) (b' := false) rfl (rfl) ?_
  refine to_pkF rfl rfl rfl ?_
  refine to_mv rfl rfl ?_
  refine to_gt rfl rfl ?_
  refine to_mv rfl rfl ?_
  refine to_gt rfl rfl ?_
  refine to_neq rfl rfl rfl ?_
  refine to_fix (s := 130) (b' := false) rfl (rfl) ?_
  refine to_pkF rfl rfl rfl ?_
  refine to_mv rfl rfl ?_
  refine to_gt rfl rfl ?_
  refine to_mv rfl rfl ?_
  refine to_gt rfl rfl ?_
  refine to_neq rfl rfl rfl ?_
  refine to_fix (s := 134) (b' := false) rfl (rfl) ?_
  refine to_pkF rfl rfl rfl ?_
  refine to_mv rfl rfl ?_
  refine to_gt rfl rfl ?_
  refine to_mv rfl rfl ?_
  refine to_gt rfl rfl ?_
  refine to_neq rfl rfl rfl ?_
  refine to_fix (s := 138) (b' := false) rfl (rfl) ?_
  refine to_pkF rfl rfl rfl ?_
  refine to_mv rfl rfl ?_
  refine to_gt rfl rfl ?_
  refine to_mv rfl rfl ?_
  refine to_gt rfl rfl ?_
  refine to_neq rfl rfl rfl ?_
  refine to_fix (s := 142) (b' := false) rfl (rfl) ?_
  refine to_pkF rfl rfl rfl ?_
  refine to_mv rfl rfl ?_
  refine to_gt rfl rfl ?_
  refine to_mv rfl rfl ?_
  refine to_gt rfl rfl ?_
  refine to_neq rfl rfl rfl ?_
  refine to_fix (s := 146) (b' := false) rfl (rfl) ?_
  refine to_pkF rfl rfl rfl ?_
  refine to_mv rfl rfl ?_
  refine to_gt rfl rfl ?_
  refine to_mv rfl rfl ?_
  refine to_gt rfl rfl ?_
  refine to_neq rfl rfl rfl ?_
  refine to_fix (s := 150) (b' := false) rfl (rfl) ?_
  refine to_pkF rfl rfl rfl ?_
  refine to_nil ?_
  refine tn_code ?_
  refine t_ifF rfl ?_
  refine t_skip ?_
  refine tn_code ?_
  refine t_seq ?_
  refine t_seq ?_
  refine t_reg ?_
  refine to_mv rfl rfl ?_
  refine to_neq rfl rfl rfl ?_
  refine to_fix (s := 153) (b' := false) rfl (rfl) ?_
  refine to_mv rfl rfl ?_
  refine to_gt rfl rfl ?_
  refine to_mv rfl rfl ?_
  refine to_gt rfl rfl ?_
  refine to_call0 rfl rfl (fun w s => law_span _ _ w) rfl ?_
  refine to_gt rfl rfl ?_
  refine to_call0 rfl rfl (fun w s => law_span _ _ w) rfl ?_
  refine to_gt rfl rfl ?_
  refine to_call0 rfl rfl (fun w s => law_span _ _ w) rfl ?_
  refine to_gt rfl rfl ?_
  refine to_bsl rfl rfl rfl rfl (fun a159 => ?_)
  refine to_gt rfl rfl ?_
  refine to_call0 rfl rfl (fun w s => ref_SameSpans [(12, 14), (25, 27), (43, 45)] [(12, 14), (25, 27), (43, 45)] _ _ _ _ w (rdw s) (rdw s) (by decide)) rfl ?_
  refine to_fix (s := 160) (b' := true) rfl (by decide) ?_
  refine to_gt rfl rfl ?_
  refine to_not rfl rfl ?_
  refine to_pkF rfl rfl rfl ?_
  refine to_mv rfl rfl ?_
  refine to_gt rfl rfl ?_
  refine to_mv rfl rfl ?_
  refine to_gt rfl rfl ?_
  refine to_call0 rfl rfl (fun w s => law_span _ _ w) rfl ?_
  refine to_gt rfl rfl ?_
  refine to_call0 rfl rfl (fun w s => law_span _ _ w) rfl ?_
  refine to_gt rfl rfl ?_
  refine to_call0 rfl rfl (fun w s => law_span _ _ w) rfl ?_
  refine to_gt rfl rfl ?_
  refine to_bsl rfl rfl rfl rfl (fun a168 => ?_)
  refine to_gt rfl rfl ?_
  refine to_call0 rfl rfl (fun w s => ref_SameSpans [(1, 2), (2, 3), (4, 5)] [(1, 2), (2, 3), (4, 5)] _ _ _ _ w (rdw s) (rdw s) (by decide)) rfl ?_
  refine to_fix (s := 169) (b' := true) rfl (by decide) ?_
  refine to_gt rfl rfl ?_
  refine to_not rfl rfl ?_
  refine to_pkF rfl rfl rfl ?_
  refine to_mv rfl rfl ?_
  refine to_gt rfl rfl ?_
  refine to_mv rfl rfl ?_
  refine to_gt rfl rfl ?_
  refine to_neq rfl rfl rfl ?_
  refine to_fix (s := 174) (b' := false) rfl (rfl) ?_
  refine to_pkF rfl rfl rfl ?_
  refine to_mv rfl rfl ?_
  refine to_gt rfl rfl ?_
  refine to_mv rfl rfl ?_
  refine to_gt rfl rfl ?_
  refine to_bsl rfl rfl rfl rfl (fun a178 => ?_)
  refine to_gt rfl rfl ?_
  refine to_call0 rfl rfl (fun w s => ref_Same [0, 1] [0, 1] _ _ _ _ w (rdw s) (rdw s) (by decide)) rfl ?_
  refine to_fix (s := 179) (b' := true) rfl (by decide) ?_
  refine to_gt rfl rfl ?_
  refine to_not rfl rfl ?_
  refine to_pkF rfl rfl rfl ?_
  refine to_mv rfl rfl ?_
  refine to_gt rfl rfl ?_
  refine to_mv rfl rfl ?_
  refine to_gt rfl rfl ?_
  refine to_neq rfl rfl rfl ?_
  refine to_fix (s := 184) (b' := false) rfl (rfl) ?_
  refine to_pkF rfl rfl rfl ?_
  refine to_mv rfl rfl ?_
  refine to_gt rfl rfl ?_
  refine to_mv rfl rfl ?_
  refine to_gt rfl rfl ?_
  refine to_neq rfl rfl rfl ?_
  refine to_fix (s := 188) (b' := false) rfl (rfl) ?_
  refine to_pkF rfl rfl rfl ?_
  refine to_nil ?_
  refine tn_code ?_
  refine t_ifF rfl ?_
  refine t_skip ?_
  refine tn_code ?_
  refine t_seq ?_
  refine t_regP [19, 20, 27, 28, 32] [0, 1, 2, 3, 4, 5, 6, 7, 8, 9, 10, 11, 12, 13, 14, 15, 16, 17, 18, 19, 20, 21, 22, 23, 24, 25, 26, 27, 28, 29, 30, 31, 32, 33, 34, 35] [.own b27 (isC (shC shT pt95) 33), .own b19 (isC [.int .i64 (-1), .int .i64 1] 53), .own b17 (isC [.int .i64 8, .int .i64 9] 53), .own b15 (isC [.int .i64 8, .int .i64 9] 53), .snap 0 w.heap.size w] rfl (by kernel_rfl) (by kernel_rfl) ?_
  refine tp_q ?e1 rfl ?q1 ?r1
  case q1 =>
    first | refine to_lda rfl rfl rfl ?_ | refine to_ldea rfl (by assumption) rfl rfl ?_
    exact tpq_end
  refine tp_q ?e2 rfl ?q2 ?r2
  case q2 =>
    refine to_call0 rfl rfl (fun w s => law_span _ _ w) rfl ?_
    exact tpq_end
  refine tp_q ?e3 rfl ?q3 ?r3
  case q3 =>
    refine to_eqs rfl rfl rfl rfl rfl rfl rfl ?_
    refine to_fix (s := 192) (b' := true) rfl (rfl) ?_
    exact tpq_end
  refine tp_q ?e4 rfl ?q4 ?r4
  case q4 =>
    refine to_mv rfl rfl ?_
    exact tpq_end
  refine tp_gt rfl rfl ?_
  refine tp_q ?e5 rfl ?q5 ?r5
  case q5 =>
    first | refine to_lda rfl rfl rfl ?_ | refine to_ldea rfl (by assumption) rfl rfl ?_
    exact tpq_end
  refine tp_gt rfl rfl ?_
  refine tp_q ?e6 rfl ?q6 ?r6
  case q6 =>
    refine to_call0 rfl rfl (fun w s => law_span _ _ w) rfl ?_
    exact tpq_end
  refine tp_gt rfl rfl ?_
  refine tp_q ?e7 rfl ?q7 ?r7
  case q7 =>
    refine to_eqs rfl rfl rfl rfl rfl rfl rfl ?_
    refine to_fix (s := 196) (b' := true) rfl (rfl) ?_
    exact tpq_end
  refine tp_q ?e8 rfl ?q8 ?r8
  case q8 =>
    refine to_pkT rfl rfl rfl ?_
    exact tpq_end
  refine tp_q ?e9 rfl ?q9 ?r9
  case q9 =>
    refine to_mv rfl rfl ?_
    exact tpq_end
  refine tp_gt rfl rfl ?_
  refine tp_q ?e10 rfl ?q10 ?r10
  case q10 =>
    first | refine to_lda rfl rfl rfl ?_ | refine to_ldea rfl (by assumption) rfl rfl ?_
    exact tpq_end
  refine tp_gt rfl rfl ?_
  refine tp_q ?e11 rfl ?q11 ?r11
  case q11 =>
    refine to_call0 rfl rfl (fun w s => law_span _ _ w) rfl ?_
    exact tpq_end
  refine tp_gt rfl rfl ?_
  refine tp_q ?e12 rfl ?q12 ?r12
  case q12 =>
    refine to_eqs rfl rfl rfl rfl rfl rfl rfl ?_
    refine to_fix (s := 201) (b' := true) rfl (rfl) ?_
    exact tpq_end
  refine tp_q ?e13 rfl ?q13 ?r13
  case q13 =>
    refine to_pkT rfl rfl rfl ?_
    exact tpq_end
  refine tp_q ?e14 rfl ?q14 ?r14
  case q14 =>
    refine to_mv rfl rfl ?_
    exact tpq_end
  refine tp_gt rfl rfl ?_
  refine tp_q ?e15 rfl ?q15 ?r15
  case q15 =>
    refine to_mv rfl rfl ?_
    exact tpq_end
  refine tp_gt rfl rfl ?_
  refine tp_q ?e16 rfl ?q16 ?r16
  case q16 =>
    refine to_eql rfl rfl rfl ?_
    refine to_fix (s := 205) (b' := true) rfl (rfl) ?_
    exact tpq_end
  refine tp_q ?e17 rfl ?q17 ?r17
  case q17 =>
    refine to_pkT rfl rfl rfl ?_
    exact tpq_end
  refine tp_q ?e18 rfl ?q18 ?r18
  case q18 =>
    refine to_mv rfl rfl ?_
    exact tpq_end
  refine tp_gt rfl rfl ?_
  refine tp_q ?e19 rfl ?q19 ?r19
  case q19 =>
    refine to_mv rfl rfl ?_
    exact tpq_end
  refine tp_gt rfl rfl ?_
  refine tp_s rfl ?_ (fun _ h => by cases h) rfl
  refine to_bsl rfl rfl rfl rfl (fun a209 => ?_)
  refine tp_se rfl ?_
  refine tp_gt rfl rfl ?_
  refine tp_s rfl ?_ (fun _ h => by cases h) rfl
  refine to_call0 rfl rfl (fun w s => ref_Same [12, 25, 45] [12, 25, 45] _ _ _ _ w (rdw s) (rdw s) (by decide)) rfl ?_
  refine to_fix (s := 210) (b' := true) rfl (by decide) ?_
  refine tp_se rfl ?_
  refine tp_q ?e20 rfl ?q20 ?r20
  case q20 =>
    refine to_pkT rfl rfl rfl ?_
    exact tpq_end
  refine tp_q ?e21 rfl ?q21 ?r21
  case q21 =>
    refine to_mv rfl rfl ?_
    exact tpq_end
  refine tp_gt rfl rfl ?_
  refine tp_q ?e22 rfl ?q22 ?r22
  case q22 =>
    refine to_mv rfl rfl ?_
    exact tpq_end
  refine tp_gt rfl rfl ?_
  refine tp_q ?e23 rfl ?q23 ?r23
  case q23 =>
    refine to_call0 rfl rfl (fun w s => law_span _ _ w) rfl ?_
    exact tpq_end
  refine tp_gt rfl rfl ?_
  refine tp_q ?e24 rfl ?q24 ?r24
  case q24 =>
    refine to_call0 rfl rfl (fun w s => law_span _ _ w) rfl ?_
    exact tpq_end
  refine tp_gt rfl rfl ?_
  refine tp_q ?e25 rfl ?q25 ?r25
  case q25 =>
    refine to_call0 rfl rfl (fun w s => law_span _ _ w) rfl ?_
    exact tpq_end
  refine tp_gt rfl rfl ?_
  refine tp_s rfl ?_ (fun _ h => by cases h) rfl
  refine to_bsl rfl rfl rfl rfl (fun a217 => ?_)
  refine tp_se rfl ?_
  refine tp_gt rfl rfl ?_
  refine tp_s rfl ?_ (fun _ h => by cases h) rfl
  refine to_call0 rfl rfl (fun w s => ref_SameSpans [(14, 14), (27, 27), (44, 44)] [(14, 14), (27, 27), (44, 44)] _ _ _ _ w (rdw s) (rdw s) (by decide)) rfl ?_
  refine to_fix (s := 218) (b' := true) rfl (by decide) ?_
  refine tp_se rfl ?_
  refine tp_q ?e26 rfl ?q26 ?r26
  case q26 =>
    refine to_pkT rfl rfl rfl ?_
    exact tpq_end
  refine tp_q ?e27 rfl ?q27 ?r27
  case q27 =>
    refine to_mv rfl rfl ?_
    exact tpq_end
  refine tp_gt rfl rfl ?_
  refine tp_q ?e28 rfl ?q28 ?r28
  case q28 =>
    first | refine to_lda rfl rfl rfl ?_ | refine to_ldea rfl (by assumption) rfl rfl ?_
    exact tpq_end
  refine tp_gt rfl rfl ?_
  refine tp_s rfl ?_ (fun _ h => by cases h) rfl
  refine to_call0 rfl rfl (fun w s => k_Print _ w (rdw s) (rdw s)) rfl ?_
  refine tp_se rfl ?_
  refine tp_gt rfl rfl ?_
  refine tp_q ?e29 rfl ?q29 ?r29
  case q29 =>
    refine to_seq rfl rfl rfl ?_
    refine to_fix (s := 223) (b' := true) rfl (by decide) ?_
    exact tpq_end
  refine tp_q ?e30 rfl ?q30 ?r30
  case q30 =>
    refine to_pkT rfl rfl rfl ?_
    exact tpq_end
  refine tp_q ?e31 rfl ?q31 ?r31
  case q31 =>
    refine to_as rfl rfl ?_
    exact tpq_end
  refine tp_nil ?_
  refine tn_code ?_
  refine t_ret1 rfl rfl (res_tmp rfl) (fun w' s => ?_)
  rfl

end Go.Proofs


namespace Go.Proofs
open Go Go.Sx Go.RowKit Go.WideShapes Go.ChangeShapes

/-! # What comes in, as plain data -/

section opens
variable {H : Type} {enc : TypeId × Value → H} {P : Program} {w : World} {base : Nat} {spare : Nat → Bool} {held : Bool}

def i64B (n : Int) : Prop := -9223372036854775808 ≤ n ∧ n ≤ 9223372036854775807
def isI64 (v : Value) : Prop := ∃ n, v = .int .i64 n ∧ i64B n
def coverB (P : Program) (g : TypeId → Bool) : List Field → Nat → Nat → Bool
  | [], off, k => off == k
  | f :: fs, off, k => (f.offset == off && g f.type) && coverB P g fs (off + P.cellsOf f.type) k
/-- All cells of the type are ints. -/
def intB (P : Program) : Nat → TypeId → Bool
  | 0, _ => false
  | d + 1, t => match P.underlying t with
    | some (.int .i64) => P.cellsOf t == 1
    | some (.struct f) => coverB P (intB P d) f.toList 0 (P.cellsOf t)
    | _ => false

theorem cover_all {g : TypeId → Bool} {cs : List Value} : ∀ {fs : List Field} {off : Nat}, coverB P g fs off cs.length = true → (∀ f ∈ fs, g f.type = true → (((cs.drop f.offset).take (P.cellsOf f.type)).length = P.cellsOf f.type ∧ ∀ v ∈ (cs.drop f.offset).take (P.cellsOf f.type), isI64 v)) → ∀ v ∈ cs.drop off, isI64 v
  | [], off, h, _ => by
    simp only [coverB, beq_iff_eq] at h
    intro v hv
    rw [List.drop_of_length_le (by omega)] at hv
    cases hv
  | f :: fs, off, h, hall => by
    simp only [coverB, Bool.and_eq_true, beq_iff_eq] at h
    obtain ⟨⟨h1, h2⟩, h3⟩ := h
    have h4 := (hall f (List.mem_cons_self ..) h2).2
    have ih := cover_all h3 (fun f' hf' => hall f' (List.mem_cons_of_mem _ hf'))
    intro v hv
    rw [← List.take_append_drop (P.cellsOf f.type) (cs.drop off), List.mem_append] at hv
    rcases hv with hv | hv
    · exact h4 v (by rw [h1]; exact hv)
    · rw [List.drop_drop] at hv
      exact ih v hv

theorem trod_ints : ∀ (d : Nat) {t : TypeId} {fuel : Nat} {cs : List Value} {x : DataW H × List MemPlace}, intB P d t = true → DataW.trod enc P w base spare held fuel t cs = some x → cs.length = P.cellsOf t ∧ ∀ v ∈ cs, isI64 v
  | 0, _, _, _, _, h, _ => by simp [intB] at h
  | d + 1, t, fuel, cs, x, h, ht => by
    simp only [intB] at h
    split at h
    · rename_i hu
      obtain ⟨n, rfl, _, hw⟩ := DataW.trod_int hu ht
      simp only [beq_iff_eq] at h
      refine ⟨by simp [h], fun v hv => ?_⟩
      simp only [List.mem_singleton] at hv
      refine ⟨n, hv, ?_⟩
      simpa [i64B, Lit.wf, IntKind.min, IntKind.max, IntKind.signed, IntKind.bits] using hw
    · rename_i f hu
      obtain ⟨xs, n, _, _, hl, hxl, hat⟩ := DataW.trod_struct hu ht
      refine ⟨hl, fun v hv => ?_⟩
      rw [← hl] at h
      have := cover_all (P := P) (g := intB P d) (cs := cs) (off := 0) h (fun fl hfl hg => by
        obtain ⟨i, hi⟩ := List.mem_iff_getElem?.1 hfl
        have hi' : f[i]? = some fl := by simpa using hi
        have h1 := hat i fl hi'
        have hlt : i < xs.length := by rw [hxl]; exact (Array.getElem?_eq_some_iff.1 hi').1
        rw [List.getElem?_eq_getElem hlt] at h1
        exact trod_ints d hg h1)
      exact this v (by simpa using hv)
    · cases h

theorem cells1 {cs : List Value} (hl : cs.length = 1) (h : ∀ v ∈ cs, isI64 v) : ∃ n : Int, cs = [.int .i64 n] ∧ i64B n := by
  match cs, hl, h with
  | [a], _, h =>
    obtain ⟨p, rfl, hp⟩ := h a (by simp)
    exact ⟨p, rfl, hp⟩

theorem mem_choose {α β : Type} {f : β → α} {p : α → Prop} (hp : ∀ a, p a → ∃ b, a = f b) : ∀ (xs : List α), (∀ a ∈ xs, p a) → ∃ ys : List β, xs = ys.map f
  | [], _ => ⟨[], rfl⟩
  | x :: xs, h => by
    obtain ⟨y, rfl⟩ := hp x (h x (List.mem_cons_self ..))
    obtain ⟨ys, rfl⟩ := mem_choose hp xs (fun a ha => h a (List.mem_cons_of_mem _ ha))
    exact ⟨y :: ys, rfl⟩

/-- A slice whose elements are ints, or structs of ints: its rows. -/
theorem open_rows {t e : TypeId} {sz fuel d : Nat} {v : Value} {x : DataW H × List MemPlace} {P : Program} {w : World} (ht : P.underlying t = some (.slice e)) (hi : intB P d e = true) (hsz : P.cellsOf e = sz)
    (hv : Value.okWide P w .any base t v ∨ Cell.okWide P w .any base t v) {a : Option Addr} {n cap : Nat} (hva : v = .slice a n cap) (h : DataW.trod enc P w 0 (fun _ => true) true fuel t [v] = some x) :
    ∃ xs : List (List Value), Ro w 0 w.heap.size a n cap sz xs ∧ (∀ r ∈ xs, r.length = sz ∧ ∀ u ∈ r, isI64 u) ∧ (n : Int) ≤ 9223372036854775807 := by
  subst hva
  rcases DataW.trod_slice ht h with ⟨hc, _⟩ | ⟨ad, len, cap', elems, rest, n', _, hc, _, _, hl, hm, hlen, hel, _, _⟩
  · cases hc
    exact ⟨[], Ro.nil _ _ _ _, (fun _ h => by cases h), by decide⟩
  · cases hc
    have hcell : Cell.okWide P w .any base t (.slice (some ad) n cap) := by
      rcases hv with hv | hv
      · unfold Value.okWide at hv; rw [ht] at hv; exact hv
      · exact hv
    have hhas : (cap : Int) ≤ IntKind.i64.max ∧ w.has P .any base ad e cap := by
      unfold Cell.okWide at hcell
      rw [ht] at hcell
      simp only [Cell.ok, ht] at hcell
      exact hcell.2
    obtain ⟨hcm, _, hsp, row, cells, hshape, _⟩ := hhas
    have hblk : ad.block < w.heap.size := by
      unfold World.shape? at hshape
      cases hb : w.heap[ad.block]? with
      | none => rw [hb] at hshape; cases hshape
      | some o => exact (Array.getElem?_eq_some_iff.1 hb).1
    have key : ∀ i, i < n → ∃ r : List Value, r.length = sz ∧ (∀ u ∈ r, isI64 u) ∧ ∀ j u, r[j]? = some u → w.cell? ⟨ad.block, ad.off + (i * sz + j), none⟩ = some u := by
      intro i hi2
      have h1 := hel i hi2
      have hlt : i < elems.length := by rw [hlen]; exact hi2
      rw [List.getElem?_eq_getElem hlt] at h1
      simp only [Option.bind_eq_some_iff] at h1
      obtain ⟨cs', h2, h3⟩ := h1
      obtain ⟨h4, h5⟩ := trod_ints d hi h3
      obtain ⟨_, hcl, hat⟩ := World.cells?_some h2
      refine ⟨cs', by omega, h5, fun j u hu => ?_⟩
      have hjl := (List.getElem?_eq_some_iff.1 hu).1
      have := hat j (by omega)
      rw [hu] at this
      rw [hsz] at this
      have e1 : (ad.add (i * sz)).add j = ⟨ad.block, ad.off + (i * sz + j), none⟩ := by
        rw [Addr.add_add, add_block _ _ hsp]
      rw [e1] at this
      exact this
    obtain ⟨f, hf⟩ : ∃ f : Nat → List Value, ∀ i, i < n → (f i).length = sz ∧ (∀ u ∈ f i, isI64 u) ∧ ∀ j u, (f i)[j]? = some u → w.cell? ⟨ad.block, ad.off + (i * sz + j), none⟩ = some u :=
      ⟨fun i => if h : i < n then Classical.choose (key i h) else [], fun i hi2 => by
        have := Classical.choose_spec (key i hi2)
        simp only [dif_pos hi2]
        exact this⟩
    have hget : ∀ i r, ((List.range n).map f)[i]? = some r → i < n ∧ r = f i := by
      intro i r hr
      simp only [List.getElem?_map, Option.map_eq_some_iff] at hr
      obtain ⟨k, hk, rfl⟩ := hr
      obtain ⟨h1, h2⟩ := List.getElem?_eq_some_iff.1 hk
      simp at h1 h2
      subst h2
      exact ⟨h1, rfl⟩
    have hmem : ∀ r ∈ (List.range n).map f, r.length = sz ∧ ∀ u ∈ r, isI64 u := by
      intro r hr
      simp only [List.mem_map, List.mem_range] at hr
      obtain ⟨i, hi2, rfl⟩ := hr
      exact ⟨(hf i hi2).1, (hf i hi2).2.1⟩
    refine ⟨(List.range n).map f, ⟨by simp, fun r hr => (hmem r hr).1, hl, .inr ⟨ad, rfl, hsp, Nat.zero_le _, hblk, fun i r hr j u hu => ?_⟩⟩, hmem, ?_⟩
    · obtain ⟨h1, rfl⟩ := hget i r hr
      exact (hf i h1).2.2 j u hu
    · have : IntKind.i64.max = 9223372036854775807 := by decide
      omega

/-- An int. -/
theorem open_i {t : TypeId} {v : Value} {d : DataW H} {ps : List MemPlace} (ht : P.underlying t = some (.int .i64)) (hval : Value.okWide P w .any base t v) (h : DataW.Trod enc P w 0 (fun _ => true) true t v d ps) : ∃ n : Int, v = .int .i64 n ∧ i64B n := by
  obtain ⟨n, rfl, _, _, hw⟩ := open_int ht hval h
  exact ⟨n, rfl, by simpa [i64B, Lit.wf, IntKind.min, IntKind.max, IntKind.signed, IntKind.bits] using hw⟩

/-- A struct of ints. -/
theorem open_s {t : TypeId} {f : Array Field} {v : Value} {x : DataW H} {ps : List MemPlace} {k d : Nat} (ht : P.underlying t = some (.struct f)) (hi : intB P d t = true) (hk : P.cellsOf t = k) (hval : Value.okWide P w .any base t v)
    (h : DataW.Trod enc P w 0 (fun _ => true) true t v x ps) : ∃ cs : List Value, v = .agg cs.toArray ∧ cs.length = k ∧ ∀ u ∈ cs, isI64 u := by
  obtain ⟨cs, rfl, hsz⟩ := okWide_struct ht hval
  obtain ⟨fuel, h⟩ := h
  obtain ⟨h1, h2⟩ := trod_ints d hi h
  exact ⟨cs.toList, by simp, by simpa [Value.cells, hk] using h1, by simpa [Value.cells] using h2⟩

theorem open_l {t e : TypeId} {sz d : Nat} {v : Value} {x : DataW H} {ps : List MemPlace} {P : Program} {w : World} (ht : P.underlying t = some (.slice e)) (hi : intB P d e = true) (hsz : P.cellsOf e = sz) (hval : Value.okWide P w .any base t v)
    (h : DataW.Trod enc P w 0 (fun _ => true) true t v x ps) : ∃ (a : Option Addr) (n c : Nat) (xs : List (List Value)), v = .slice a n c ∧ Ro w 0 w.heap.size a n c sz xs ∧ (∀ r ∈ xs, r.length = sz ∧ ∀ u ∈ r, isI64 u) := by
  obtain ⟨a, n, c, rfl⟩ := okWide_slice ht hval
  obtain ⟨fuel, h⟩ := h
  obtain ⟨xs, h1, h2, _⟩ := open_rows ht hi hsz (.inl hval) rfl h
  exact ⟨a, n, c, xs, rfl, h1, h2⟩

end opens

section seat
variable {H : Type} {enc : TypeId × Value → H} {w : World} {base : Nat}

theorem field_at {f : Array Field} {L : List (Nat × TypeId)} (h : f.toList.map (fun f => (f.offset, f.type)) = L) {i o : Nat} {u : TypeId} (hi : L[i]? = some (o, u)) : ∃ fld, f[i]? = some fld ∧ fld.offset = o ∧ fld.type = u := by
  subst h
  simp only [List.getElem?_map, Option.map_eq_some_iff] at hi
  obtain ⟨fld, h1, h2⟩ := hi
  cases h2
  exact ⟨fld, by simpa using h1, rfl, rfl⟩

theorem u3 : Tryz.prog.underlying 3 = some (.int .i64) := Tryz.ty3.int
theorem uRu : Tryz.prog.underlying 22 = some (.int .i64) := Tryz.ty22.int
theorem uIn : Tryz.prog.underlying 30 = some (.slice 3) := Tryz.ty30.slice

set_option maxRecDepth 100000 in
theorem open_ints36 {v : Value} {x : DataW H} {ps : List MemPlace} (hval : Value.okWide Tryz.prog w .any base 30 v) (h : DataW.Trod enc Tryz.prog w 0 (fun _ => true) true 30 v x ps) :
    ∃ (l : List Int) (a : Option Addr) (c : Nat), v = .slice a l.length c ∧ Ro w 0 w.heap.size a l.length c 1 (ints l) := by
  obtain ⟨a, n, c, xs, rfl, hro, hall⟩ := open_l (d := 3) uIn (by kernel_rfl) (sz := 1) (by kernel_rfl) hval h
  obtain ⟨l, rfl⟩ := mem_choose (f := intC) (p := fun r => r.length = 1 ∧ ∀ u ∈ r, isI64 u) (fun r hr => by
    obtain ⟨n, h1, _⟩ := cells1 hr.1 hr.2
    exact ⟨n, h1⟩) xs hall
  have hlen := hro.len
  rw [List.length_map] at hlen
  subst hlen
  exact ⟨l, a, c, rfl, hro⟩

theorem u9s : Tryz.prog.underlying 9 = some .string := Tryz.ty9.string
set_option maxRecDepth 100000 in
theorem open_str {v : Value} {x : DataW H} {ps : List MemPlace} (hval : Value.okWide Tryz.prog w .any base 9 v) (h : DataW.Trod enc Tryz.prog w 0 (fun _ => true) true 9 v x ps) : ∃ l : Bs, v = strV l := by
  obtain ⟨s, rfl, _⟩ := ChangeMaps.open_string u9s hval h
  exact ⟨s.data.toList, by simp [strV]⟩

set_option maxRecDepth 100000 in
theorem open_sh {v : Value} {x : DataW H} {ps : List MemPlace} (hval : Value.okWide Tryz.prog w .any base 33 v) (h : DataW.Trod enc Tryz.prog w 0 (fun _ => true) true 33 v x ps) :
    ∃ (sh : Sh) (pt : Pt), v = shV sh pt ∧ Ro w 0 w.heap.size pt.ea sh.errs.length pt.ec 1 (ints sh.errs) ∧ Ro w 0 w.heap.size pt.ra sh.rows.length pt.rc 1 (ints sh.rows) := by
  obtain ⟨f, hf, hfs⟩ := Tryz.ty33.struct
  have hval0 := hval
  unfold Value.okWide at hval
  rw [hf] at hval
  obtain ⟨cs, rfl, hsz, ts, hts, _, hrow⟩ := hval
  have hts' : ts = [3, 22, 30, 30] := Option.some.inj (hts.symm.trans (by kernel_rfl))
  subst hts'
  obtain ⟨fuel, h⟩ := h
  obtain ⟨xs, n, _, _, hl, hxl, hat⟩ := DataW.trod_struct hf h
  have h7 : cs.toList.length = 4 := by
    have e : Tryz.prog.cellsOf 33 = 4 := by kernel_rfl
    rw [← e]; exact hl
  have hfl : f.size = 4 := by
    have := congrArg List.length hfs
    simpa using this
  have c3 : Tryz.prog.cellsOf 3 = 1 := by kernel_rfl
  have cR : Tryz.prog.cellsOf 22 = 1 := by kernel_rfl
  have cI : Tryz.prog.cellsOf 30 = 1 := by kernel_rfl
  obtain ⟨l⟩ := cs
  simp only [Value.cells] at h7 hat
  match l, h7, hat, hrow with
  | [v0, v1, v2, v3], _, hat, hrow =>
    have hi0 : ∃ n, v0 = .int .i64 n := by
      obtain ⟨fld, h1, h2, h3⟩ := field_at (i := 0) (o := 0) (u := 3) hfs rfl
      have h4 := hat 0 fld h1
      rw [h2, h3, c3] at h4
      have hlt : 0 < xs.length := by omega
      rw [List.getElem?_eq_getElem hlt] at h4
      obtain ⟨n, h5, _, _⟩ := DataW.trod_int u3 h4
      exact ⟨n, by simpa using h5⟩
    have hi1 : ∃ n, v1 = .int .i64 n := by
      obtain ⟨fld, h1, h2, h3⟩ := field_at (i := 1) (o := 1) (u := 22) hfs rfl
      have h4 := hat 1 fld h1
      rw [h2, h3, cR] at h4
      have hlt : 1 < xs.length := by omega
      rw [List.getElem?_eq_getElem hlt] at h4
      obtain ⟨n, h5, _, _⟩ := DataW.trod_int uRu h4
      exact ⟨n, by simpa using h5⟩
    have hs2 : ∃ (l : List Int) (a : Option Addr) (c : Nat), v2 = .slice a l.length c ∧ Ro w 0 w.heap.size a l.length c 1 (ints l) := by
      obtain ⟨fld, h1, h2, h3⟩ := field_at (i := 2) (o := 2) (u := 30) hfs rfl
      have h4 := hat 2 fld h1
      rw [h2, h3, cI] at h4
      have hlt : 2 < xs.length := by omega
      rw [List.getElem?_eq_getElem hlt] at h4
      have h4' : DataW.trod enc Tryz.prog w 0 (fun _ => true) true n 30 [v2] = some xs[2] := h4
      obtain ⟨u, hu1, hu2⟩ := hrow 2 v2 rfl
      cases hu1
      have hsl : ∃ a n c, v2 = .slice a n c := by
        rcases DataW.trod_slice uIn h4' with ⟨hc, _⟩ | ⟨ad, len, cap', elems, rest, n', _, hc, _⟩
        · cases hc; exact ⟨_, _, _, rfl⟩
        · cases hc; exact ⟨_, _, _, rfl⟩
      obtain ⟨a, m, c, rfl⟩ := hsl
      obtain ⟨rows, hro, hall, _⟩ := open_rows (d := 4) uIn (by kernel_rfl) (sz := 1) (by kernel_rfl) (.inr hu2) rfl h4'
      obtain ⟨ls, rfl⟩ := mem_choose (f := intC) (p := fun r => r.length = 1 ∧ ∀ u ∈ r, isI64 u) (fun r hr => by
        obtain ⟨n, h1, _⟩ := cells1 hr.1 hr.2
        exact ⟨n, h1⟩) rows hall
      have hlen := hro.len
      rw [List.length_map] at hlen
      subst hlen
      exact ⟨ls, a, c, rfl, hro⟩
    have hs3 : ∃ (l : List Int) (a : Option Addr) (c : Nat), v3 = .slice a l.length c ∧ Ro w 0 w.heap.size a l.length c 1 (ints l) := by
      obtain ⟨fld, h1, h2, h3⟩ := field_at (i := 3) (o := 3) (u := 30) hfs rfl
      have h4 := hat 3 fld h1
      rw [h2, h3, cI] at h4
      have hlt : 3 < xs.length := by omega
      rw [List.getElem?_eq_getElem hlt] at h4
      have h4' : DataW.trod enc Tryz.prog w 0 (fun _ => true) true n 30 [v3] = some xs[3] := h4
      obtain ⟨u, hu1, hu2⟩ := hrow 3 v3 rfl
      cases hu1
      have hsl : ∃ a n c, v3 = .slice a n c := by
        rcases DataW.trod_slice uIn h4' with ⟨hc, _⟩ | ⟨ad, len, cap', elems, rest, n', _, hc, _⟩
        · cases hc; exact ⟨_, _, _, rfl⟩
        · cases hc; exact ⟨_, _, _, rfl⟩
      obtain ⟨a, m, c, rfl⟩ := hsl
      obtain ⟨rows, hro, hall, _⟩ := open_rows (d := 4) uIn (by kernel_rfl) (sz := 1) (by kernel_rfl) (.inr hu2) rfl h4'
      obtain ⟨ls, rfl⟩ := mem_choose (f := intC) (p := fun r => r.length = 1 ∧ ∀ u ∈ r, isI64 u) (fun r hr => by
        obtain ⟨n, h1, _⟩ := cells1 hr.1 hr.2
        exact ⟨n, h1⟩) rows hall
      have hlen := hro.len
      rw [List.length_map] at hlen
      subst hlen
      exact ⟨ls, a, c, rfl, hro⟩
    obtain ⟨n0, rfl⟩ := hi0
    obtain ⟨n1, rfl⟩ := hi1
    obtain ⟨l2, a2, c2, rfl, h2⟩ := hs2
    obtain ⟨l3, a3, c3', rfl, h3⟩ := hs3
    exact ⟨⟨n0, n1, l2, l3⟩, ⟨a2, c2, a3, c3'⟩, rfl, h2, h3⟩

end seat
end Go.Proofs


namespace Go.Proofs
open Go Go.Sx Go.RowKit Go.WideShapes Go.ChangeShapes
namespace YtebellbkmioadaaGreatDoor

/-! # A law's row out of its contract -/

theorem own : ownKnob Tryz.prog.godebug = none := by kernel_rfl
theorem laidOut : laidOutB Tryz.prog = true := by kernel_rfl
/-- What is listed. -/
abbrev laidL : List (String × DataW Unit) := [("math/bits.deBruijn32tab", Rows.laid_math_bits_deBruijn32tab), ("math/bits.deBruijn64tab", Rows.laid_math_bits_deBruijn64tab), ("internal/strconv.uint64pow10", Rows.laid_internal_strconv_uint64pow10), ("unicode/utf8.acceptRanges", Rows.laid_unicode_utf8_acceptRanges), ("unicode/utf8.first", Rows.laid_unicode_utf8_first)]

theorem pow10_eq : (Rows.laid_internal_strconv_uint64pow10 : DataW Unit) = Lib.tabData .u64 Lib.pow10Tab := by kernel_rfl

theorem gl_of {W : World} (hL : laidMetH Tryz.prog laidL W) (hsh : W.ShapedOpen Tryz.prog) : Gl W := by
  rw [MakeChecks.laidMetH_plain _ _ _ (by kernel_rfl)] at hL
  have h3 := hL.tail.tail
  rw [pow10_eq] at h3
  have ht : Lib.TabIs Tryz.prog W "internal/strconv.uint64pow10" .u64 Lib.pow10Tab := Lib.tabIs_of_head (g := 3) (t := 176) (e := 163) (n := 20) (by kernel_rfl) (by kernel_rfl) Tryz.underlying176 Tryz.underlying163 (by kernel_rfl) (by kernel_rfl) h3
  refine ⟨ht, cell_of_shapedOpen_int (t := 3) (zero := #[.int .i64 0]) hsh (by decide +kernel) (by kernel_rfl) rfl (by kernel_rfl) (by kernel_rfl) u3, ?_⟩
  have hg : Tryz.prog.globalNamed "internal/strconv.uint64pow10" = some 3 := by kernel_rfl
  unfold Lib.TabIs World.var? at ht
  rw [hg, Option.bind_some] at ht
  split at ht
  · rename_i h; exact (Array.getElem?_eq_some_iff.1 h).1
  · cases ht

section lift
variable {H : Type} {enc : TypeId × Value → H}

theorem trodAll_below {W W' : World} (hb : Below W.heap.size W W') : ∀ {ts : List TypeId} {vs : List Value} {ds : List (DataW H)} {p : List MemPlace}, (∀ t ∈ ts, Tryz.prog.readableRec t = true ∧ t < Tryz.prog.types.size) → DataW.TrodAll enc Tryz.prog W 0 (fun _ => true) true ts vs ds p → (∀ x ∈ p, x.block < W.heap.size) → DataW.TrodAll enc Tryz.prog W' 0 (fun b => decide (b < W.heap.size)) true ts vs ds p
  | [], [], [], _, _, h, _ => h
  | t :: ts, v :: vs, d :: ds, _, hr, h, hlt => by
    obtain ⟨p, q, h1, h2, rfl⟩ := h
    exact ⟨p, q, Below.trod laidOut (hr t (List.mem_cons_self ..)).1 (hr t (List.mem_cons_self ..)).2 h1 hb (fun x hx => hlt x (List.mem_append.2 (.inl hx))), trodAll_below hb (fun u hu => hr u (List.mem_cons_of_mem _ hu)) h2 (fun x hx => hlt x (List.mem_append.2 (.inr hx))), rfl⟩
  | [], _ :: _, _, _, _, h, _ => h.elim
  | [], [], _ :: _, _, _, h, _ => h.elim
  | _ :: _, [], _, _, _, h, _ => h.elim
  | _ :: _, _ :: _, [], _, _, h, _ => h.elim

theorem trodAll_len {W : World} {sp : Nat → Bool} : ∀ {ts : List TypeId} {vs : List Value} {ds : List (DataW H)} {p : List MemPlace}, DataW.TrodAll enc Tryz.prog W 0 sp true ts vs ds p → ds.length = ts.length
  | [], [], [], _, _ => rfl
  | _ :: _, _ :: _, _ :: _, _, h => by
    obtain ⟨p, q, _, h2, _⟩ := h
    simp [trodAll_len h2]
  | [], _ :: _, _, _, h => h.elim
  | [], [], _ :: _, _, h => h.elim
  | _ :: _, [], _, _, h => h.elim
  | _ :: _, _ :: _, [], _, h => h.elim

set_option maxRecDepth 100000 in
theorem law_lifted {os : Os} (started : os.Started) {n : FuncId} {fn : Func} {s : ChangeSpec} (noInit : Tryz.prog.inits.idxOf? n = none) (hfn : Tryz.prog.funcs[n]? = some fn) (hres : fn.resultTypes = #[4]) (hvars : s.vars = [])
    (hread : (fn.params.toList.all fun t => Tryz.prog.readableRec t && decide (t < Tryz.prog.types.size)) = true)
    (hspec : ∀ ds : List (DataW H), ds.length = fn.params.toList.length → s.fn H ds = { results := [.lit (.bool true)], args := ds })
    (witness : ∃ (w : World) (tape : Tape) (i : Input), w.os = os ∧ (w.forCall tape i).Shaped Tryz.prog ∧ i.vars = [] ∧ Input.okWide Tryz.prog (w.forCall tape i) .any w.heap.size n i ∧
      ((s.pre enc Tryz.prog fn [] false (w.forCall tape i).memory i.args ∧ laidMetH Tryz.prog laidL (w.forCall tape i).memory) ∧ sizedMet enc Tryz.prog fn (OpenSpec.ofChange s) false (w.forCall tape i).memory i.args) ∧ ({} : Assume).holds Tryz.prog (lone (Frame.enter Tryz.prog n i.args .normal) [] (w.forCall tape i)))
    (law : ∀ (W : World) (base : Nat) (args : Array Value) (ds : List (DataW H)) (p : List MemPlace), (∀ (j : Nat) t v, fn.params[j]? = some t → args[j]? = some v → Value.okWide Tryz.prog W .any base t v) →
      DataW.TrodAll enc Tryz.prog W 0 (fun _ => true) true fn.params.toList args.toList ds p → Gl W → Calls Tryz.prog n args W (RetV W (.bool true))) :
    ReturnsInHanded {} Tryz.checked os n .any (fun w args => (s.pre enc Tryz.prog fn [] false w args ∧ laidMetH Tryz.prog laidL w) ∧ sizedMet enc Tryz.prog fn (OpenSpec.ofChange s) false w args) (s.post enc Tryz.prog fn false true false false) := by
  refine returnsInHanded_of_calls (C := Tryz.checked) own started noInit witness ?_
  intro w tape i _ hsh _ hok hpre _
  obtain ⟨_, _, _, fn', hfn', _, _, _, _, hval⟩ := hok
  have e : fn' = fn := Option.some.inj (hfn'.symm.trans hfn)
  subst e
  obtain ⟨⟨⟨ds, gs, before, hw, _⟩, hx⟩, _⟩ := hpre
  have hw' := DataW.Whole.of_heap (w' := w.forCall tape i) (by rfl) hw
  have hL : laidMetH Tryz.prog laidL (w.forCall tape i) := laidMetH.of_heap (by rfl) hx
  have hW := hw'
  obtain ⟨p, q, hA, hV, rfl, _, _⟩ := hw'
  rw [hvars] at hV
  obtain ⟨rfl, rfl⟩ := trodVars_none hV
  have hlt : ∀ x ∈ p, x.block < (w.forCall tape i).heap.size := fun x hx => by
    have := hW.lt x (by simpa using hx)
    simpa using this
  refine (law _ _ _ _ _ hval hA (gl_of hL hsh)).mono ?_
  rintro e W' ⟨rfl, hb⟩
  refine ChangeSpec.post_blind ?_
  have hsp : s.fn H (ds ++ []) = { results := [.lit (.bool true)], args := ds } := by
    rw [List.append_nil]
    exact hspec ds (trodAll_len hA)
  rw [List.append_nil] at hW
  refine ⟨ds, [], p, [], p, [], hW, ?_, ?_, ?_, hb.frame _, fun h => by cases h⟩
  · rw [hsp, hres]
    exact trodAll_mk1 (shut_bool Tryz.underlying4 _)
  · rw [hsp]
    refine trodAll_below hb (fun t ht => ?_) hA hlt
    have := List.all_eq_true.1 hread t ht
    simpa using this
  · rw [hsp, hvars]
    rfl

theorem trodAll_cons {W : World} {sp : Nat → Bool} {t : TypeId} {ts : List TypeId} {vs : List Value} {ds : List (DataW H)} {p : List MemPlace} (h : DataW.TrodAll enc Tryz.prog W 0 sp true (t :: ts) vs ds p) :
    ∃ v vs' d ds' p' q, vs = v :: vs' ∧ ds = d :: ds' ∧ DataW.Trod enc Tryz.prog W 0 sp true t v d p' ∧ DataW.TrodAll enc Tryz.prog W 0 sp true ts vs' ds' q := by
  match vs, ds, h with
  | v :: vs', d :: ds', h =>
    obtain ⟨p', q, h1, h2, _⟩ := h
    exact ⟨v, vs', d, ds', p', q, rfl, rfl, h1, h2⟩
theorem trodAll_nil {W : World} {sp : Nat → Bool} {vs : List Value} {ds : List (DataW H)} {p : List MemPlace} (h : DataW.TrodAll enc Tryz.prog W 0 sp true [] vs ds p) : vs = [] := by
  match vs, ds, h with
  | [], [], _ => rfl

end lift
end YtebellbkmioadaaGreatDoor
end Go.Proofs

