/- Contracts of the functions on pages and on steps, and the documents' examples. No condition beyond each theorem's own. -/
import Derived.Test.YtceepchchaaceaaGreatOwnE
set_option linter.unusedVariables false
set_option linter.unusedSimpArgs false
namespace Go.Proofs
open Go Go.Sx Go.RowKit

def tkM (F : Int × Int × Int → Int) (k : Nat) : List Int := (lnsB.take k).map F
theorem tkM_succ {F : Int × Int × Int → Int} {k : Nat} {y : Int × Int × Int} (h : lnsB[k]? = some y) : ints (tkM F (k + 1)) = ints (tkM F k) ++ [[.int .i64 (F y)]] := by
  rw [tkM, take_snoc h]; simp [tkM]
theorem mbB_own {w w' : World} {H H2 : List Seg} {r : Nat} {ps : List (Int × Int)} (s : St w H w') [h : OwnAt r H (isMb ps) H2] [h0 : SnapAt w H2 0 w.heap.size] : MbB w' w.heap.size w'.heap.size r ps := by
  have s2 := s.perm h.perm
  obtain ⟨o, h1, h2⟩ := s.own_at (b := r)
  refine ⟨?_, (Array.getElem?_eq_some_iff.1 h1).1, o, h1, h2⟩
  have := (List.pairwise_cons.1 s2.apart).1 _ h0.mem
  simp only [Seg.apart, Seg.lo, Seg.hi] at this
  omega
def RPgF (L : PgL) : Nat → World → Value → Prop := fun lo w1 v => ∃ A bp, v = .pointer (some ⟨bp, 0, none⟩) ∧ PgF L A bp w1 lo w1.heap.size

set_option maxRecDepth 20000 in
theorem pf_pageOf (L : PgL) (w : World) (hk : PgOk L w 0 w.heap.size) : Calls Tryz.prog 34 #[pgbV L] w (Ret w (RPgF L)) := by
  have hln : Ro w 0 w.heap.size L.la 3 L.lc 3 (lnsB.map lnC) := hk.ln
  have hlg := hk.lg
  refine calls_T (av := [_]) Tryz.func34 rfl rfl rfl ?_
  refine t_seq ?_
  refine t_reg ?_
  refine to_box rfl rfl (fun b1 => ?_)
  refine to_as rfl rfl ?_
  refine to_nil ?_
  refine tn_code ?_
  refine t_seq ?_
  refine t_reg ?_
  first | refine to_lda rfl rfl rfl ?_ | refine to_ldea rfl (by assumption) rfl rfl ?_
  refine to_mkmb rfl (fun r10 => ?_)
  refine to_bs rfl rfl ?_
  refine to_box rfl rfl (fun b12 => ?_)
  refine to_as rfl rfl ?_
  refine to_nil ?_
  refine tn_code ?_
  refine t_seq ?_
  refine t_seq ?_
  refine t_reg ?_
  first | refine to_fa rfl rfl rfl (by simp only [Nat.reduceAdd]; rfl) rfl ?_ | refine to_fae rfl rfl rfl (by simp only [Nat.reduceAdd]; rfl) rfl ?_
  first | refine to_lds rfl rfl rfl ?_ | refine to_ldes rfl (by assumption) rfl rfl ?_
  refine to_lenS rfl rfl ?_
  refine to_mv rfl rfl ?_
  refine to_nil ?_
  refine tn_code ?_
  refine t_blk ?_
  refine t_nilrow 3 1 ?_
  refine t_nilrow 3 1 ?_
  refine t_nilrow 3 1 ?_
  refine t_loop2 (ι := Nat × Option Addr × Nat × Option Addr × Nat × Option Addr × Nat) (fun ((k, na, nc, sa, sc, ha, hc) : Nat × Option Addr × Nat × Option Addr × Nat × Option Addr × Nat) => k ≤ 3) (fun ((k, na, nc, sa, sc, ha, hc) : Nat × Option Addr × Nat × Option Addr × Nat × Option Addr × Nat) => [(1, (.pointer (some ⟨b1, 0, none⟩))), (3, (.pointer (some ⟨b12, 0, none⟩))), (14, .slice L.la 3 L.lc), (15, (.int .i64 ((3 : Nat) : Int))), (16, (.int .i64 (k : Int)))]) (fun ((k, na, nc, sa, sc, ha, hc) : Nat × Option Addr × Nat × Option Addr × Nat × Option Addr × Nat) => [.own b12 (isC [.int .i64 4, .slice L.la 3 L.lc, .slice L.ga 3 L.gc, .slice na k nc, .slice sa k sc, .map (some r10), .slice ha k hc, .slice none 0 0] 131), .own r10 (isMb []), .row na k nc 3 1 (ints (tkM (fun y => y.2.2) k)), .row sa k sc 3 1 (ints (tkM (fun y => y.1) k)), .row ha k hc 3 1 (ints (tkM (fun _ => -1) k)), .own b1 (isC (pgbC L) 63), .snap 0 w.heap.size w]) (fun ((k, na, nc, sa, sc, ha, hc) : Nat × Option Addr × Nat × Option Addr × Nat × Option Addr × Nat) => 3 - k) ((0, none, 0, none, 0, none, 0)) [.own b12 (isC [.int .i64 4, .slice L.la 3 L.lc, .slice L.ga 3 L.gc, .slice none 0 0, .slice none 0 0, .map (some r10), .slice none 0 0, .slice none 0 0] 131), .own r10 (isMb []), .row none 0 0 3 1 ([]), .row none 0 0 3 1 ([]), .row none 0 0 3 1 ([]), .own b1 (isC (pgbC L) 63), .snap 0 w.heap.size w] (rfl) (Nat.zero_le _) (⟨rfl, rfl, rfl, rfl, rfl, trivial⟩) ?_
  rintro ⟨k, na, nc, sa, sc, ha, hc⟩ hk9
  try dsimp only at hk
  show T _ _ _ ⟨_, [(1, (.pointer (some ⟨b1, 0, none⟩))), (3, (.pointer (some ⟨b12, 0, none⟩))), (14, .slice L.la 3 L.lc), (15, (.int .i64 ((3 : Nat) : Int))), (16, (.int .i64 (k : Int)))], _⟩ [.own b12 (isC [.int .i64 4, .slice L.la 3 L.lc, .slice L.ga 3 L.gc, .slice na k nc, .slice sa k sc, .map (some r10), .slice ha k hc, .slice none 0 0] 131), .own r10 (isMb []), .row na k nc 3 1 (ints (tkM (fun y => y.2.2) k)), .row sa k sc 3 1 (ints (tkM (fun y => y.1) k)), .row ha k hc 3 1 (ints (tkM (fun _ => -1) k)), .own b1 (isC (pgbC L) 63), .snap 0 w.heap.size w]
  refine t_seq ?_
  refine t_reg ?_
  refine to_lss rfl rfl rfl ?_
  refine to_nil ?_
  refine tn_code ?_
  refine t_seq ?_
  refine t_if rfl (fun h1 => ?_) (fun h1 => ?_)
  · try simp only [decide_eq_true_eq, decide_eq_false_iff_not, Bool.not_eq_true', Bool.not_eq_false', Int.not_lt, Int.not_le, ne_eq, Decidable.not_not] at h1
    try have h1b := inB_iff.1 h1
    obtain ⟨y, hy⟩ := some_get (xs := lnsB) (k := k) (by show k < 3; omega)
    have hx := map_get (f := lnC) hy
    refine t_skip ?_
    refine tn_code ?_
    refine t_seq ?_
    refine t_blk ?_
    refine t_seq ?_
    refine t_reg ?_
    first | refine to_ix rfl rfl rfl (by first | omega | decide) (by first | omega | decide) rfl ?_ | refine to_ixi rfl rfl rfl (by omega) (by omega) (by omega) rfl ?_
    first | refine to_lda rfl rfl rfl ?_ | refine to_ldea rfl (by assumption) rfl rfl ?_
    refine to_alloc rfl (fun b5 => ?_)
    first | refine to_st rfl rfl rfl rfl ?_ | refine to_ste rfl rfl (by assumption) rfl rfl ?_
    refine to_nil ?_
    refine tn_code ?_
    refine t_regA [9, 10, 17, 18, 23, 24, 27, 30, 33] 24 [.own b12 (isC [.int .i64 4, .slice L.la 3 L.lc, .slice L.ga 3 L.gc, .slice na k nc, .slice sa k sc, .map (some r10), .slice ha k hc, .slice none 0 0] 131), .own b5 (isC [.int .i64 y.1, .int .i64 y.2.1, .int .i64 y.2.2] 90)] [] 34 rfl rfl (by kernel_rfl) (by kernel_rfl) (by kernel_rfl) ?_
    refine ta_q2 ?e1 (k := 0) (by kernel_rfl) rfl ?q1 ?r1
    case q1 =>
      refine to_mv rfl rfl ?_
      exact tpq_end
    refine ta_q2 ?e2 (k := 1) (by kernel_rfl) rfl ?q2 ?r2
    case q2 =>
      refine to_mv rfl rfl ?_
      exact tpq_end
    refine ta_q2 ?e3 (k := 2) (by kernel_rfl) rfl ?q3 ?r3
    case q3 =>
      refine to_mv rfl rfl ?_
      exact tpq_end
    refine ta_q2 ?e4 (k := 3) (by kernel_rfl) rfl ?q4 ?r4
    case q4 =>
      refine to_mv rfl rfl ?_
      exact tpq_end
    refine ta_q2 ?e5 (k := 4) (by kernel_rfl) rfl ?q5 ?r5
    case q5 =>
      refine to_nc rfl rfl ?_
      exact tpq_end
    refine ta_q2 ?e6 (k := 5) (by kernel_rfl) rfl ?q6 ?r6
    case q6 =>
      first | refine to_fa rfl rfl rfl (by simp only [Nat.reduceAdd]; rfl) rfl ?_ | refine to_fae rfl rfl rfl (by simp only [Nat.reduceAdd]; rfl) rfl ?_
      exact tpq_end
    refine ta_q1 ?e7 (k := 6) [10, 18, 24] (by kernel_rfl) rfl rfl ?q7 ?r7
    case q7 =>
      first | refine to_lds rfl rfl rfl ?_ | refine to_ldes rfl (by assumption) rfl rfl ?_
      exact tpq_end
    refine ta_q2 ?e8 (k := 7) (by kernel_rfl) rfl ?q8 ?r8
    case q8 =>
      first | refine to_fa rfl rfl rfl (by simp only [Nat.reduceAdd]; rfl) rfl ?_ | refine to_fae rfl rfl rfl (by simp only [Nat.reduceAdd]; rfl) rfl ?_
      exact tpq_end
    refine ta_q1 ?e9 (k := 8) [9, 10, 18, 24] (by kernel_rfl) rfl rfl ?q9 ?r9
    case q9 =>
      first | refine to_lds rfl rfl rfl ?_ | refine to_ldes rfl (by assumption) rfl rfl ?_
      exact tpq_end
    refine ta_q2 ?e10 (k := 11) (by kernel_rfl) rfl ?q10 ?r10
    case q10 =>
      refine to_mv rfl rfl ?_
      exact tpq_end
    refine ta_q2 ?e11 (k := 12) (by kernel_rfl) rfl ?q11 ?r11
    case q11 =>
      refine to_nc rfl rfl ?_
      exact tpq_end
    refine ta_q2 ?e12 (k := 13) (by kernel_rfl) rfl ?q12 ?r12
    case q12 =>
      first | refine to_fa rfl rfl rfl (by simp only [Nat.reduceAdd]; rfl) rfl ?_ | refine to_fae rfl rfl rfl (by simp only [Nat.reduceAdd]; rfl) rfl ?_
      exact tpq_end
    refine ta_q1 ?e13 (k := 14) [18, 24] (by kernel_rfl) rfl rfl ?q13 ?r13
    case q13 =>
      first | refine to_lds rfl rfl rfl ?_ | refine to_ldes rfl (by assumption) rfl rfl ?_
      exact tpq_end
    refine ta_q2 ?e14 (k := 15) (by kernel_rfl) rfl ?q14 ?r14
    case q14 =>
      first | refine to_fa rfl rfl rfl (by simp only [Nat.reduceAdd]; rfl) rfl ?_ | refine to_fae rfl rfl rfl (by simp only [Nat.reduceAdd]; rfl) rfl ?_
      exact tpq_end
    refine ta_q1 ?e15 (k := 16) [17, 18, 24] (by kernel_rfl) rfl rfl ?q15 ?r15
    case q15 =>
      first | refine to_lds rfl rfl rfl ?_ | refine to_ldes rfl (by assumption) rfl rfl ?_
      exact tpq_end
    refine ta_q2 ?e16 (k := 19) (by kernel_rfl) rfl ?q16 ?r16
    case q16 =>
      refine to_mv rfl rfl ?_
      exact tpq_end
    refine ta_q2 ?e17 (k := 20) (by kernel_rfl) rfl ?q17 ?r17
    case q17 =>
      refine to_nc rfl rfl ?_
      exact tpq_end
    refine ta_q2 ?e18 (k := 21) (by kernel_rfl) rfl ?q18 ?r18
    case q18 =>
      first | refine to_fa rfl rfl rfl (by simp only [Nat.reduceAdd]; rfl) rfl ?_ | refine to_fae rfl rfl rfl (by simp only [Nat.reduceAdd]; rfl) rfl ?_
      exact tpq_end
    refine ta_q1 ?e19 (k := 22) [24] (by kernel_rfl) rfl rfl ?q19 ?r19
    case q19 =>
      first | refine to_lds rfl rfl rfl ?_ | refine to_ldes rfl (by assumption) rfl rfl ?_
      exact tpq_end
    refine ta_fork [9, 17, 23] (by kernel_rfl) rfl ?_
    refine ⟨⟨_, rfl, wanted_none rfl, ?_⟩, ⟨_, rfl, wanted_none rfl, ?_⟩, ⟨_, rfl, wanted_none rfl, ?_⟩, trivial⟩
    · skip
      refine to_bsl rfl rfl rfl rfl (fun a29 => ?_)
      refine ta_se1 rfl ?_
      refine ta_fork [10, 17, 23] (by kernel_rfl) rfl ?_
      refine ⟨⟨_, rfl, wanted_none rfl, ?_⟩, ⟨_, rfl, wanted_none rfl, ?_⟩, ⟨_, rfl, wanted_none rfl, ?_⟩, trivial⟩
      · skip
        refine to_app rfl rfl rfl (by simp [scals, scal]) (by decide) (by omega) (by decide) rfl (fun a30 c30 => ?_)
        refine ta_se1 rfl ?_
        refine ta_fork [17, 23] (by kernel_rfl) rfl ?_
        refine ⟨⟨_, rfl, wanted_none rfl, ?_⟩, ⟨_, rfl, wanted_none rfl, ?_⟩, trivial⟩
        · skip
          refine to_bsl rfl rfl rfl rfl (fun a37 => ?_)
          refine ta_se1 rfl ?_
          refine ta_fork [18, 23] (by kernel_rfl) rfl ?_
          refine ⟨⟨_, rfl, wanted_none rfl, ?_⟩, ⟨_, rfl, wanted_none rfl, ?_⟩, trivial⟩
          · skip
            refine to_app rfl rfl rfl (by simp [scals, scal]) (by decide) (by omega) (by decide) rfl (fun a38 c38 => ?_)
            refine ta_se1 rfl ?_
            refine ta_fork [23] (by kernel_rfl) rfl ?_
            refine ⟨⟨_, rfl, wanted_none rfl, ?_⟩, trivial⟩
            refine to_bsl rfl rfl rfl rfl (fun a43 => ?_)
            refine ta_se1 rfl ?_
            refine ta_fork [24] (by kernel_rfl) rfl ?_
            refine ⟨⟨_, rfl, wanted_none rfl, ?_⟩, trivial⟩
            refine to_app rfl rfl rfl (by simp [scals, scal]) (by decide) (by omega) (by decide) rfl (fun a44 c44 => ?_)
            refine ta_se2 (by kernel_rfl) rfl ?_
            refine ta_q2 ?e20 (k := 25) (by kernel_rfl) rfl ?q20 ?r20
            case q20 =>
              refine to_nc rfl rfl ?_
              exact tpq_end
            refine ta_q2 ?e21 (k := 26) (by kernel_rfl) rfl ?q21 ?r21
            case q21 =>
              first | refine to_fa rfl rfl rfl (by simp only [Nat.reduceAdd]; rfl) rfl ?_ | refine to_fae rfl rfl rfl (by simp only [Nat.reduceAdd]; rfl) rfl ?_
              exact tpq_end
            refine ta_fork [27] (by kernel_rfl) rfl ?_
            refine ⟨⟨_, rfl, wanted_none rfl, ?_⟩, trivial⟩
            first | refine to_st rfl rfl rfl rfl ?_ | refine to_ste rfl rfl (by assumption) rfl rfl ?_
            refine ta_se2 (by kernel_rfl) rfl ?_
            refine ta_q2 ?e22 (k := 28) (by kernel_rfl) rfl ?q22 ?r22
            case q22 =>
              refine to_nc rfl rfl ?_
              exact tpq_end
            refine ta_q2 ?e23 (k := 29) (by kernel_rfl) rfl ?q23 ?r23
            case q23 =>
              first | refine to_fa rfl rfl rfl (by simp only [Nat.reduceAdd]; rfl) rfl ?_ | refine to_fae rfl rfl rfl (by simp only [Nat.reduceAdd]; rfl) rfl ?_
              exact tpq_end
            refine ta_fork [30] (by kernel_rfl) rfl ?_
            refine ⟨⟨_, rfl, wanted_none rfl, ?_⟩, trivial⟩
            first | refine to_st rfl rfl rfl rfl ?_ | refine to_ste rfl rfl (by assumption) rfl rfl ?_
            refine ta_se2 (by kernel_rfl) rfl ?_
            refine ta_q2 ?e24 (k := 31) (by kernel_rfl) rfl ?q24 ?r24
            case q24 =>
              refine to_nc rfl rfl ?_
              exact tpq_end
            refine ta_q2 ?e25 (k := 32) (by kernel_rfl) rfl ?q25 ?r25
            case q25 =>
              first | refine to_fa rfl rfl rfl (by simp only [Nat.reduceAdd]; rfl) rfl ?_ | refine to_fae rfl rfl rfl (by simp only [Nat.reduceAdd]; rfl) rfl ?_
              exact tpq_end
            refine ta_fork [33] (by kernel_rfl) rfl ?_
            refine ⟨⟨_, rfl, wanted_none rfl, ?_⟩, trivial⟩
            first | refine to_st rfl rfl rfl rfl ?_ | refine to_ste rfl rfl (by assumption) rfl rfl ?_
            refine ta_se2 (by kernel_rfl) rfl ?_
            refine ta_nil (by kernel_rfl) ?_
            refine tn_blk ?_
            refine tn_code ?_
            refine t_reg ?_
            refine to_add rfl rfl (by omega) rfl ?_
            refine to_mv rfl rfl ?_
            refine to_nil ?_
            exact tn_loop2 ((k + 1, a30, c30, a38, c38, a44, c44)) [.own b12 (isC [.int .i64 4, .slice L.la 3 L.lc, .slice L.ga 3 L.gc, .slice a30 (k + 1) c30, .slice a38 (k + 1) c38, .map (some r10), .slice a44 (k + 1) c44, .slice none 0 0] 131), .own r10 (isMb []), .row a30 (k + 1) c30 3 1 (ints (tkM (fun y => y.2.2) k) ++ [[.int .i64 y.2.2]]), .row a38 (k + 1) c38 3 1 (ints (tkM (fun y => y.1) k) ++ [[.int .i64 y.1]]), .row a44 (k + 1) c44 3 1 (ints (tkM (fun _ => -1) k) ++ [[.int .i64 (-1)]]), .own b1 (isC (pgbC L) 63), .snap 0 w.heap.size w] (by dsimp only; rw [tkM_succ hy, tkM_succ hy, tkM_succ hy]) (by dsimp only; omega) (by dsimp only; omega) (⟨rfl, rfl, rfl, rfl, rfl, trivial⟩)
          · skip
            refine to_bsl rfl rfl rfl rfl (fun a43 => ?_)
            refine ta_se1 rfl ?_
            refine ta_fork [18] (by kernel_rfl) rfl ?_
            refine ⟨⟨_, rfl, wanted_none rfl, ?_⟩, trivial⟩
            refine to_app rfl rfl rfl (by simp [scals, scal]) (by decide) (by omega) (by decide) rfl (fun a38 c38 => ?_)
            refine ta_se1 rfl ?_
            refine ta_fork [24] (by kernel_rfl) rfl ?_
            refine ⟨⟨_, rfl, wanted_none rfl, ?_⟩, trivial⟩
            refine to_app rfl rfl rfl (by simp [scals, scal]) (by decide) (by omega) (by decide) rfl (fun a44 c44 => ?_)
            refine ta_se2 (by kernel_rfl) rfl ?_
            refine ta_q2 ?e26 (k := 25) (by kernel_rfl) rfl ?q26 ?r26
            case q26 =>
              refine to_nc rfl rfl ?_
              exact tpq_end
            refine ta_q2 ?e27 (k := 26) (by kernel_rfl) rfl ?q27 ?r27
            case q27 =>
              first | refine to_fa rfl rfl rfl (by simp only [Nat.reduceAdd]; rfl) rfl ?_ | refine to_fae rfl rfl rfl (by simp only [Nat.reduceAdd]; rfl) rfl ?_
              exact tpq_end
            refine ta_fork [27] (by kernel_rfl) rfl ?_
            refine ⟨⟨_, rfl, wanted_none rfl, ?_⟩, trivial⟩
            first | refine to_st rfl rfl rfl rfl ?_ | refine to_ste rfl rfl (by assumption) rfl rfl ?_
            refine ta_se2 (by kernel_rfl) rfl ?_
            refine ta_q2 ?e28 (k := 28) (by kernel_rfl) rfl ?q28 ?r28
            case q28 =>
              refine to_nc rfl rfl ?_
              exact tpq_end
            refine ta_q2 ?e29 (k := 29) (by kernel_rfl) rfl ?q29 ?r29
            case q29 =>
              first | refine to_fa rfl rfl rfl (by simp only [Nat.reduceAdd]; rfl) rfl ?_ | refine to_fae rfl rfl rfl (by simp only [Nat.reduceAdd]; rfl) rfl ?_
              exact tpq_end
            refine ta_fork [30] (by kernel_rfl) rfl ?_
            refine ⟨⟨_, rfl, wanted_none rfl, ?_⟩, trivial⟩
            first | refine to_st rfl rfl rfl rfl ?_ | refine to_ste rfl rfl (by assumption) rfl rfl ?_
            refine ta_se2 (by kernel_rfl) rfl ?_
            refine ta_q2 ?e30 (k := 31) (by kernel_rfl) rfl ?q30 ?r30
            case q30 =>
              refine to_nc rfl rfl ?_
              exact tpq_end
            refine ta_q2 ?e31 (k := 32) (by kernel_rfl) rfl ?q31 ?r31
            case q31 =>
              first | refine to_fa rfl rfl rfl (by simp only [Nat.reduceAdd]; rfl) rfl ?_ | refine to_fae rfl rfl rfl (by simp only [Nat.reduceAdd]; rfl) rfl ?_
              exact tpq_end
            refine ta_fork [33] (by kernel_rfl) rfl ?_
            refine ⟨⟨_, rfl, wanted_none rfl, ?_⟩, trivial⟩
            first | refine to_st rfl rfl rfl rfl ?_ | refine to_ste rfl rfl (by assumption) rfl rfl ?_
            refine ta_se2 (by kernel_rfl) rfl ?_
            refine ta_nil (by kernel_rfl) ?_
            refine tn_blk ?_
            refine tn_code ?_
            refine t_reg ?_
            refine to_add rfl rfl (by omega) rfl ?_
            refine to_mv rfl rfl ?_
            refine to_nil ?_
            exact tn_loop2 ((k + 1, a30, c30, a38, c38, a44, c44)) [.own b12 (isC [.int .i64 4, .slice L.la 3 L.lc, .slice L.ga 3 L.gc, .slice a30 (k + 1) c30, .slice a38 (k + 1) c38, .map (some r10), .slice a44 (k + 1) c44, .slice none 0 0] 131), .own r10 (isMb []), .row a30 (k + 1) c30 3 1 (ints (tkM (fun y => y.2.2) k) ++ [[.int .i64 y.2.2]]), .row a38 (k + 1) c38 3 1 (ints (tkM (fun y => y.1) k) ++ [[.int .i64 y.1]]), .row a44 (k + 1) c44 3 1 (ints (tkM (fun _ => -1) k) ++ [[.int .i64 (-1)]]), .own b1 (isC (pgbC L) 63), .snap 0 w.heap.size w] (by dsimp only; rw [tkM_succ hy, tkM_succ hy, tkM_succ hy]) (by dsimp only; omega) (by dsimp only; omega) (⟨rfl, rfl, rfl, rfl, rfl, trivial⟩)
        · skip
          refine to_bsl rfl rfl rfl rfl (fun a43 => ?_)
          refine ta_se1 rfl ?_
          refine ta_fork [17] (by kernel_rfl) rfl ?_
          refine ⟨⟨_, rfl, wanted_none rfl, ?_⟩, trivial⟩
          refine to_bsl rfl rfl rfl rfl (fun a37 => ?_)
          refine ta_se1 rfl ?_
          refine ta_fork [18] (by kernel_rfl) rfl ?_
          refine ⟨⟨_, rfl, wanted_none rfl, ?_⟩, trivial⟩
          refine to_app rfl rfl rfl (by simp [scals, scal]) (by decide) (by omega) (by decide) rfl (fun a38 c38 => ?_)
          refine ta_se1 rfl ?_
          refine ta_fork [24] (by kernel_rfl) rfl ?_
          refine ⟨⟨_, rfl, wanted_none rfl, ?_⟩, trivial⟩
          refine to_app rfl rfl rfl (by simp [scals, scal]) (by decide) (by omega) (by decide) rfl (fun a44 c44 => ?_)
          refine ta_se2 (by kernel_rfl) rfl ?_
          refine ta_q2 ?e32 (k := 25) (by kernel_rfl) rfl ?q32 ?r32
          case q32 =>
            refine to_nc rfl rfl ?_
            exact tpq_end
          refine ta_q2 ?e33 (k := 26) (by kernel_rfl) rfl ?q33 ?r33
          case q33 =>
            first | refine to_fa rfl rfl rfl (by simp only [Nat.reduceAdd]; rfl) rfl ?_ | refine to_fae rfl rfl rfl (by simp only [Nat.reduceAdd]; rfl) rfl ?_
            exact tpq_end
          refine ta_fork [27] (by kernel_rfl) rfl ?_
          refine ⟨⟨_, rfl, wanted_none rfl, ?_⟩, trivial⟩
          first | refine to_st rfl rfl rfl rfl ?_ | refine to_ste rfl rfl (by assumption) rfl rfl ?_
          refine ta_se2 (by kernel_rfl) rfl ?_
          refine ta_q2 ?e34 (k := 28) (by kernel_rfl) rfl ?q34 ?r34
          case q34 =>
            refine to_nc rfl rfl ?_
            exact tpq_end
          refine ta_q2 ?e35 (k := 29) (by kernel_rfl) rfl ?q35 ?r35
          case q35 =>
            first | refine to_fa rfl rfl rfl (by simp only [Nat.reduceAdd]; rfl) rfl ?_ | refine to_fae rfl rfl rfl (by simp only [Nat.reduceAdd]; rfl) rfl ?_
            exact tpq_end
          refine ta_fork [30] (by kernel_rfl) rfl ?_
          refine ⟨⟨_, rfl, wanted_none rfl, ?_⟩, trivial⟩
          first | refine to_st rfl rfl rfl rfl ?_ | refine to_ste rfl rfl (by assumption) rfl rfl ?_
          refine ta_se2 (by kernel_rfl) rfl ?_
          refine ta_q2 ?e36 (k := 31) (by kernel_rfl) rfl ?q36 ?r36
          case q36 =>
            refine to_nc rfl rfl ?_
            exact tpq_end
          refine ta_q2 ?e37 (k := 32) (by kernel_rfl) rfl ?q37 ?r37
          case q37 =>
            first | refine to_fa rfl rfl rfl (by simp only [Nat.reduceAdd]; rfl) rfl ?_ | refine to_fae rfl rfl rfl (by simp only [Nat.reduceAdd]; rfl) rfl ?_
            exact tpq_end
          refine ta_fork [33] (by kernel_rfl) rfl ?_
          refine ⟨⟨_, rfl, wanted_none rfl, ?_⟩, trivial⟩
          first | refine to_st rfl rfl rfl rfl ?_ | refine to_ste rfl rfl (by assumption) rfl rfl ?_
          refine ta_se2 (by kernel_rfl) rfl ?_
          refine ta_nil (by kernel_rfl) ?_
          refine tn_blk ?_
          refine tn_code ?_
          refine t_reg ?_
          refine to_add rfl rfl (by omega) rfl ?_
          refine to_mv rfl rfl ?_
          refine to_nil ?_
          exact tn_loop2 ((k + 1, a30, c30, a38, c38, a44, c44)) [.own b12 (isC [.int .i64 4, .slice L.la 3 L.lc, .slice L.ga 3 L.gc, .slice a30 (k + 1) c30, .slice a38 (k + 1) c38, .map (some r10), .slice a44 (k + 1) c44, .slice none 0 0] 131), .own r10 (isMb []), .row a30 (k + 1) c30 3 1 (ints (tkM (fun y => y.2.2) k) ++ [[.int .i64 y.2.2]]), .row a38 (k + 1) c38 3 1 (ints (tkM (fun y => y.1) k) ++ [[.int .i64 y.1]]), .row a44 (k + 1) c44 3 1 (ints (tkM (fun _ => -1) k) ++ [[.int .i64 (-1)]]), .own b1 (isC (pgbC L) 63), .snap 0 w.heap.size w] (by dsimp only; rw [tkM_succ hy, tkM_succ hy, tkM_succ hy]) (by dsimp only; omega) (by dsimp only; omega) (⟨rfl, rfl, rfl, rfl, rfl, trivial⟩)
      · skip
        refine to_bsl rfl rfl rfl rfl (fun a37 => ?_)
        refine ta_se1 rfl ?_
        refine ta_fork [10, 23] (by kernel_rfl) rfl ?_
        refine ⟨⟨_, rfl, wanted_none rfl, ?_⟩, ⟨_, rfl, wanted_none rfl, ?_⟩, trivial⟩
        · skip
          refine to_app rfl rfl rfl (by simp [scals, scal]) (by decide) (by omega) (by decide) rfl (fun a30 c30 => ?_)
          refine ta_se1 rfl ?_
          refine ta_fork [18, 23] (by kernel_rfl) rfl ?_
          refine ⟨⟨_, rfl, wanted_none rfl, ?_⟩, ⟨_, rfl, wanted_none rfl, ?_⟩, trivial⟩
          · skip
            refine to_app rfl rfl rfl (by simp [scals, scal]) (by decide) (by omega) (by decide) rfl (fun a38 c38 => ?_)
            refine ta_se1 rfl ?_
            refine ta_fork [23] (by kernel_rfl) rfl ?_
            refine ⟨⟨_, rfl, wanted_none rfl, ?_⟩, trivial⟩
            refine to_bsl rfl rfl rfl rfl (fun a43 => ?_)
            refine ta_se1 rfl ?_
            refine ta_fork [24] (by kernel_rfl) rfl ?_
            refine ⟨⟨_, rfl, wanted_none rfl, ?_⟩, trivial⟩
            refine to_app rfl rfl rfl (by simp [scals, scal]) (by decide) (by omega) (by decide) rfl (fun a44 c44 => ?_)
            refine ta_se2 (by kernel_rfl) rfl ?_
            refine ta_q2 ?e38 (k := 25) (by kernel_rfl) rfl ?q38 ?r38
            case q38 =>
              refine to_nc rfl rfl ?_
              exact tpq_end
            refine ta_q2 ?e39 (k := 26) (by kernel_rfl) rfl ?q39 ?r39
            case q39 =>
              first | refine to_fa rfl rfl rfl (by simp only [Nat.reduceAdd]; rfl) rfl ?_ | refine to_fae rfl rfl rfl (by simp only [Nat.reduceAdd]; rfl) rfl ?_
              exact tpq_end
            refine ta_fork [27] (by kernel_rfl) rfl ?_
            refine ⟨⟨_, rfl, wanted_none rfl, ?_⟩, trivial⟩
            first | refine to_st rfl rfl rfl rfl ?_ | refine to_ste rfl rfl (by assumption) rfl rfl ?_
            refine ta_se2 (by kernel_rfl) rfl ?_
            refine ta_q2 ?e40 (k := 28) (by kernel_rfl) rfl ?q40 ?r40
            case q40 =>
              refine to_nc rfl rfl ?_
              exact tpq_end
            refine ta_q2 ?e41 (k := 29) (by kernel_rfl) rfl ?q41 ?r41
            case q41 =>
              first | refine to_fa rfl rfl rfl (by simp only [Nat.reduceAdd]; rfl) rfl ?_ | refine to_fae rfl rfl rfl (by simp only [Nat.reduceAdd]; rfl) rfl ?_
              exact tpq_end
            refine ta_fork [30] (by kernel_rfl) rfl ?_
            refine ⟨⟨_, rfl, wanted_none rfl, ?_⟩, trivial⟩
            first | refine to_st rfl rfl rfl rfl ?_ | refine to_ste rfl rfl (by assumption) rfl rfl ?_
            refine ta_se2 (by kernel_rfl) rfl ?_
            refine ta_q2 ?e42 (k := 31) (by kernel_rfl) rfl ?q42 ?r42
            case q42 =>
              refine to_nc rfl rfl ?_
              exact tpq_end
            refine ta_q2 ?e43 (k := 32) (by kernel_rfl) rfl ?q43 ?r43
            case q43 =>
              first | refine to_fa rfl rfl rfl (by simp only [Nat.reduceAdd]; rfl) rfl ?_ | refine to_fae rfl rfl rfl (by simp only [Nat.reduceAdd]; rfl) rfl ?_
              exact tpq_end
            refine ta_fork [33] (by kernel_rfl) rfl ?_
            refine ⟨⟨_, rfl, wanted_none rfl, ?_⟩, trivial⟩
            first | refine to_st rfl rfl rfl rfl ?_ | refine to_ste rfl rfl (by assumption) rfl rfl ?_
            refine ta_se2 (by kernel_rfl) rfl ?_
            refine ta_nil (by kernel_rfl) ?_
            refine tn_blk ?_
            refine tn_code ?_
            refine t_reg ?_
            refine to_add rfl rfl (by omega) rfl ?_
            refine to_mv rfl rfl ?_
            refine to_nil ?_
            exact tn_loop2 ((k + 1, a30, c30, a38, c38, a44, c44)) [.own b12 (isC [.int .i64 4, .slice L.la 3 L.lc, .slice L.ga 3 L.gc, .slice a30 (k + 1) c30, .slice a38 (k + 1) c38, .map (some r10), .slice a44 (k + 1) c44, .slice none 0 0] 131), .own r10 (isMb []), .row a30 (k + 1) c30 3 1 (ints (tkM (fun y => y.2.2) k) ++ [[.int .i64 y.2.2]]), .row a38 (k + 1) c38 3 1 (ints (tkM (fun y => y.1) k) ++ [[.int .i64 y.1]]), .row a44 (k + 1) c44 3 1 (ints (tkM (fun _ => -1) k) ++ [[.int .i64 (-1)]]), .own b1 (isC (pgbC L) 63), .snap 0 w.heap.size w] (by dsimp only; rw [tkM_succ hy, tkM_succ hy, tkM_succ hy]) (by dsimp only; omega) (by dsimp only; omega) (⟨rfl, rfl, rfl, rfl, rfl, trivial⟩)
          · skip
            refine to_bsl rfl rfl rfl rfl (fun a43 => ?_)
            refine ta_se1 rfl ?_
            refine ta_fork [18] (by kernel_rfl) rfl ?_
            refine ⟨⟨_, rfl, wanted_none rfl, ?_⟩, trivial⟩
            refine to_app rfl rfl rfl (by simp [scals, scal]) (by decide) (by omega) (by decide) rfl (fun a38 c38 => ?_)
            refine ta_se1 rfl ?_
            refine ta_fork [24] (by kernel_rfl) rfl ?_
            refine ⟨⟨_, rfl, wanted_none rfl, ?_⟩, trivial⟩
            refine to_app rfl rfl rfl (by simp [scals, scal]) (by decide) (by omega) (by decide) rfl (fun a44 c44 => ?_)
            refine ta_se2 (by kernel_rfl) rfl ?_
            refine ta_q2 ?e44 (k := 25) (by kernel_rfl) rfl ?q44 ?r44
            case q44 =>
              refine to_nc rfl rfl ?_
              exact tpq_end
            refine ta_q2 ?e45 (k := 26) (by kernel_rfl) rfl ?q45 ?r45
            case q45 =>
              first | refine to_fa rfl rfl rfl (by simp only [Nat.reduceAdd]; rfl) rfl ?_ | refine to_fae rfl rfl rfl (by simp only [Nat.reduceAdd]; rfl) rfl ?_
              exact tpq_end
            refine ta_fork [27] (by kernel_rfl) rfl ?_
            refine ⟨⟨_, rfl, wanted_none rfl, ?_⟩, trivial⟩
            first | refine to_st rfl rfl rfl rfl ?_ | refine to_ste rfl rfl (by assumption) rfl rfl ?_
            refine ta_se2 (by kernel_rfl) rfl ?_
            refine ta_q2 ?e46 (k := 28) (by kernel_rfl) rfl ?q46 ?r46
            case q46 =>
              refine to_nc rfl rfl ?_
              exact tpq_end
            refine ta_q2 ?e47 (k := 29) (by kernel_rfl) rfl ?q47 ?r47
            case q47 =>
              first | refine to_fa rfl rfl rfl (by simp only [Nat.reduceAdd]; rfl) rfl ?_ | refine to_fae rfl rfl rfl (by simp only [Nat.reduceAdd]; rfl) rfl ?_
              exact tpq_end
            refine ta_fork [30] (by kernel_rfl) rfl ?_
            refine ⟨⟨_, rfl, wanted_none rfl, ?_⟩, trivial⟩
            first | refine to_st rfl rfl rfl rfl ?_ | refine to_ste rfl rfl (by assumption) rfl rfl ?_
            refine ta_se2 (by kernel_rfl) rfl ?_
            refine ta_q2 ?e48 (k := 31) (by kernel_rfl) rfl ?q48 ?r48
            case q48 =>
              refine to_nc rfl rfl ?_
              exact tpq_end
            refine ta_q2 ?e49 (k := 32) (by kernel_rfl) rfl ?q49 ?r49
            case q49 =>
              first | refine to_fa rfl rfl rfl (by simp only [Nat.reduceAdd]; rfl) rfl ?_ | refine to_fae rfl rfl rfl (by simp only [Nat.reduceAdd]; rfl) rfl ?_
              exact tpq_end
            refine ta_fork [33] (by kernel_rfl) rfl ?_
            refine ⟨⟨_, rfl, wanted_none rfl, ?_⟩, trivial⟩
            first | refine to_st rfl rfl rfl rfl ?_ | refine to_ste rfl rfl (by assumption) rfl rfl ?_
            refine ta_se2 (by kernel_rfl) rfl ?_
            refine ta_nil (by kernel_rfl) ?_
            refine tn_blk ?_
            refine tn_code ?_
            refine t_reg ?_
            refine to_add rfl rfl (by omega) rfl ?_
            refine to_mv rfl rfl ?_
            refine to_nil ?_
            exact tn_loop2 ((k + 1, a30, c30, a38, c38, a44, c44)) [.own b12 (isC [.int .i64 4, .slice L.la 3 L.lc, .slice L.ga 3 L.gc, .slice a30 (k + 1) c30, .slice a38 (k + 1) c38, .map (some r10), .slice a44 (k + 1) c44, .slice none 0 0] 131), .own r10 (isMb []), .row a30 (k + 1) c30 3 1 (ints (tkM (fun y => y.2.2) k) ++ [[.int .i64 y.2.2]]), .row a38 (k + 1) c38 3 1 (ints (tkM (fun y => y.1) k) ++ [[.int .i64 y.1]]), .row a44 (k + 1) c44 3 1 (ints (tkM (fun _ => -1) k) ++ [[.int .i64 (-1)]]), .own b1 (isC (pgbC L) 63), .snap 0 w.heap.size w] (by dsimp only; rw [tkM_succ hy, tkM_succ hy, tkM_succ hy]) (by dsimp only; omega) (by dsimp only; omega) (⟨rfl, rfl, rfl, rfl, rfl, trivial⟩)
        · skip
          refine to_bsl rfl rfl rfl rfl (fun a43 => ?_)
          refine ta_se1 rfl ?_
          refine ta_fork [10] (by kernel_rfl) rfl ?_
          refine ⟨⟨_, rfl, wanted_none rfl, ?_⟩, trivial⟩
          refine to_app rfl rfl rfl (by simp [scals, scal]) (by decide) (by omega) (by decide) rfl (fun a30 c30 => ?_)
          refine ta_se1 rfl ?_
          refine ta_fork [18] (by kernel_rfl) rfl ?_
          refine ⟨⟨_, rfl, wanted_none rfl, ?_⟩, trivial⟩
          refine to_app rfl rfl rfl (by simp [scals, scal]) (by decide) (by omega) (by decide) rfl (fun a38 c38 => ?_)
          refine ta_se1 rfl ?_
          refine ta_fork [24] (by kernel_rfl) rfl ?_
          refine ⟨⟨_, rfl, wanted_none rfl, ?_⟩, trivial⟩
          refine to_app rfl rfl rfl (by simp [scals, scal]) (by decide) (by omega) (by decide) rfl (fun a44 c44 => ?_)
          refine ta_se2 (by kernel_rfl) rfl ?_
          refine ta_q2 ?e50 (k := 25) (by kernel_rfl) rfl ?q50 ?r50
          case q50 =>
            refine to_nc rfl rfl ?_
            exact tpq_end
          refine ta_q2 ?e51 (k := 26) (by kernel_rfl) rfl ?q51 ?r51
          case q51 =>
            first | refine to_fa rfl rfl rfl (by simp only [Nat.reduceAdd]; rfl) rfl ?_ | refine to_fae rfl rfl rfl (by simp only [Nat.reduceAdd]; rfl) rfl ?_
            exact tpq_end
          refine ta_fork [27] (by kernel_rfl) rfl ?_
          refine ⟨⟨_, rfl, wanted_none rfl, ?_⟩, trivial⟩
          first | refine to_st rfl rfl rfl rfl ?_ | refine to_ste rfl rfl (by assumption) rfl rfl ?_
          refine ta_se2 (by kernel_rfl) rfl ?_
          refine ta_q2 ?e52 (k := 28) (by kernel_rfl) rfl ?q52 ?r52
          case q52 =>
            refine to_nc rfl rfl ?_
            exact tpq_end
          refine ta_q2 ?e53 (k := 29) (by kernel_rfl) rfl ?q53 ?r53
          case q53 =>
            first | refine to_fa rfl rfl rfl (by simp only [Nat.reduceAdd]; rfl) rfl ?_ | refine to_fae rfl rfl rfl (by simp only [Nat.reduceAdd]; rfl) rfl ?_
            exact tpq_end
          refine ta_fork [30] (by kernel_rfl) rfl ?_
          refine ⟨⟨_, rfl, wanted_none rfl, ?_⟩, trivial⟩
          first | refine to_st rfl rfl rfl rfl ?_ | refine to_ste rfl rfl (by assumption) rfl rfl ?_
          refine ta_se2 (by kernel_rfl) rfl ?_
          refine ta_q2 ?e54 (k := 31) (by kernel_rfl) rfl ?q54 ?r54
          case q54 =>
            refine to_nc rfl rfl ?_
            exact tpq_end
          refine ta_q2 ?e55 (k := 32) (by kernel_rfl) rfl ?q55 ?r55
          case q55 =>
            first | refine to_fa rfl rfl rfl (by simp only [Nat.reduceAdd]; rfl) rfl ?_ | refine to_fae rfl rfl rfl (by simp only [Nat.reduceAdd]; rfl) rfl ?_
            exact tpq_end
          refine ta_fork [33] (by kernel_rfl) rfl ?_
          refine ⟨⟨_, rfl, wanted_none rfl, ?_⟩, trivial⟩
          first | refine to_st rfl rfl rfl rfl ?_ | refine to_ste rfl rfl (by assumption) rfl rfl ?_
          refine ta_se2 (by kernel_rfl) rfl ?_
          refine ta_nil (by kernel_rfl) ?_
          refine tn_blk ?_
          refine tn_code ?_
          refine t_reg ?_
          refine to_add rfl rfl (by omega) rfl ?_
          refine to_mv rfl rfl ?_
          refine to_nil ?_
          exact tn_loop2 ((k + 1, a30, c30, a38, c38, a44, c44)) [.own b12 (isC [.int .i64 4, .slice L.la 3 L.lc, .slice L.ga 3 L.gc, .slice a30 (k + 1) c30, .slice a38 (k + 1) c38, .map (some r10), .slice a44 (k + 1) c44, .slice none 0 0] 131), .own r10 (isMb []), .row a30 (k + 1) c30 3 1 (ints (tkM (fun y => y.2.2) k) ++ [[.int .i64 y.2.2]]), .row a38 (k + 1) c38 3 1 (ints (tkM (fun y => y.1) k) ++ [[.int .i64 y.1]]), .row a44 (k + 1) c44 3 1 (ints (tkM (fun _ => -1) k) ++ [[.int .i64 (-1)]]), .own b1 (isC (pgbC L) 63), .snap 0 w.heap.size w] (by dsimp only; rw [tkM_succ hy, tkM_succ hy, tkM_succ hy]) (by dsimp only; omega) (by dsimp only; omega) (⟨rfl, rfl, rfl, rfl, rfl, trivial⟩)
      · skip
        refine to_bsl rfl rfl rfl rfl (fun a43 => ?_)
        refine ta_se1 rfl ?_
        refine ta_fork [10, 17] (by kernel_rfl) rfl ?_
        refine ⟨⟨_, rfl, wanted_none rfl, ?_⟩, ⟨_, rfl, wanted_none rfl, ?_⟩, trivial⟩
        · skip
          refine to_app rfl rfl rfl (by simp [scals, scal]) (by decide) (by omega) (by decide) rfl (fun a30 c30 => ?_)
          refine ta_se1 rfl ?_
          refine ta_fork [17] (by kernel_rfl) rfl ?_
          refine ⟨⟨_, rfl, wanted_none rfl, ?_⟩, trivial⟩
          refine to_bsl rfl rfl rfl rfl (fun a37 => ?_)
          refine ta_se1 rfl ?_
          refine ta_fork [18] (by kernel_rfl) rfl ?_
          refine ⟨⟨_, rfl, wanted_none rfl, ?_⟩, trivial⟩
          refine to_app rfl rfl rfl (by simp [scals, scal]) (by decide) (by omega) (by decide) rfl (fun a38 c38 => ?_)
          refine ta_se1 rfl ?_
          refine ta_fork [24] (by kernel_rfl) rfl ?_
          refine ⟨⟨_, rfl, wanted_none rfl, ?_⟩, trivial⟩
          refine to_app rfl rfl rfl (by simp [scals, scal]) (by decide) (by omega) (by decide) rfl (fun a44 c44 => ?_)
          refine ta_se2 (by kernel_rfl) rfl ?_
          refine ta_q2 ?e56 (k := 25) (by kernel_rfl) rfl ?q56 ?r56
          case q56 =>
            refine to_nc rfl rfl ?_
            exact tpq_end
          refine ta_q2 ?e57 (k := 26) (by kernel_rfl) rfl ?q57 ?r57
          case q57 =>
            first | refine to_fa rfl rfl rfl (by simp only [Nat.reduceAdd]; rfl) rfl ?_ | refine to_fae rfl rfl rfl (by simp only [Nat.reduceAdd]; rfl) rfl ?_
            exact tpq_end
          refine ta_fork [27] (by kernel_rfl) rfl ?_
          refine ⟨⟨_, rfl, wanted_none rfl, ?_⟩, trivial⟩
          first | refine to_st rfl rfl rfl rfl ?_ | refine to_ste rfl rfl (by assumption) rfl rfl ?_
          refine ta_se2 (by kernel_rfl) rfl ?_
          refine ta_q2 ?e58 (k := 28) (by kernel_rfl) rfl ?q58 ?r58
          case q58 =>
            refine to_nc rfl rfl ?_
            exact tpq_end
          refine ta_q2 ?e59 (k := 29) (by kernel_rfl) rfl ?q59 ?r59
          case q59 =>
            first | refine to_fa rfl rfl rfl (by simp only [Nat.reduceAdd]; rfl) rfl ?_ | refine to_fae rfl rfl rfl (by simp only [Nat.reduceAdd]; rfl) rfl ?_
            exact tpq_end
          refine ta_fork [30] (by kernel_rfl) rfl ?_
          refine ⟨⟨_, rfl, wanted_none rfl, ?_⟩, trivial⟩
          first | refine to_st rfl rfl rfl rfl ?_ | refine to_ste rfl rfl (by assumption) rfl rfl ?_
          refine ta_se2 (by kernel_rfl) rfl ?_
          refine ta_q2 ?e60 (k := 31) (by kernel_rfl) rfl ?q60 ?r60
          case q60 =>
            refine to_nc rfl rfl ?_
            exact tpq_end
          refine ta_q2 ?e61 (k := 32) (by kernel_rfl) rfl ?q61 ?r61
          case q61 =>
            first | refine to_fa rfl rfl rfl (by simp only [Nat.reduceAdd]; rfl) rfl ?_ | refine to_fae rfl rfl rfl (by simp only [Nat.reduceAdd]; rfl) rfl ?_
            exact tpq_end
          refine ta_fork [33] (by kernel_rfl) rfl ?_
          refine ⟨⟨_, rfl, wanted_none rfl, ?_⟩, trivial⟩
          first | refine to_st rfl rfl rfl rfl ?_ | refine to_ste rfl rfl (by assumption) rfl rfl ?_
          refine ta_se2 (by kernel_rfl) rfl ?_
          refine ta_nil (by kernel_rfl) ?_
          refine tn_blk ?_
          refine tn_code ?_
          refine t_reg ?_
          refine to_add rfl rfl (by omega) rfl ?_
          refine to_mv rfl rfl ?_
          refine to_nil ?_
          exact tn_loop2 ((k + 1, a30, c30, a38, c38, a44, c44)) [.own b12 (isC [.int .i64 4, .slice L.la 3 L.lc, .slice L.ga 3 L.gc, .slice a30 (k + 1) c30, .slice a38 (k + 1) c38, .map (some r10), .slice a44 (k + 1) c44, .slice none 0 0] 131), .own r10 (isMb []), .row a30 (k + 1) c30 3 1 (ints (tkM (fun y => y.2.2) k) ++ [[.int .i64 y.2.2]]), .row a38 (k + 1) c38 3 1 (ints (tkM (fun y => y.1) k) ++ [[.int .i64 y.1]]), .row a44 (k + 1) c44 3 1 (ints (tkM (fun _ => -1) k) ++ [[.int .i64 (-1)]]), .own b1 (isC (pgbC L) 63), .snap 0 w.heap.size w] (by dsimp only; rw [tkM_succ hy, tkM_succ hy, tkM_succ hy]) (by dsimp only; omega) (by dsimp only; omega) (⟨rfl, rfl, rfl, rfl, rfl, trivial⟩)
        · skip
          refine to_bsl rfl rfl rfl rfl (fun a37 => ?_)
          refine ta_se1 rfl ?_
          refine ta_fork [10] (by kernel_rfl) rfl ?_
          refine ⟨⟨_, rfl, wanted_none rfl, ?_⟩, trivial⟩
          refine to_app rfl rfl rfl (by simp [scals, scal]) (by decide) (by omega) (by decide) rfl (fun a30 c30 => ?_)
          refine ta_se1 rfl ?_
          refine ta_fork [18] (by kernel_rfl) rfl ?_
          refine ⟨⟨_, rfl, wanted_none rfl, ?_⟩, trivial⟩
          refine to_app rfl rfl rfl (by simp [scals, scal]) (by decide) (by omega) (by decide) rfl (fun a38 c38 => ?_)
          refine ta_se1 rfl ?_
          refine ta_fork [24] (by kernel_rfl) rfl ?_
          refine ⟨⟨_, rfl, wanted_none rfl, ?_⟩, trivial⟩
          refine to_app rfl rfl rfl (by simp [scals, scal]) (by decide) (by omega) (by decide) rfl (fun a44 c44 => ?_)
          refine ta_se2 (by kernel_rfl) rfl ?_
          refine ta_q2 ?e62 (k := 25) (by kernel_rfl) rfl ?q62 ?r62
          case q62 =>
            refine to_nc rfl rfl ?_
            exact tpq_end
          refine ta_q2 ?e63 (k := 26) (by kernel_rfl) rfl ?q63 ?r63
          case q63 =>
            first | refine to_fa rfl rfl rfl (by simp only [Nat.reduceAdd]; rfl) rfl ?_ | refine to_fae rfl rfl rfl (by simp only [Nat.reduceAdd]; rfl) rfl ?_
            exact tpq_end
          refine ta_fork [27] (by kernel_rfl) rfl ?_
          refine ⟨⟨_, rfl, wanted_none rfl, ?_⟩, trivial⟩
          first | refine to_st rfl rfl rfl rfl ?_ | refine to_ste rfl rfl (by assumption) rfl rfl ?_
          refine ta_se2 (by kernel_rfl) rfl ?_
          refine ta_q2 ?e64 (k := 28) (by kernel_rfl) rfl ?q64 ?r64
          case q64 =>
            refine to_nc rfl rfl ?_
            exact tpq_end
          refine ta_q2 ?e65 (k := 29) (by kernel_rfl) rfl ?q65 ?r65
          case q65 =>
            first | refine to_fa rfl rfl rfl (by simp only [Nat.reduceAdd]; rfl) rfl ?_ | refine to_fae rfl rfl rfl (by simp only [Nat.reduceAdd]; rfl) rfl ?_
            exact tpq_end
          refine ta_fork [30] (by kernel_rfl) rfl ?_
          refine ⟨⟨_, rfl, wanted_none rfl, ?_⟩, trivial⟩
          first | refine to_st rfl rfl rfl rfl ?_ | refine to_ste rfl rfl (by assumption) rfl rfl ?_
          refine ta_se2 (by kernel_rfl) rfl ?_
          refine ta_q2 ?e66 (k := 31) (by kernel_rfl) rfl ?q66 ?r66
          case q66 =>
            refine to_nc rfl rfl ?_
            exact tpq_end
          refine ta_q2 ?e67 (k := 32) (by kernel_rfl) rfl ?q67 ?r67
          case q67 =>
            first | refine to_fa rfl rfl rfl (by simp only [Nat.reduceAdd]; rfl) rfl ?_ | refine to_fae rfl rfl rfl (by simp only [Nat.reduceAdd]; rfl) rfl ?_
            exact tpq_end
          refine ta_fork [33] (by kernel_rfl) rfl ?_
          refine ⟨⟨_, rfl, wanted_none rfl, ?_⟩, trivial⟩
          first | refine to_st rfl rfl rfl rfl ?_ | refine to_ste rfl rfl (by assumption) rfl rfl ?_
          refine ta_se2 (by kernel_rfl) rfl ?_
          refine ta_nil (by kernel_rfl) ?_
          refine tn_blk ?_
          refine tn_code ?_
          refine t_reg ?_
          refine to_add rfl rfl (by omega) rfl ?_
          refine to_mv rfl rfl ?_
          refine to_nil ?_
          exact tn_loop2 ((k + 1, a30, c30, a38, c38, a44, c44)) [.own b12 (isC [.int .i64 4, .slice L.la 3 L.lc, .slice L.ga 3 L.gc, .slice a30 (k + 1) c30, .slice a38 (k + 1) c38, .map (some r10), .slice a44 (k + 1) c44, .slice none 0 0] 131), .own r10 (isMb []), .row a30 (k + 1) c30 3 1 (ints (tkM (fun y => y.2.2) k) ++ [[.int .i64 y.2.2]]), .row a38 (k + 1) c38 3 1 (ints (tkM (fun y => y.1) k) ++ [[.int .i64 y.1]]), .row a44 (k + 1) c44 3 1 (ints (tkM (fun _ => -1) k) ++ [[.int .i64 (-1)]]), .own b1 (isC (pgbC L) 63), .snap 0 w.heap.size w] (by dsimp only; rw [tkM_succ hy, tkM_succ hy, tkM_succ hy]) (by dsimp only; omega) (by dsimp only; omega) (⟨rfl, rfl, rfl, rfl, rfl, trivial⟩)
    · skip
      refine to_bsl rfl rfl rfl rfl (fun a37 => ?_)
      refine ta_se1 rfl ?_
      refine ta_fork [9, 23] (by kernel_rfl) rfl ?_
      refine ⟨⟨_, rfl, wanted_none rfl, ?_⟩, ⟨_, rfl, wanted_none rfl, ?_⟩, trivial⟩
      · skip
        refine to_bsl rfl rfl rfl rfl (fun a29 => ?_)
        refine ta_se1 rfl ?_
        refine ta_fork [10, 23] (by kernel_rfl) rfl ?_
        refine ⟨⟨_, rfl, wanted_none rfl, ?_⟩, ⟨_, rfl, wanted_none rfl, ?_⟩, trivial⟩
        · skip
          refine to_app rfl rfl rfl (by simp [scals, scal]) (by decide) (by omega) (by decide) rfl (fun a30 c30 => ?_)
          refine ta_se1 rfl ?_
          refine ta_fork [18, 23] (by kernel_rfl) rfl ?_
          refine ⟨⟨_, rfl, wanted_none rfl, ?_⟩, ⟨_, rfl, wanted_none rfl, ?_⟩, trivial⟩
          · skip
            refine to_app rfl rfl rfl (by simp [scals, scal]) (by decide) (by omega) (by decide) rfl (fun a38 c38 => ?_)
            refine ta_se1 rfl ?_
            refine ta_fork [23] (by kernel_rfl) rfl ?_
            refine ⟨⟨_, rfl, wanted_none rfl, ?_⟩, trivial⟩
            refine to_bsl rfl rfl rfl rfl (fun a43 => ?_)
            refine ta_se1 rfl ?_
            refine ta_fork [24] (by kernel_rfl) rfl ?_
            refine ⟨⟨_, rfl, wanted_none rfl, ?_⟩, trivial⟩
            refine to_app rfl rfl rfl (by simp [scals, scal]) (by decide) (by omega) (by decide) rfl (fun a44 c44 => ?_)
            refine ta_se2 (by kernel_rfl) rfl ?_
            refine ta_q2 ?e68 (k := 25) (by kernel_rfl) rfl ?q68 ?r68
            case q68 =>
              refine to_nc rfl rfl ?_
              exact tpq_end
            refine ta_q2 ?e69 (k := 26) (by kernel_rfl) rfl ?q69 ?r69
            case q69 =>
              first | refine to_fa rfl rfl rfl (by simp only [Nat.reduceAdd]; rfl) rfl ?_ | refine to_fae rfl rfl rfl (by simp only [Nat.reduceAdd]; rfl) rfl ?_
              exact tpq_end
            refine ta_fork [27] (by kernel_rfl) rfl ?_
            refine ⟨⟨_, rfl, wanted_none rfl, ?_⟩, trivial⟩
            first | refine to_st rfl rfl rfl rfl ?_ | refine to_ste rfl rfl (by assumption) rfl rfl ?_
            refine ta_se2 (by kernel_rfl) rfl ?_
            refine ta_q2 ?e70 (k := 28) (by kernel_rfl) rfl ?q70 ?r70
            case q70 =>
              refine to_nc rfl rfl ?_
              exact tpq_end
            refine ta_q2 ?e71 (k := 29) (by kernel_rfl) rfl ?q71 ?r71
            case q71 =>
              first | refine to_fa rfl rfl rfl (by simp only [Nat.reduceAdd]; rfl) rfl ?_ | refine to_fae rfl rfl rfl (by simp only [Nat.reduceAdd]; rfl) rfl ?_
              exact tpq_end
            refine ta_fork [30] (by kernel_rfl) rfl ?_
            refine ⟨⟨_, rfl, wanted_none rfl, ?_⟩, trivial⟩
            first | refine to_st rfl rfl rfl rfl ?_ | refine to_ste rfl rfl (by assumption) rfl rfl ?_
            refine ta_se2 (by kernel_rfl) rfl ?_
            refine ta_q2 ?e72 (k := 31) (by kernel_rfl) rfl ?q72 ?r72
            case q72 =>
              refine to_nc rfl rfl ?_
              exact tpq_end
            refine ta_q2 ?e73 (k := 32) (by kernel_rfl) rfl ?q73 ?r73
            case q73 =>
              first | refine to_fa rfl rfl rfl (by simp only [Nat.reduceAdd]; rfl) rfl ?_ | refine to_fae rfl rfl rfl (by simp only [Nat.reduceAdd]; rfl) rfl ?_
              exact tpq_end
            refine ta_fork [33] (by kernel_rfl) rfl ?_
            refine ⟨⟨_, rfl, wanted_none rfl, ?_⟩, trivial⟩
            first | refine to_st rfl rfl rfl rfl ?_ | refine to_ste rfl rfl (by assumption) rfl rfl ?_
            refine ta_se2 (by kernel_rfl) rfl ?_
            refine ta_nil (by kernel_rfl) ?_
            refine tn_blk ?_
            refine tn_code ?_
            refine t_reg ?_
            refine to_add rfl rfl (by omega) rfl ?_
            refine to_mv rfl rfl ?_
            refine to_nil ?_
            exact tn_loop2 ((k + 1, a30, c30, a38, c38, a44, c44)) [.own b12 (isC [.int .i64 4, .slice L.la 3 L.lc, .slice L.ga 3 L.gc, .slice a30 (k + 1) c30, .slice a38 (k + 1) c38, .map (some r10), .slice a44 (k + 1) c44, .slice none 0 0] 131), .own r10 (isMb []), .row a30 (k + 1) c30 3 1 (ints (tkM (fun y => y.2.2) k) ++ [[.int .i64 y.2.2]]), .row a38 (k + 1) c38 3 1 (ints (tkM (fun y => y.1) k) ++ [[.int .i64 y.1]]), .row a44 (k + 1) c44 3 1 (ints (tkM (fun _ => -1) k) ++ [[.int .i64 (-1)]]), .own b1 (isC (pgbC L) 63), .snap 0 w.heap.size w] (by dsimp only; rw [tkM_succ hy, tkM_succ hy, tkM_succ hy]) (by dsimp only; omega) (by dsimp only; omega) (⟨rfl, rfl, rfl, rfl, rfl, trivial⟩)
          · skip
            refine to_bsl rfl rfl rfl rfl (fun a43 => ?_)
            refine ta_se1 rfl ?_
            refine ta_fork [18] (by kernel_rfl) rfl ?_
            refine ⟨⟨_, rfl, wanted_none rfl, ?_⟩, trivial⟩
            refine to_app rfl rfl rfl (by simp [scals, scal]) (by decide) (by omega) (by decide) rfl (fun a38 c38 => ?_)
            refine ta_se1 rfl ?_
            refine ta_fork [24] (by kernel_rfl) rfl ?_
            refine ⟨⟨_, rfl, wanted_none rfl, ?_⟩, trivial⟩
            refine to_app rfl rfl rfl (by simp [scals, scal]) (by decide) (by omega) (by decide) rfl (fun a44 c44 => ?_)
            refine ta_se2 (by kernel_rfl) rfl ?_
            refine ta_q2 ?e74 (k := 25) (by kernel_rfl) rfl ?q74 ?r74
            case q74 =>
              refine to_nc rfl rfl ?_
              exact tpq_end
            refine ta_q2 ?e75 (k := 26) (by kernel_rfl) rfl ?q75 ?r75
            case q75 =>
              first | refine to_fa rfl rfl rfl (by simp only [Nat.reduceAdd]; rfl) rfl ?_ | refine to_fae rfl rfl rfl (by simp only [Nat.reduceAdd]; rfl) rfl ?_
              exact tpq_end
            refine ta_fork [27] (by kernel_rfl) rfl ?_
            refine ⟨⟨_, rfl, wanted_none rfl, ?_⟩, trivial⟩
            first | refine to_st rfl rfl rfl rfl ?_ | refine to_ste rfl rfl (by assumption) rfl rfl ?_
            refine ta_se2 (by kernel_rfl) rfl ?_
            refine ta_q2 ?e76 (k := 28) (by kernel_rfl) rfl ?q76 ?r76
            case q76 =>
              refine to_nc rfl rfl ?_
              exact tpq_end
            refine ta_q2 ?e77 (k := 29) (by kernel_rfl) rfl ?q77 ?r77
            case q77 =>
              first | refine to_fa rfl rfl rfl (by simp only [Nat.reduceAdd]; rfl) rfl ?_ | refine to_fae rfl rfl rfl (by simp only [Nat.reduceAdd]; rfl) rfl ?_
              exact tpq_end
            refine ta_fork [30] (by kernel_rfl) rfl ?_
            refine ⟨⟨_, rfl, wanted_none rfl, ?_⟩, trivial⟩
            first | refine to_st rfl rfl rfl rfl ?_ | refine to_ste rfl rfl (by assumption) rfl rfl ?_
            refine ta_se2 (by kernel_rfl) rfl ?_
            refine ta_q2 ?e78 (k := 31) (by kernel_rfl) rfl ?q78 ?r78
            case q78 =>
              refine to_nc rfl rfl ?_
              exact tpq_end
            refine ta_q2 ?e79 (k := 32) (by kernel_rfl) rfl ?q79 ?r79
            case q79 =>
              first | refine to_fa rfl rfl rfl (by simp only [Nat.reduceAdd]; rfl) rfl ?_ | refine to_fae rfl rfl rfl (by simp only [Nat.reduceAdd]; rfl) rfl ?_
              exact tpq_end
            refine ta_fork [33] (by kernel_rfl) rfl ?_
            refine ⟨⟨_, rfl, wanted_none rfl, ?_⟩, trivial⟩
            first | refine to_st rfl rfl rfl rfl ?_ | refine to_ste rfl rfl (by assumption) rfl rfl ?_
            refine ta_se2 (by kernel_rfl) rfl ?_
            refine ta_nil (by kernel_rfl) ?_
            refine tn_blk ?_
            refine tn_code ?_
            refine t_reg ?_
            refine to_add rfl rfl (by omega) rfl ?_
            refine to_mv rfl rfl ?_
            refine to_nil ?_
            exact tn_loop2 ((k + 1, a30, c30, a38, c38, a44, c44)) [.own b12 (isC [.int .i64 4, .slice L.la 3 L.lc, .slice L.ga 3 L.gc, .slice a30 (k + 1) c30, .slice a38 (k + 1) c38, .map (some r10), .slice a44 (k + 1) c44, .slice none 0 0] 131), .own r10 (isMb []), .row a30 (k + 1) c30 3 1 (ints (tkM (fun y => y.2.2) k) ++ [[.int .i64 y.2.2]]), .row a38 (k + 1) c38 3 1 (ints (tkM (fun y => y.1) k) ++ [[.int .i64 y.1]]), .row a44 (k + 1) c44 3 1 (ints (tkM (fun _ => -1) k) ++ [[.int .i64 (-1)]]), .own b1 (isC (pgbC L) 63), .snap 0 w.heap.size w] (by dsimp only; rw [tkM_succ hy, tkM_succ hy, tkM_succ hy]) (by dsimp only; omega) (by dsimp only; omega) (⟨rfl, rfl, rfl, rfl, rfl, trivial⟩)
        · skip
          refine to_bsl rfl rfl rfl rfl (fun a43 => ?_)
          refine ta_se1 rfl ?_
          refine ta_fork [10] (by kernel_rfl) rfl ?_
          refine ⟨⟨_, rfl, wanted_none rfl, ?_⟩, trivial⟩
          refine to_app rfl rfl rfl (by simp [scals, scal]) (by decide) (by omega) (by decide) rfl (fun a30 c30 => ?_)
          refine ta_se1 rfl ?_
          refine ta_fork [18] (by kernel_rfl) rfl ?_
          refine ⟨⟨_, rfl, wanted_none rfl, ?_⟩, trivial⟩
          refine to_app rfl rfl rfl (by simp [scals, scal]) (by decide) (by omega) (by decide) rfl (fun a38 c38 => ?_)
          refine ta_se1 rfl ?_
          refine ta_fork [24] (by kernel_rfl) rfl ?_
          refine ⟨⟨_, rfl, wanted_none rfl, ?_⟩, trivial⟩
          refine to_app rfl rfl rfl (by simp [scals, scal]) (by decide) (by omega) (by decide) rfl (fun a44 c44 => ?_)
          refine ta_se2 (by kernel_rfl) rfl ?_
          refine ta_q2 ?e80 (k := 25) (by kernel_rfl) rfl ?q80 ?r80
          case q80 =>
            refine to_nc rfl rfl ?_
            exact tpq_end
          refine ta_q2 ?e81 (k := 26) (by kernel_rfl) rfl ?q81 ?r81
          case q81 =>
            first | refine to_fa rfl rfl rfl (by simp only [Nat.reduceAdd]; rfl) rfl ?_ | refine to_fae rfl rfl rfl (by simp only [Nat.reduceAdd]; rfl) rfl ?_
            exact tpq_end
          refine ta_fork [27] (by kernel_rfl) rfl ?_
          refine ⟨⟨_, rfl, wanted_none rfl, ?_⟩, trivial⟩
          first | refine to_st rfl rfl rfl rfl ?_ | refine to_ste rfl rfl (by assumption) rfl rfl ?_
          refine ta_se2 (by kernel_rfl) rfl ?_
          refine ta_q2 ?e82 (k := 28) (by kernel_rfl) rfl ?q82 ?r82
          case q82 =>
            refine to_nc rfl rfl ?_
            exact tpq_end
          refine ta_q2 ?e83 (k := 29) (by kernel_rfl) rfl ?q83 ?r83
          case q83 =>
            first | refine to_fa rfl rfl rfl (by simp only [Nat.reduceAdd]; rfl) rfl ?_ | refine to_fae rfl rfl rfl (by simp only [Nat.reduceAdd]; rfl) rfl ?_
            exact tpq_end
          refine ta_fork [30] (by kernel_rfl) rfl ?_
          refine ⟨⟨_, rfl, wanted_none rfl, ?_⟩, trivial⟩
          first | refine to_st rfl rfl rfl rfl ?_ | refine to_ste rfl rfl (by assumption) rfl rfl ?_
          refine ta_se2 (by kernel_rfl) rfl ?_
          refine ta_q2 ?e84 (k := 31) (by kernel_rfl) rfl ?q84 ?r84
          case q84 =>
            refine to_nc rfl rfl ?_
            exact tpq_end
          refine ta_q2 ?e85 (k := 32) (by kernel_rfl) rfl ?q85 ?r85
          case q85 =>
            first | refine to_fa rfl rfl rfl (by simp only [Nat.reduceAdd]; rfl) rfl ?_ | refine to_fae rfl rfl rfl (by simp only [Nat.reduceAdd]; rfl) rfl ?_
            exact tpq_end
          refine ta_fork [33] (by kernel_rfl) rfl ?_
          refine ⟨⟨_, rfl, wanted_none rfl, ?_⟩, trivial⟩
          first | refine to_st rfl rfl rfl rfl ?_ | refine to_ste rfl rfl (by assumption) rfl rfl ?_
          refine ta_se2 (by kernel_rfl) rfl ?_
          refine ta_nil (by kernel_rfl) ?_
          refine tn_blk ?_
          refine tn_code ?_
          refine t_reg ?_
          refine to_add rfl rfl (by omega) rfl ?_
          refine to_mv rfl rfl ?_
          refine to_nil ?_
          exact tn_loop2 ((k + 1, a30, c30, a38, c38, a44, c44)) [.own b12 (isC [.int .i64 4, .slice L.la 3 L.lc, .slice L.ga 3 L.gc, .slice a30 (k + 1) c30, .slice a38 (k + 1) c38, .map (some r10), .slice a44 (k + 1) c44, .slice none 0 0] 131), .own r10 (isMb []), .row a30 (k + 1) c30 3 1 (ints (tkM (fun y => y.2.2) k) ++ [[.int .i64 y.2.2]]), .row a38 (k + 1) c38 3 1 (ints (tkM (fun y => y.1) k) ++ [[.int .i64 y.1]]), .row a44 (k + 1) c44 3 1 (ints (tkM (fun _ => -1) k) ++ [[.int .i64 (-1)]]), .own b1 (isC (pgbC L) 63), .snap 0 w.heap.size w] (by dsimp only; rw [tkM_succ hy, tkM_succ hy, tkM_succ hy]) (by dsimp only; omega) (by dsimp only; omega) (⟨rfl, rfl, rfl, rfl, rfl, trivial⟩)
      · skip
        refine to_bsl rfl rfl rfl rfl (fun a43 => ?_)
        refine ta_se1 rfl ?_
        refine ta_fork [9] (by kernel_rfl) rfl ?_
        refine ⟨⟨_, rfl, wanted_none rfl, ?_⟩, trivial⟩
        refine to_bsl rfl rfl rfl rfl (fun a29 => ?_)
        refine ta_se1 rfl ?_
        refine ta_fork [10] (by kernel_rfl) rfl ?_
        refine ⟨⟨_, rfl, wanted_none rfl, ?_⟩, trivial⟩
        refine to_app rfl rfl rfl (by simp [scals, scal]) (by decide) (by omega) (by decide) rfl (fun a30 c30 => ?_)
        refine ta_se1 rfl ?_
        refine ta_fork [18] (by kernel_rfl) rfl ?_
        refine ⟨⟨_, rfl, wanted_none rfl, ?_⟩, trivial⟩
        refine to_app rfl rfl rfl (by simp [scals, scal]) (by decide) (by omega) (by decide) rfl (fun a38 c38 => ?_)
        refine ta_se1 rfl ?_
        refine ta_fork [24] (by kernel_rfl) rfl ?_
        refine ⟨⟨_, rfl, wanted_none rfl, ?_⟩, trivial⟩
        refine to_app rfl rfl rfl (by simp [scals, scal]) (by decide) (by omega) (by decide) rfl (fun a44 c44 => ?_)
        refine ta_se2 (by kernel_rfl) rfl ?_
        refine ta_q2 ?e86 (k := 25) (by kernel_rfl) rfl ?q86 ?r86
        case q86 =>
          refine to_nc rfl rfl ?_
          exact tpq_end
        refine ta_q2 ?e87 (k := 26) (by kernel_rfl) rfl ?q87 ?r87
        case q87 =>
          first | refine to_fa rfl rfl rfl (by simp only [Nat.reduceAdd]; rfl) rfl ?_ | refine to_fae rfl rfl rfl (by simp only [Nat.reduceAdd]; rfl) rfl ?_
          exact tpq_end
        refine ta_fork [27] (by kernel_rfl) rfl ?_
        refine ⟨⟨_, rfl, wanted_none rfl, ?_⟩, trivial⟩
        first | refine to_st rfl rfl rfl rfl ?_ | refine to_ste rfl rfl (by assumption) rfl rfl ?_
        refine ta_se2 (by kernel_rfl) rfl ?_
        refine ta_q2 ?e88 (k := 28) (by kernel_rfl) rfl ?q88 ?r88
        case q88 =>
          refine to_nc rfl rfl ?_
          exact tpq_end
        refine ta_q2 ?e89 (k := 29) (by kernel_rfl) rfl ?q89 ?r89
        case q89 =>
          first | refine to_fa rfl rfl rfl (by simp only [Nat.reduceAdd]; rfl) rfl ?_ | refine to_fae rfl rfl rfl (by simp only [Nat.reduceAdd]; rfl) rfl ?_
          exact tpq_end
        refine ta_fork [30] (by kernel_rfl) rfl ?_
        refine ⟨⟨_, rfl, wanted_none rfl, ?_⟩, trivial⟩
        first | refine to_st rfl rfl rfl rfl ?_ | refine to_ste rfl rfl (by assumption) rfl rfl ?_
        refine ta_se2 (by kernel_rfl) rfl ?_
        refine ta_q2 ?e90 (k := 31) (by kernel_rfl) rfl ?q90 ?r90
        case q90 =>
          refine to_nc rfl rfl ?_
          exact tpq_end
        refine ta_q2 ?e91 (k := 32) (by kernel_rfl) rfl ?q91 ?r91
        case q91 =>
          first | refine to_fa rfl rfl rfl (by simp only [Nat.reduceAdd]; rfl) rfl ?_ | refine to_fae rfl rfl rfl (by simp only [Nat.reduceAdd]; rfl) rfl ?_
          exact tpq_end
        refine ta_fork [33] (by kernel_rfl) rfl ?_
        refine ⟨⟨_, rfl, wanted_none rfl, ?_⟩, trivial⟩
        first | refine to_st rfl rfl rfl rfl ?_ | refine to_ste rfl rfl (by assumption) rfl rfl ?_
        refine ta_se2 (by kernel_rfl) rfl ?_
        refine ta_nil (by kernel_rfl) ?_
        refine tn_blk ?_
        refine tn_code ?_
        refine t_reg ?_
        refine to_add rfl rfl (by omega) rfl ?_
        refine to_mv rfl rfl ?_
        refine to_nil ?_
        exact tn_loop2 ((k + 1, a30, c30, a38, c38, a44, c44)) [.own b12 (isC [.int .i64 4, .slice L.la 3 L.lc, .slice L.ga 3 L.gc, .slice a30 (k + 1) c30, .slice a38 (k + 1) c38, .map (some r10), .slice a44 (k + 1) c44, .slice none 0 0] 131), .own r10 (isMb []), .row a30 (k + 1) c30 3 1 (ints (tkM (fun y => y.2.2) k) ++ [[.int .i64 y.2.2]]), .row a38 (k + 1) c38 3 1 (ints (tkM (fun y => y.1) k) ++ [[.int .i64 y.1]]), .row a44 (k + 1) c44 3 1 (ints (tkM (fun _ => -1) k) ++ [[.int .i64 (-1)]]), .own b1 (isC (pgbC L) 63), .snap 0 w.heap.size w] (by dsimp only; rw [tkM_succ hy, tkM_succ hy, tkM_succ hy]) (by dsimp only; omega) (by dsimp only; omega) (⟨rfl, rfl, rfl, rfl, rfl, trivial⟩)
    · skip
      refine to_bsl rfl rfl rfl rfl (fun a43 => ?_)
      refine ta_se1 rfl ?_
      refine ta_fork [9, 17] (by kernel_rfl) rfl ?_
      refine ⟨⟨_, rfl, wanted_none rfl, ?_⟩, ⟨_, rfl, wanted_none rfl, ?_⟩, trivial⟩
      · skip
        refine to_bsl rfl rfl rfl rfl (fun a29 => ?_)
        refine ta_se1 rfl ?_
        refine ta_fork [10, 17] (by kernel_rfl) rfl ?_
        refine ⟨⟨_, rfl, wanted_none rfl, ?_⟩, ⟨_, rfl, wanted_none rfl, ?_⟩, trivial⟩
        · skip
          refine to_app rfl rfl rfl (by simp [scals, scal]) (by decide) (by omega) (by decide) rfl (fun a30 c30 => ?_)
          refine ta_se1 rfl ?_
          refine ta_fork [17] (by kernel_rfl) rfl ?_
          refine ⟨⟨_, rfl, wanted_none rfl, ?_⟩, trivial⟩
          refine to_bsl rfl rfl rfl rfl (fun a37 => ?_)
          refine ta_se1 rfl ?_
          refine ta_fork [18] (by kernel_rfl) rfl ?_
          refine ⟨⟨_, rfl, wanted_none rfl, ?_⟩, trivial⟩
          refine to_app rfl rfl rfl (by simp [scals, scal]) (by decide) (by omega) (by decide) rfl (fun a38 c38 => ?_)
          refine ta_se1 rfl ?_
          refine ta_fork [24] (by kernel_rfl) rfl ?_
          refine ⟨⟨_, rfl, wanted_none rfl, ?_⟩, trivial⟩
          refine to_app rfl rfl rfl (by simp [scals, scal]) (by decide) (by omega) (by decide) rfl (fun a44 c44 => ?_)
          refine ta_se2 (by kernel_rfl) rfl ?_
          refine ta_q2 ?e92 (k := 25) (by kernel_rfl) rfl ?q92 ?r92
          case q92 =>
            refine to_nc rfl rfl ?_
            exact tpq_end
          refine ta_q2 ?e93 (k := 26) (by kernel_rfl) rfl ?q93 ?r93
          case q93 =>
            first | refine to_fa rfl rfl rfl (by simp only [Nat.reduceAdd]; rfl) rfl ?_ | refine to_fae rfl rfl rfl (by simp only [Nat.reduceAdd]; rfl) rfl ?_
            exact tpq_end
          refine ta_fork [27] (by kernel_rfl) rfl ?_
          refine ⟨⟨_, rfl, wanted_none rfl, ?_⟩, trivial⟩
          first | refine to_st rfl rfl rfl rfl ?_ | refine to_ste rfl rfl (by assumption) rfl rfl ?_
          refine ta_se2 (by kernel_rfl) rfl ?_
          refine ta_q2 ?e94 (k := 28) (by kernel_rfl) rfl ?q94 ?r94
          case q94 =>
            refine to_nc rfl rfl ?_
            exact tpq_end
          refine ta_q2 ?e95 (k := 29) (by kernel_rfl) rfl ?q95 ?r95
          case q95 =>
            first | refine to_fa rfl rfl rfl (by simp only [Nat.reduceAdd]; rfl) rfl ?_ | refine to_fae rfl rfl rfl (by simp only [Nat.reduceAdd]; rfl) rfl ?_
            exact tpq_end
          refine ta_fork [30] (by kernel_rfl) rfl ?_
          refine ⟨⟨_, rfl, wanted_none rfl, ?_⟩, trivial⟩
          first | refine to_st rfl rfl rfl rfl ?_ | refine to_ste rfl rfl (by assumption) rfl rfl ?_
          refine ta_se2 (by kernel_rfl) rfl ?_
          refine ta_q2 ?e96 (k := 31) (by kernel_rfl) rfl ?q96 ?r96
          case q96 =>
            refine to_nc rfl rfl ?_
            exact tpq_end
          refine ta_q2 ?e97 (k := 32) (by kernel_rfl) rfl ?q97 ?r97
          case q97 =>
            first | refine to_fa rfl rfl rfl (by simp only [Nat.reduceAdd]; rfl) rfl ?_ | refine to_fae rfl rfl rfl (by simp only [Nat.reduceAdd]; rfl) rfl ?_
            exact tpq_end
          refine ta_fork [33] (by kernel_rfl) rfl ?_
          refine ⟨⟨_, rfl, wanted_none rfl, ?_⟩, trivial⟩
          first | refine to_st rfl rfl rfl rfl ?_ | refine to_ste rfl rfl (by assumption) rfl rfl ?_
          refine ta_se2 (by kernel_rfl) rfl ?_
          refine ta_nil (by kernel_rfl) ?_
          refine tn_blk ?_
          refine tn_code ?_
          refine t_reg ?_
          refine to_add rfl rfl (by omega) rfl ?_
          refine to_mv rfl rfl ?_
          refine to_nil ?_
          exact tn_loop2 ((k + 1, a30, c30, a38, c38, a44, c44)) [.own b12 (isC [.int .i64 4, .slice L.la 3 L.lc, .slice L.ga 3 L.gc, .slice a30 (k + 1) c30, .slice a38 (k + 1) c38, .map (some r10), .slice a44 (k + 1) c44, .slice none 0 0] 131), .own r10 (isMb []), .row a30 (k + 1) c30 3 1 (ints (tkM (fun y => y.2.2) k) ++ [[.int .i64 y.2.2]]), .row a38 (k + 1) c38 3 1 (ints (tkM (fun y => y.1) k) ++ [[.int .i64 y.1]]), .row a44 (k + 1) c44 3 1 (ints (tkM (fun _ => -1) k) ++ [[.int .i64 (-1)]]), .own b1 (isC (pgbC L) 63), .snap 0 w.heap.size w] (by dsimp only; rw [tkM_succ hy, tkM_succ hy, tkM_succ hy]) (by dsimp only; omega) (by dsimp only; omega) (⟨rfl, rfl, rfl, rfl, rfl, trivial⟩)
        · skip
          refine to_bsl rfl rfl rfl rfl (fun a37 => ?_)
          refine ta_se1 rfl ?_
          refine ta_fork [10] (by kernel_rfl) rfl ?_
          refine ⟨⟨_, rfl, wanted_none rfl, ?_⟩, trivial⟩
          refine to_app rfl rfl rfl (by simp [scals, scal]) (by decide) (by omega) (by decide) rfl (fun a30 c30 => ?_)
          refine ta_se1 rfl ?_
          refine ta_fork [18] (by kernel_rfl) rfl ?_
          refine ⟨⟨_, rfl, wanted_none rfl, ?_⟩, trivial⟩
          refine to_app rfl rfl rfl (by simp [scals, scal]) (by decide) (by omega) (by decide) rfl (fun a38 c38 => ?_)
          refine ta_se1 rfl ?_
          refine ta_fork [24] (by kernel_rfl) rfl ?_
          refine ⟨⟨_, rfl, wanted_none rfl, ?_⟩, trivial⟩
          refine to_app rfl rfl rfl (by simp [scals, scal]) (by decide) (by omega) (by decide) rfl (fun a44 c44 => ?_)
          refine ta_se2 (by kernel_rfl) rfl ?_
          refine ta_q2 ?e98 (k := 25) (by kernel_rfl) rfl ?q98 ?r98
          case q98 =>
            refine to_nc rfl rfl ?_
            exact tpq_end
          refine ta_q2 ?e99 (k := 26) (by kernel_rfl) rfl ?q99 ?r99
          case q99 =>
            first | refine to_fa rfl rfl rfl (by simp only [Nat.reduceAdd]; rfl) rfl ?_ | refine to_fae rfl rfl rfl (by simp only [Nat.reduceAdd]; rfl) rfl ?_
            exact tpq_end
          refine ta_fork [27] (by kernel_rfl) rfl ?_
          refine ⟨⟨_, rfl, wanted_none rfl, ?_⟩, trivial⟩
          first | refine to_st rfl rfl rfl rfl ?_ | refine to_ste rfl rfl (by assumption) rfl rfl ?_
          refine ta_se2 (by kernel_rfl) rfl ?_
          refine ta_q2 ?e100 (k := 28) (by kernel_rfl) rfl ?q100 ?r100
          case q100 =>
            refine to_nc rfl rfl ?_
            exact tpq_end
          refine ta_q2 ?e101 (k := 29) (by kernel_rfl) rfl ?q101 ?r101
          case q101 =>
            first | refine to_fa rfl rfl rfl (by simp only [Nat.reduceAdd]; rfl) rfl ?_ | refine to_fae rfl rfl rfl (by simp only [Nat.reduceAdd]; rfl) rfl ?_
            exact tpq_end
          refine ta_fork [30] (by kernel_rfl) rfl ?_
          refine ⟨⟨_, rfl, wanted_none rfl, ?_⟩, trivial⟩
          first | refine to_st rfl rfl rfl rfl ?_ | refine to_ste rfl rfl (by assumption) rfl rfl ?_
          refine ta_se2 (by kernel_rfl) rfl ?_
          refine ta_q2 ?e102 (k := 31) (by kernel_rfl) rfl ?q102 ?r102
          case q102 =>
            refine to_nc rfl rfl ?_
            exact tpq_end
          refine ta_q2 ?e103 (k := 32) (by kernel_rfl) rfl ?q103 ?r103
          case q103 =>
            first | refine to_fa rfl rfl rfl (by simp only [Nat.reduceAdd]; rfl) rfl ?_ | refine to_fae rfl rfl rfl (by simp only [Nat.reduceAdd]; rfl) rfl ?_
            exact tpq_end
          refine ta_fork [33] (by kernel_rfl) rfl ?_
          refine ⟨⟨_, rfl, wanted_none rfl, ?_⟩, trivial⟩
          first | refine to_st rfl rfl rfl rfl ?_ | refine to_ste rfl rfl (by assumption) rfl rfl ?_
          refine ta_se2 (by kernel_rfl) rfl ?_
          refine ta_nil (by kernel_rfl) ?_
          refine tn_blk ?_
          refine tn_code ?_
          refine t_reg ?_
          refine to_add rfl rfl (by omega) rfl ?_
          refine to_mv rfl rfl ?_
          refine to_nil ?_
          exact tn_loop2 ((k + 1, a30, c30, a38, c38, a44, c44)) [.own b12 (isC [.int .i64 4, .slice L.la 3 L.lc, .slice L.ga 3 L.gc, .slice a30 (k + 1) c30, .slice a38 (k + 1) c38, .map (some r10), .slice a44 (k + 1) c44, .slice none 0 0] 131), .own r10 (isMb []), .row a30 (k + 1) c30 3 1 (ints (tkM (fun y => y.2.2) k) ++ [[.int .i64 y.2.2]]), .row a38 (k + 1) c38 3 1 (ints (tkM (fun y => y.1) k) ++ [[.int .i64 y.1]]), .row a44 (k + 1) c44 3 1 (ints (tkM (fun _ => -1) k) ++ [[.int .i64 (-1)]]), .own b1 (isC (pgbC L) 63), .snap 0 w.heap.size w] (by dsimp only; rw [tkM_succ hy, tkM_succ hy, tkM_succ hy]) (by dsimp only; omega) (by dsimp only; omega) (⟨rfl, rfl, rfl, rfl, rfl, trivial⟩)
      · skip
        refine to_bsl rfl rfl rfl rfl (fun a37 => ?_)
        refine ta_se1 rfl ?_
        refine ta_fork [9] (by kernel_rfl) rfl ?_
        refine ⟨⟨_, rfl, wanted_none rfl, ?_⟩, trivial⟩
        refine to_bsl rfl rfl rfl rfl (fun a29 => ?_)
        refine ta_se1 rfl ?_
        refine ta_fork [10] (by kernel_rfl) rfl ?_
        refine ⟨⟨_, rfl, wanted_none rfl, ?_⟩, trivial⟩
        refine to_app rfl rfl rfl (by simp [scals, scal]) (by decide) (by omega) (by decide) rfl (fun a30 c30 => ?_)
        refine ta_se1 rfl ?_
        refine ta_fork [18] (by kernel_rfl) rfl ?_
        refine ⟨⟨_, rfl, wanted_none rfl, ?_⟩, trivial⟩
        refine to_app rfl rfl rfl (by simp [scals, scal]) (by decide) (by omega) (by decide) rfl (fun a38 c38 => ?_)
        refine ta_se1 rfl ?_
        refine ta_fork [24] (by kernel_rfl) rfl ?_
        refine ⟨⟨_, rfl, wanted_none rfl, ?_⟩, trivial⟩
        refine to_app rfl rfl rfl (by simp [scals, scal]) (by decide) (by omega) (by decide) rfl (fun a44 c44 => ?_)
        refine ta_se2 (by kernel_rfl) rfl ?_
        refine ta_q2 ?e104 (k := 25) (by kernel_rfl) rfl ?q104 ?r104
        case q104 =>
          refine to_nc rfl rfl ?_
          exact tpq_end
        refine ta_q2 ?e105 (k := 26) (by kernel_rfl) rfl ?q105 ?r105
        case q105 =>
          first | refine to_fa rfl rfl rfl (by simp only [Nat.reduceAdd]; rfl) rfl ?_ | refine to_fae rfl rfl rfl (by simp only [Nat.reduceAdd]; rfl) rfl ?_
          exact tpq_end
        refine ta_fork [27] (by kernel_rfl) rfl ?_
        refine ⟨⟨_, rfl, wanted_none rfl, ?_⟩, trivial⟩
        first | refine to_st rfl rfl rfl rfl ?_ | refine to_ste rfl rfl (by assumption) rfl rfl ?_
        refine ta_se2 (by kernel_rfl) rfl ?_
        refine ta_q2 ?e106 (k := 28) (by kernel_rfl) rfl ?q106 ?r106
        case q106 =>
          refine to_nc rfl rfl ?_
          exact tpq_end
        refine ta_q2 ?e107 (k := 29) (by kernel_rfl) rfl ?q107 ?r107
        case q107 =>
          first | refine to_fa rfl rfl rfl (by simp only [Nat.reduceAdd]; rfl) rfl ?_ | refine to_fae rfl rfl rfl (by simp only [Nat.reduceAdd]; rfl) rfl ?_
          exact tpq_end
        refine ta_fork [30] (by kernel_rfl) rfl ?_
        refine ⟨⟨_, rfl, wanted_none rfl, ?_⟩, trivial⟩
        first | refine to_st rfl rfl rfl rfl ?_ | refine to_ste rfl rfl (by assumption) rfl rfl ?_
        refine ta_se2 (by kernel_rfl) rfl ?_
        refine ta_q2 ?e108 (k := 31) (by kernel_rfl) rfl ?q108 ?r108
        case q108 =>
          refine to_nc rfl rfl ?_
          exact tpq_end
        refine ta_q2 ?e109 (k := 32) (by kernel_rfl) rfl ?q109 ?r109
        case q109 =>
          first | refine to_fa rfl rfl rfl (by simp only [Nat.reduceAdd]; rfl) rfl ?_ | refine to_fae rfl rfl rfl (by simp only [Nat.reduceAdd]; rfl) rfl ?_
          exact tpq_end
        refine ta_fork [33] (by kernel_rfl) rfl ?_
        refine ⟨⟨_, rfl, wanted_none rfl, ?_⟩, trivial⟩
        first | refine to_st rfl rfl rfl rfl ?_ | refine to_ste rfl rfl (by assumption) rfl rfl ?_
        refine ta_se2 (by kernel_rfl) rfl ?_
        refine ta_nil (by kernel_rfl) ?_
        refine tn_blk ?_
        refine tn_code ?_
        refine t_reg ?_
        refine to_add rfl rfl (by omega) rfl ?_
        refine to_mv rfl rfl ?_
        refine to_nil ?_
        exact tn_loop2 ((k + 1, a30, c30, a38, c38, a44, c44)) [.own b12 (isC [.int .i64 4, .slice L.la 3 L.lc, .slice L.ga 3 L.gc, .slice a30 (k + 1) c30, .slice a38 (k + 1) c38, .map (some r10), .slice a44 (k + 1) c44, .slice none 0 0] 131), .own r10 (isMb []), .row a30 (k + 1) c30 3 1 (ints (tkM (fun y => y.2.2) k) ++ [[.int .i64 y.2.2]]), .row a38 (k + 1) c38 3 1 (ints (tkM (fun y => y.1) k) ++ [[.int .i64 y.1]]), .row a44 (k + 1) c44 3 1 (ints (tkM (fun _ => -1) k) ++ [[.int .i64 (-1)]]), .own b1 (isC (pgbC L) 63), .snap 0 w.heap.size w] (by dsimp only; rw [tkM_succ hy, tkM_succ hy, tkM_succ hy]) (by dsimp only; omega) (by dsimp only; omega) (⟨rfl, rfl, rfl, rfl, rfl, trivial⟩)
  · try simp only [decide_eq_true_eq, decide_eq_false_iff_not, Bool.not_eq_true', Bool.not_eq_false', Int.not_lt, Int.not_le, ne_eq, Decidable.not_not] at h1
    try have h1b := inB_iff.1 h1
    obtain rfl : k = 3 := by omega
    rw [show tkM (fun y => y.2.2) 3 = [132, 45, 7] from rfl, show tkM (fun y => y.1) 3 = [0, 1, 0] from rfl, show tkM (fun _ => -1) 3 = [-1, -1, -1] from rfl]
    refine t_exit ?_
    refine tx_code ?_
    refine tx_inv ?_
    refine tx_blk ?_
    refine tn_code ?_
    refine t_seq ?_
    refine t_nilrow 150 2 ?_
    refine t_reg ?_
    refine to_ba rfl rfl rfl ?_
    refine to_alloc rfl (fun b6 => ?_)
    first | refine to_st rfl rfl rfl rfl ?_ | refine to_ste rfl rfl (by assumption) rfl rfl ?_
    refine to_nil ?_
    refine tn_code ?_
    refine t_seq ?_
    refine t_seq ?_
    refine t_reg ?_
    first | refine to_fa rfl rfl rfl (by simp only [Nat.reduceAdd]; rfl) rfl ?_ | refine to_fae rfl rfl rfl (by simp only [Nat.reduceAdd]; rfl) rfl ?_
    first | refine to_lds rfl rfl rfl ?_ | refine to_ldes rfl (by assumption) rfl rfl ?_
    refine to_lenS rfl rfl ?_
    refine to_mv rfl rfl ?_
    refine to_nil ?_
    refine tn_code ?_
    refine t_blk ?_
    refine t_unrollN 4 ?_
    refine t_seq ?_
    refine t_reg ?_
    refine to_lss rfl rfl rfl ?_
    refine to_fix (s := 57) (b' := true) rfl (rfl) ?_
    refine to_nil ?_
    refine tn_code ?_
    refine t_seq ?_
    refine t_ifT rfl ?_
    refine t_skip ?_
    refine tn_code ?_
    refine t_seq ?_
    refine t_blk ?_
    refine t_seq ?_
    refine t_reg ?_
    refine to_mv rfl rfl ?_
    refine to_ix (k := 0) rfl rfl rfl (by decide) (by decide) rfl ?_
    refine to_ldea (row := [.int .i64 1, .slice L.r0 4 L.c0]) rfl rfl rfl rfl ?_
    refine to_alloc rfl (fun b8 => ?_)
    refine to_as rfl rfl ?_
    first | refine to_st rfl rfl rfl rfl ?_ | refine to_ste rfl rfl (by assumption) rfl rfl ?_
    refine to_nil ?_
    refine tn_code ?_
    refine t_regM [9] [.own b8 (isC [.int .i64 1, .slice L.r0 4 L.c0] 93), .own b6 (isC [.func (.func 69) #[] #[], .func (.func 70) #[] #[], .func (.func 71) #[] #[]] 134)] rfl (by kernel_rfl) (by kernel_rfl) ?_
    refine tm_q ?e110 rfl ?q110 ?r110
    case q110 =>
      first | refine to_fa rfl rfl rfl (by simp only [Nat.reduceAdd]; rfl) rfl ?_ | refine to_fae rfl rfl rfl (by simp only [Nat.reduceAdd]; rfl) rfl ?_
      exact tmq_end
    refine tm_q ?e111 rfl ?q111 ?r111
    case q111 =>
      first | refine to_lds rfl rfl rfl ?_ | refine to_ldes rfl (by assumption) rfl rfl ?_
      exact tmq_end
    refine tm_q ?e112 rfl ?q112 ?r112
    case q112 =>
      refine to_sub rfl rfl (by decide) rfl ?_
      refine to_fixv (s := 63) (v' := .int .i64 0) rfl rfl ?_
      exact tmq_end
    refine tm_q ?e113 rfl ?q113 ?r113
    case q113 =>
      refine to_ixo (k := 0) rfl rfl (by decide) (by simp only [Nat.reduceAdd, Nat.reduceMul]; rfl) rfl ?_
      exact tmq_end
    refine tm_q ?e114 rfl ?q114 ?r114
    case q114 =>
      first | refine to_lds rfl rfl rfl ?_ | refine to_ldes rfl (by assumption) rfl rfl ?_
      exact tmq_end
    refine tm_q ?e115 rfl ?q115 ?r115
    case q115 =>
      refine to_mv rfl rfl ?_
      exact tmq_end
    refine tm_q ?e116 rfl ?q116 ?r116
    case q116 =>
      refine to_mv rfl rfl ?_
      exact tmq_end
    refine tm_q ?e117 rfl ?q117 ?r117
    case q117 =>
      first | refine to_fa rfl rfl rfl (by simp only [Nat.reduceAdd]; rfl) rfl ?_ | refine to_fae rfl rfl rfl (by simp only [Nat.reduceAdd]; rfl) rfl ?_
      exact tmq_end
    refine tm_q ?e118 rfl ?q118 ?r118
    case q118 =>
      first | refine to_lds rfl rfl rfl ?_ | refine to_ldes rfl (by assumption) rfl rfl ?_
      exact tmq_end
    refine tm_s rfl ?_ (fun _ h => by cases h) rfl
    refine to_callL [.own b12 (isC [.int .i64 4, .slice L.la 3 L.lc, .slice L.ga 3 L.gc, .slice na 3 nc, .slice sa 3 sc, .map (some r10), .slice ha 3 hc, .slice none 0 0] 131), .own r10 (isMb ([])), .row na 3 nc 3 1 (ints [132, 45, 7]), .row sa 3 sc 3 1 (ints [0, 1, 0]), .row ha 3 hc 3 1 (ints [-1, -1, -1]), .row none 0 0 150 2 ([]), .snap 0 w.heap.size w] (fun z0 : Option Addr × Nat => [.own b12 (isC [.int .i64 4, .slice L.la 3 L.lc, .slice L.ga 3 L.gc, .slice na 3 nc, .slice sa 3 sc, .map (some r10), .slice ha 3 hc, .slice z0.1 2 z0.2] 131), .own r10 (isMb ([(0, 1), (0, 2), (1, 1), (1, 2), (2, 1), (2, 2)])), .row na 3 nc 3 1 (ints [132, 45, 7]), .row sa 3 sc 3 1 (ints [0, 1, 0]), .row ha 3 hc 3 1 (ints [-1, -1, -1]), .row z0.1 2 z0.2 150 2 ([[.int .i64 0, .int .i64 0], [.int .i64 0, .int .i64 2]]), .snap 0 w.heap.size w]) rfl rfl (fun R w9 hw => pf_reads0 L na nc sa sc ha hc r10 b12 w.heap.size w hk R w9 hw) rfl (fun z0 => ?_)
    refine to_nrm (A := [.own b12 (isC [.int .i64 4, .slice L.la 3 L.lc, .slice L.ga 3 L.gc, .slice na 3 nc, .slice sa 3 sc, .map (some r10), .slice ha 3 hc, .slice z0.1 2 z0.2] 131), .own r10 (isMb ([(0, 1), (0, 2), (1, 1), (1, 2), (2, 1), (2, 2)])), .row na 3 nc 3 1 (ints [132, 45, 7]), .row sa 3 sc 3 1 (ints [0, 1, 0]), .row ha 3 hc 3 1 (ints [-1, -1, -1]), .row z0.1 2 z0.2 150 2 ([[.int .i64 0, .int .i64 0], [.int .i64 0, .int .i64 2]]), .snap 0 w.heap.size w]) ?_
    · skip
      refine tm_se rfl ?_
      refine tm_nil ?_
      refine tn_blk ?_
      refine tn_code ?_
      refine t_reg ?_
      refine to_add rfl rfl (by decide) rfl ?_
      refine to_fixv (s := 71) (v' := .int .i64 1) rfl rfl ?_
      refine to_mv rfl rfl ?_
      refine to_nil ?_
      refine tn_unroll ?_
      refine t_seq ?_
      refine t_reg ?_
      refine to_lss rfl rfl rfl ?_
      refine to_fix (s := 57) (b' := true) rfl (rfl) ?_
      refine to_nil ?_
      refine tn_code ?_
      refine t_seq ?_
      refine t_ifT rfl ?_
      refine t_skip ?_
      refine tn_code ?_
      refine t_seq ?_
      refine t_blk ?_
      refine t_seq ?_
      refine t_reg ?_
      refine to_mv rfl rfl ?_
      refine to_ix (k := 1) rfl rfl rfl (by decide) (by decide) rfl ?_
      refine to_ldea (row := [.int .i64 2, .slice L.r1 3 L.c1]) rfl rfl rfl rfl ?_
      refine to_alloc rfl (fun b8 => ?_)
      refine to_as rfl rfl ?_
      first | refine to_st rfl rfl rfl rfl ?_ | refine to_ste rfl rfl (by assumption) rfl rfl ?_
      refine to_nil ?_
      refine tn_code ?_
      refine t_regM [9] [.own b8 (isC [.int .i64 2, .slice L.r1 3 L.c1] 93), .own b6 (isC [.func (.func 69) #[] #[], .func (.func 70) #[] #[], .func (.func 71) #[] #[]] 134)] rfl (by kernel_rfl) (by kernel_rfl) ?_
      refine tm_q ?e119 rfl ?q119 ?r119
      case q119 =>
        first | refine to_fa rfl rfl rfl (by simp only [Nat.reduceAdd]; rfl) rfl ?_ | refine to_fae rfl rfl rfl (by simp only [Nat.reduceAdd]; rfl) rfl ?_
        exact tmq_end
      refine tm_q ?e120 rfl ?q120 ?r120
      case q120 =>
        first | refine to_lds rfl rfl rfl ?_ | refine to_ldes rfl (by assumption) rfl rfl ?_
        exact tmq_end
      refine tm_q ?e121 rfl ?q121 ?r121
      case q121 =>
        refine to_sub rfl rfl (by decide) rfl ?_
        refine to_fixv (s := 63) (v' := .int .i64 1) rfl rfl ?_
        exact tmq_end
      refine tm_q ?e122 rfl ?q122 ?r122
      case q122 =>
        refine to_ixo (k := 1) rfl rfl (by decide) (by simp only [Nat.reduceAdd, Nat.reduceMul]; rfl) rfl ?_
        exact tmq_end
      refine tm_q ?e123 rfl ?q123 ?r123
      case q123 =>
        first | refine to_lds rfl rfl rfl ?_ | refine to_ldes rfl (by assumption) rfl rfl ?_
        exact tmq_end
      refine tm_q ?e124 rfl ?q124 ?r124
      case q124 =>
        refine to_mv rfl rfl ?_
        exact tmq_end
      refine tm_q ?e125 rfl ?q125 ?r125
      case q125 =>
        refine to_mv rfl rfl ?_
        exact tmq_end
      refine tm_q ?e126 rfl ?q126 ?r126
      case q126 =>
        first | refine to_fa rfl rfl rfl (by simp only [Nat.reduceAdd]; rfl) rfl ?_ | refine to_fae rfl rfl rfl (by simp only [Nat.reduceAdd]; rfl) rfl ?_
        exact tmq_end
      refine tm_q ?e127 rfl ?q127 ?r127
      case q127 =>
        first | refine to_lds rfl rfl rfl ?_ | refine to_ldes rfl (by assumption) rfl rfl ?_
        exact tmq_end
      refine tm_s rfl ?_ (fun _ h => by cases h) rfl
      refine to_callL [.own b12 (isC [.int .i64 4, .slice L.la 3 L.lc, .slice L.ga 3 L.gc, .slice na 3 nc, .slice sa 3 sc, .map (some r10), .slice ha 3 hc, .slice z0.1 2 z0.2] 131), .own r10 (isMb ([(0, 1), (0, 2), (1, 1), (1, 2), (2, 1), (2, 2)])), .row na 3 nc 3 1 (ints [132, 45, 7]), .row sa 3 sc 3 1 (ints [0, 1, 0]), .row ha 3 hc 3 1 (ints [-1, -1, -1]), .row z0.1 2 z0.2 150 2 ([[.int .i64 0, .int .i64 0], [.int .i64 0, .int .i64 2]]), .snap 0 w.heap.size w] (fun u1 : Unit => [.own b12 (isC [.int .i64 4, .slice L.la 3 L.lc, .slice L.ga 3 L.gc, .slice na 3 nc, .slice sa 3 sc, .map (some r10), .slice ha 3 hc, .slice z0.1 2 z0.2] 131), .own r10 (isMb ([(1, 1), (1, 2), (2, 1), (2, 2)])), .row na 3 nc 3 1 (ints [123, 45, 7]), .row sa 3 sc 3 1 (ints [2, 1, 0]), .row ha 3 hc 3 1 (ints [1, -1, -1]), .row z0.1 2 z0.2 150 2 ([[.int .i64 0, .int .i64 0], [.int .i64 0, .int .i64 2]]), .snap 0 w.heap.size w]) rfl rfl (fun R w9 hw => pf_mends L na nc sa sc ha hc r10 b12 w.heap.size w z0.1 2 z0.2 [[.int .i64 0, .int .i64 0], [.int .i64 0, .int .i64 2]] hk R w9 hw) rfl (fun u1 => ?_)
      refine to_nrm (A := [.own b12 (isC [.int .i64 4, .slice L.la 3 L.lc, .slice L.ga 3 L.gc, .slice na 3 nc, .slice sa 3 sc, .map (some r10), .slice ha 3 hc, .slice z0.1 2 z0.2] 131), .own r10 (isMb ([(1, 1), (1, 2), (2, 1), (2, 2)])), .row na 3 nc 3 1 (ints [123, 45, 7]), .row sa 3 sc 3 1 (ints [2, 1, 0]), .row ha 3 hc 3 1 (ints [1, -1, -1]), .row z0.1 2 z0.2 150 2 ([[.int .i64 0, .int .i64 0], [.int .i64 0, .int .i64 2]]), .snap 0 w.heap.size w]) ?_
      · skip
        refine tm_se rfl ?_
        refine tm_nil ?_
        refine tn_blk ?_
        refine tn_code ?_
        refine t_reg ?_
        refine to_add rfl rfl (by decide) rfl ?_
        refine to_fixv (s := 71) (v' := .int .i64 2) rfl rfl ?_
        refine to_mv rfl rfl ?_
        refine to_nil ?_
        refine tn_unroll ?_
        refine t_seq ?_
        refine t_reg ?_
        refine to_lss rfl rfl rfl ?_
        refine to_fix (s := 57) (b' := true) rfl (rfl) ?_
        refine to_nil ?_
        refine tn_code ?_
        refine t_seq ?_
        refine t_ifT rfl ?_
        refine t_skip ?_
        refine tn_code ?_
        refine t_seq ?_
        refine t_blk ?_
        refine t_seq ?_
        refine t_reg ?_
        refine to_mv rfl rfl ?_
        refine to_ix (k := 2) rfl rfl rfl (by decide) (by decide) rfl ?_
        refine to_ldea (row := [.int .i64 1, .slice L.r2 4 L.c2]) rfl rfl rfl rfl ?_
        refine to_alloc rfl (fun b8 => ?_)
        refine to_as rfl rfl ?_
        first | refine to_st rfl rfl rfl rfl ?_ | refine to_ste rfl rfl (by assumption) rfl rfl ?_
        refine to_nil ?_
        refine tn_code ?_
        refine t_regM [9] [.own b8 (isC [.int .i64 1, .slice L.r2 4 L.c2] 93), .own b6 (isC [.func (.func 69) #[] #[], .func (.func 70) #[] #[], .func (.func 71) #[] #[]] 134)] rfl (by kernel_rfl) (by kernel_rfl) ?_
        refine tm_q ?e128 rfl ?q128 ?r128
        case q128 =>
          first | refine to_fa rfl rfl rfl (by simp only [Nat.reduceAdd]; rfl) rfl ?_ | refine to_fae rfl rfl rfl (by simp only [Nat.reduceAdd]; rfl) rfl ?_
          exact tmq_end
        refine tm_q ?e129 rfl ?q129 ?r129
        case q129 =>
          first | refine to_lds rfl rfl rfl ?_ | refine to_ldes rfl (by assumption) rfl rfl ?_
          exact tmq_end
        refine tm_q ?e130 rfl ?q130 ?r130
        case q130 =>
          refine to_sub rfl rfl (by decide) rfl ?_
          refine to_fixv (s := 63) (v' := .int .i64 0) rfl rfl ?_
          exact tmq_end
        refine tm_q ?e131 rfl ?q131 ?r131
        case q131 =>
          refine to_ixo (k := 0) rfl rfl (by decide) (by simp only [Nat.reduceAdd, Nat.reduceMul]; rfl) rfl ?_
          exact tmq_end
        refine tm_q ?e132 rfl ?q132 ?r132
        case q132 =>
          first | refine to_lds rfl rfl rfl ?_ | refine to_ldes rfl (by assumption) rfl rfl ?_
          exact tmq_end
        refine tm_q ?e133 rfl ?q133 ?r133
        case q133 =>
          refine to_mv rfl rfl ?_
          exact tmq_end
        refine tm_q ?e134 rfl ?q134 ?r134
        case q134 =>
          refine to_mv rfl rfl ?_
          exact tmq_end
        refine tm_q ?e135 rfl ?q135 ?r135
        case q135 =>
          first | refine to_fa rfl rfl rfl (by simp only [Nat.reduceAdd]; rfl) rfl ?_ | refine to_fae rfl rfl rfl (by simp only [Nat.reduceAdd]; rfl) rfl ?_
          exact tmq_end
        refine tm_q ?e136 rfl ?q136 ?r136
        case q136 =>
          first | refine to_lds rfl rfl rfl ?_ | refine to_ldes rfl (by assumption) rfl rfl ?_
          exact tmq_end
        refine tm_s rfl ?_ (fun _ h => by cases h) rfl
        refine to_callL [.own b12 (isC [.int .i64 4, .slice L.la 3 L.lc, .slice L.ga 3 L.gc, .slice na 3 nc, .slice sa 3 sc, .map (some r10), .slice ha 3 hc, .slice z0.1 2 z0.2] 131), .own r10 (isMb ([(1, 1), (1, 2), (2, 1), (2, 2)])), .row na 3 nc 3 1 (ints [123, 45, 7]), .row sa 3 sc 3 1 (ints [2, 1, 0]), .row ha 3 hc 3 1 (ints [1, -1, -1]), .row z0.1 2 z0.2 150 2 ([[.int .i64 0, .int .i64 0], [.int .i64 0, .int .i64 2]]), .snap 0 w.heap.size w] (fun u2 : Unit => [.own b12 (isC [.int .i64 4, .slice L.la 3 L.lc, .slice L.ga 3 L.gc, .slice na 3 nc, .slice sa 3 sc, .map (some r10), .slice ha 3 hc, .slice z0.1 2 z0.2] 131), .own r10 (isMb (psF)), .row na 3 nc 3 1 (ints [123, 45, 7]), .row sa 3 sc 3 1 (ints [2, 1, 0]), .row ha 3 hc 3 1 (ints [1, -1, -1]), .row z0.1 2 z0.2 150 2 ([[.int .i64 0, .int .i64 0], [.int .i64 0, .int .i64 2]]), .snap 0 w.heap.size w]) rfl rfl (fun R w9 hw => pf_reads2 L na nc sa sc ha hc r10 b12 w.heap.size w z0.1 2 z0.2 [[.int .i64 0, .int .i64 0], [.int .i64 0, .int .i64 2]] hk R w9 hw) rfl (fun u2 => ?_)
        refine to_nrm (A := [.own b12 (isC [.int .i64 4, .slice L.la 3 L.lc, .slice L.ga 3 L.gc, .slice na 3 nc, .slice sa 3 sc, .map (some r10), .slice ha 3 hc, .slice z0.1 2 z0.2] 131), .own r10 (isMb (psF)), .row na 3 nc 3 1 (ints [123, 45, 7]), .row sa 3 sc 3 1 (ints [2, 1, 0]), .row ha 3 hc 3 1 (ints [1, -1, -1]), .row z0.1 2 z0.2 150 2 ([[.int .i64 0, .int .i64 0], [.int .i64 0, .int .i64 2]]), .snap 0 w.heap.size w]) ?_
        · skip
          refine tm_se rfl ?_
          refine tm_nil ?_
          refine tn_blk ?_
          refine tn_code ?_
          refine t_reg ?_
          refine to_add rfl rfl (by decide) rfl ?_
          refine to_fixv (s := 71) (v' := .int .i64 3) rfl rfl ?_
          refine to_mv rfl rfl ?_
          refine to_nil ?_
          refine tn_unroll ?_
          refine t_seq ?_
          refine t_reg ?_
          refine to_lss rfl rfl rfl ?_
          refine to_fix (s := 57) (b' := false) rfl (rfl) ?_
          refine to_nil ?_
          refine tn_code ?_
          refine t_seq ?_
          refine t_ifF rfl ?_
          refine t_exit ?_
          refine tx_code ?_
          refine tx_inv ?_
          refine tx_blk ?_
          refine tn_code ?_
          refine t_seq ?_
          refine t_reg ?_
          refine to_mv rfl rfl ?_
          refine to_as rfl rfl ?_
          refine to_nil ?_
          refine tn_code ?_
          refine t_ret1 rfl rfl (res_tmp rfl) (fun w' s => ?_)
          exact ⟨⟨na, nc, sa, sc, r10, ha, hc, z0.1, 2, z0.2⟩, b12, rfl, rb_own0 s, mbB_own s, ro_row s⟩

end Go.Proofs


namespace Go.Proofs
open Go Go.Sx Go.RowKit

theorem pgF_of {w0 w w1 : World} {H : List Seg} {L : PgL} {A : PgA} {bp lo : Nat} (s : St w0 H w) (h : PgF L A bp w1 lo w1.heap.size) (hlo : w0.heap.size ≤ lo) [hs : SnapAt w1 H lo w1.heap.size] : PgF L A bp w 0 w.heap.size := by
  have hb := s.ok _ hs.mem
  have hle := s.le _ hs.mem
  simp only [Seg.hi] at hle
  refine ⟨⟨Nat.zero_le _, Nat.lt_of_lt_of_le h.bp.hi hle, ?_⟩, ⟨Nat.zero_le _, Nat.lt_of_lt_of_le h.rd.hi hle, ?_⟩, h.st.mono (Nat.zero_le _) hle hb⟩
  · obtain ⟨t, ht⟩ := h.bp.here
    exact ⟨t, (hb bp h.bp.lo h.bp.hi).trans ht⟩
  · obtain ⟨o, h1, h2⟩ := h.rd.here
    exact ⟨o, (hb A.r h.rd.lo h.rd.hi).trans h1, h2⟩

set_option maxRecDepth 20000 in
theorem pf_Pass (L : PgL) (w : World) (hk : PgOk L w 0 w.heap.size) : Calls Tryz.prog 16 #[pgbV L] w (RetV w (.tuple #[.bool true, .int .i64 0])) := by
  refine calls_T0 (av := [_]) Tryz.func16 rfl rfl rfl ?_
  refine t_seq ?_
  refine t_reg ?_
  refine to_box rfl rfl (fun b1 => ?_)
  refine to_as rfl rfl ?_
  refine to_as rfl rfl ?_
  refine to_nil ?_
  refine tn_code ?_
  refine t_seq ?_
  refine t_seq ?_
  refine t_reg ?_
  first | refine to_lda rfl rfl rfl ?_ | refine to_ldea rfl (by assumption) rfl rfl ?_
  refine to_call0 rfl rfl (fun w s => pf_isPage L w (hk.up (belowH_of s))) rfl ?_
  refine to_fix (s := 5) (b' := true) rfl (rfl) ?_
  refine to_not rfl rfl ?_
  refine to_nil ?_
  refine tn_code ?_
  refine t_ifF rfl ?_
  refine t_skip ?_
  refine tn_code ?_
  refine t_seq ?_
  refine t_reg ?_
  first | refine to_lda rfl rfl rfl ?_ | refine to_ldea rfl (by assumption) rfl rfl ?_
  refine to_callR rfl rfl (fun w s => pf_pageOf L w (hk.up (belowH_of s))) rfl (fun v8 lo8 w8 hlo8 hR8 => ?_)
  obtain ⟨A, bp, rfl, hF⟩ := hR8
  refine to_call0 rfl rfl (fun w s => pf_passes L A bp w (pgF_of s hF hlo8)) rfl ?_
  refine to_as rfl rfl ?_
  refine to_as rfl rfl ?_
  refine to_nil ?_
  refine tn_code ?_
  refine t_ret2 rfl rfl (res_tmp rfl) (res_tmp rfl) (fun w' s => ?_)
  rfl

end Go.Proofs


namespace Go.Proofs
open Go Go.Sx Go.RowKit

abbrev ruV (u : Int) : Value := .agg [.int .i64 u].toArray
set_option maxRecDepth 20000 in
theorem rn_isRule (x : Int) (w : World)  : Calls Tryz.prog 101 #[(.int .i64 x)] w (RetV w (.bool (inB x 1 4))) := by
  refine calls_T0 (av := [_]) Tryz.func101 rfl rfl rfl ?_
  refine t_seq ?_
  refine t_reg ?_
  refine to_as rfl rfl ?_
  refine to_nil ?_
  refine tn_code ?_
  refine t_seq ?_
  refine t_reg ?_
  refine to_mv rfl rfl ?_
  refine to_geq rfl rfl rfl ?_
  refine to_mv rfl rfl ?_
  refine to_gs rfl rfl rfl (fun h1 => ?_) (fun h1 => ?_)
  · try simp only [decide_eq_true_eq, decide_eq_false_iff_not, Bool.not_eq_true', Bool.not_eq_false', Int.not_lt, Int.not_le, ne_eq, Decidable.not_not] at h1
    try have h1b := inB_iff.1 h1
    refine to_gt rfl rfl ?_
    refine to_mv rfl rfl ?_
    refine to_gt rfl rfl ?_
    refine to_leq rfl rfl rfl ?_
    refine to_pkT rfl rfl rfl ?_
    refine to_as rfl rfl ?_
    refine to_nil ?_
    refine tn_code ?_
    refine t_ret1 rfl rfl (res_tmp rfl) (fun w' s => ?_)
    first | (simp_all [inB]; done) | (simp [inB]; omega)
  · try simp only [decide_eq_true_eq, decide_eq_false_iff_not, Bool.not_eq_true', Bool.not_eq_false', Int.not_lt, Int.not_le, ne_eq, Decidable.not_not] at h1
    try have h1b := inB_iff.1 h1
    refine to_gf rfl rfl rfl rfl ?_
    refine to_gf rfl rfl rfl rfl ?_
    refine to_pkF rfl rfl rfl ?_
    refine to_as rfl rfl ?_
    refine to_nil ?_
    refine tn_code ?_
    refine t_ret1 rfl rfl (res_tmp rfl) (fun w' s => ?_)
    first | (simp_all [inB]; done) | (simp [inB]; omega)

set_option maxRecDepth 20000 in
theorem rn_down (u v : Int) (w : World) (hu : 1 ≤ u ∧ u ≤ 8796093022208) (hv : -8796093022208 ≤ v ∧ v ≤ 8796093022208) : Calls Tryz.prog 103 #[ruV u, (.int .i64 v)] w (RetV w (.int .i64 (v / u))) := by
  have hu0 : 0 < u := by omega
  have hb := tdiv_bd v (B := 8796093022208) hu0 hu.2 hv
  refine calls_T0 (av := [_, _]) Tryz.func103 rfl rfl rfl ?_
  refine t_seq ?_
  refine t_reg ?_
  refine to_box rfl rfl (fun b2 => ?_)
  refine to_as rfl rfl ?_
  refine to_nil ?_
  refine tn_code ?_
  refine t_seq ?_
  refine t_reg ?_
  refine to_mv rfl rfl ?_
  first | refine to_fa rfl rfl rfl (by simp only [Nat.reduceAdd]; rfl) rfl ?_ | refine to_fae rfl rfl rfl (by simp only [Nat.reduceAdd]; rfl) rfl ?_
  first | refine to_lds rfl rfl rfl ?_ | refine to_ldes rfl (by assumption) rfl rfl ?_
  refine to_quoE rfl rfl (by omega) (wrap_id (by omega)) rfl ?_
  refine to_as rfl rfl ?_
  refine to_nil ?_
  refine tn_code ?_
  refine t_seq ?_
  refine t_seq ?_
  refine t_reg ?_
  refine to_mv rfl rfl ?_
  first | refine to_fa rfl rfl rfl (by simp only [Nat.reduceAdd]; rfl) rfl ?_ | refine to_fae rfl rfl rfl (by simp only [Nat.reduceAdd]; rfl) rfl ?_
  first | refine to_lds rfl rfl rfl ?_ | refine to_ldes rfl (by assumption) rfl rfl ?_
  refine to_mul rfl rfl (by first | omega | exact mul_ok (by omega) (by omega) (by omega) (by omega)) rfl ?_
  refine to_mv rfl rfl ?_
  refine to_gtr rfl rfl rfl ?_
  refine to_nil ?_
  refine tn_code ?_
  refine t_if rfl (fun h1 => ?_) (fun h1 => ?_)
  · try simp only [decide_eq_true_eq, decide_eq_false_iff_not, Bool.not_eq_true', Bool.not_eq_false', Int.not_lt, Int.not_le, ne_eq, Decidable.not_not] at h1
    try have h1b := inB_iff.1 h1
    refine t_reg ?_
    refine to_mv rfl rfl ?_
    refine to_sub rfl rfl (by omega) rfl ?_
    refine to_as rfl rfl ?_
    refine to_nil ?_
    refine tn_code ?_
    refine t_seq ?_
    refine t_reg ?_
    refine to_mv rfl rfl ?_
    refine to_as rfl rfl ?_
    refine to_nil ?_
    refine tn_code ?_
    refine t_ret1 rfl rfl (res_tmp rfl) (fun w' s => ?_)
    exact congrArg (Value.int .i64) (by rcases tdiv_cases v hu0 with h | h <;> omega)
  · try simp only [decide_eq_true_eq, decide_eq_false_iff_not, Bool.not_eq_true', Bool.not_eq_false', Int.not_lt, Int.not_le, ne_eq, Decidable.not_not] at h1
    try have h1b := inB_iff.1 h1
    refine t_skip ?_
    refine tn_code ?_
    refine t_seq ?_
    refine t_reg ?_
    refine to_mv rfl rfl ?_
    refine to_as rfl rfl ?_
    refine to_nil ?_
    refine tn_code ?_
    refine t_ret1 rfl rfl (res_tmp rfl) (fun w' s => ?_)
    exact congrArg (Value.int .i64) (by rcases tdiv_cases v hu0 with h | h <;> omega)

set_option maxRecDepth 20000 in
theorem rn_near (u v : Int) (w : World) (hu : 1 ≤ u ∧ u ≤ 1048576) (hv : -1099511627776 ≤ v ∧ v ≤ 1099511627776) : Calls Tryz.prog 105 #[ruV u, (.int .i64 v)] w (RetV w (.int .i64 ((2 * v + u) / (2 * u)))) := by
  refine calls_T0 (av := [_, _]) Tryz.func105 rfl rfl rfl ?_
  refine t_seq ?_
  refine t_reg ?_
  refine to_box rfl rfl (fun b2 => ?_)
  refine to_as rfl rfl ?_
  refine to_nil ?_
  refine tn_code ?_
  refine t_seq ?_
  refine t_reg ?_
  first | refine to_fa rfl rfl rfl (by simp only [Nat.reduceAdd]; rfl) rfl ?_ | refine to_fae rfl rfl rfl (by simp only [Nat.reduceAdd]; rfl) rfl ?_
  first | refine to_lds rfl rfl rfl ?_ | refine to_ldes rfl (by assumption) rfl rfl ?_
  refine to_mul rfl rfl (by first | omega | exact mul_ok (by omega) (by omega) (by omega) (by omega)) rfl ?_
  refine to_bs rfl rfl ?_
  refine to_mv rfl rfl ?_
  refine to_mul rfl rfl (by first | omega | exact mul_ok (by omega) (by omega) (by omega) (by omega)) rfl ?_
  first | refine to_fa rfl rfl rfl (by simp only [Nat.reduceAdd]; rfl) rfl ?_ | refine to_fae rfl rfl rfl (by simp only [Nat.reduceAdd]; rfl) rfl ?_
  first | refine to_lds rfl rfl rfl ?_ | refine to_ldes rfl (by assumption) rfl rfl ?_
  refine to_add rfl rfl (by omega) rfl ?_
  refine to_call0 rfl rfl (fun w s => rn_down _ _ w (by first | assumption | omega) (by first | assumption | omega)) rfl ?_
  refine to_as rfl rfl ?_
  refine to_nil ?_
  refine tn_code ?_
  refine t_ret1 rfl rfl (res_tmp rfl) (fun w' s => ?_)
  rfl

abbrev rulesV (u : Int) : Value := .agg [.nilFunc, .func (.func 103) [ruV u].toArray ([] : List Value).toArray, .func (.func 104) [ruV u].toArray ([] : List Value).toArray, .func (.func 105) [ruV u].toArray ([] : List Value).toArray, .func (.func 106) [ruV u].toArray ([] : List Value).toArray].toArray

set_option maxRecDepth 20000 in
theorem rn_rules (u : Int) (w : World)  : Calls Tryz.prog 102 #[ruV u] w (RetV w (rulesV u)) := by
  refine calls_T0 (av := [_]) Tryz.func102 rfl rfl rfl ?_
  refine t_seq ?_
  refine t_reg ?_
  refine to_box rfl rfl (fun b1 => ?_)
  refine to_alloc rfl (fun b2 => ?_)
  refine to_nil ?_
  refine tn_code ?_
  refine t_seq ?_
  refine t_reg ?_
  first | refine to_lda rfl rfl rfl ?_ | refine to_ldea rfl (by assumption) rfl rfl ?_
  refine to_mf rfl rfl rfl ?_
  first | refine to_lda rfl rfl rfl ?_ | refine to_ldea rfl (by assumption) rfl rfl ?_
  refine to_mf rfl rfl rfl ?_
  first | refine to_lda rfl rfl rfl ?_ | refine to_ldea rfl (by assumption) rfl rfl ?_
  refine to_mf rfl rfl rfl ?_
  first | refine to_lda rfl rfl rfl ?_ | refine to_ldea rfl (by assumption) rfl rfl ?_
  refine to_mf rfl rfl rfl ?_
  refine to_ba1 rfl rfl rfl ?_
  first | refine to_st rfl rfl rfl rfl ?_ | refine to_ste rfl rfl (by assumption) rfl rfl ?_
  refine to_nil ?_
  refine tn_code ?_
  refine t_ret1 rfl rfl (res_cellA rfl rfl) (fun w' s => ?_)
  rfl

set_option maxRecDepth 20000 in
theorem rn_To (v u : Int) (w : World) (hu : 1 ≤ u ∧ u ≤ 1048576) (hv : -1099511627776 ≤ v ∧ v ≤ 1099511627776) : Calls Tryz.prog 96 #[(.int .i64 v), (.int .i64 u), (.int .i64 3)] w (RetV w (.tuple #[.int .i64 ((2 * v + u) / (2 * u)), .int .i64 0])) := by
  refine calls_T0 (av := [_, _, _]) Tryz.func96 rfl rfl rfl ?_
  refine t_seq ?_
  refine t_reg ?_
  refine to_as rfl rfl ?_
  refine to_as rfl rfl ?_
  refine to_nil ?_
  refine tn_code ?_
  refine t_seq ?_
  refine t_seq ?_
  refine t_reg ?_
  refine to_mv rfl rfl ?_
  refine to_call0 rfl rfl (fun w s => rn_in _ _ _ w) rfl ?_
  refine to_fix (s := 9) (b' := true) rfl (inB_iff.2 (by omega)) ?_
  refine to_not rfl rfl ?_
  refine to_mv rfl rfl ?_
  refine to_gt rfl rfl ?_
  refine to_mv rfl rfl ?_
  refine to_gt rfl rfl ?_
  refine to_call0 rfl rfl (fun w s => rn_in _ _ _ w) rfl ?_
  refine to_fix (s := 13) (b' := true) rfl (inB_iff.2 (by omega)) ?_
  refine to_gt rfl rfl ?_
  refine to_not rfl rfl ?_
  refine to_pkF rfl rfl rfl ?_
  refine to_mv rfl rfl ?_
  refine to_gt rfl rfl ?_
  refine to_mv rfl rfl ?_
  refine to_gt rfl rfl ?_
  refine to_call0 rfl rfl (fun w s => rn_isRule _ w) rfl ?_
  refine to_fix (s := 18) (b' := true) rfl (rfl) ?_
  refine to_gt rfl rfl ?_
  refine to_not rfl rfl ?_
  refine to_pkF rfl rfl rfl ?_
  refine to_nil ?_
  refine tn_code ?_
  refine t_ifF rfl ?_
  refine t_skip ?_
  refine tn_code ?_
  refine t_seq ?_
  refine t_reg ?_
  refine to_mv rfl rfl ?_
  refine to_bs rfl rfl ?_
  refine to_call0 rfl rfl (fun w s => rn_rules _ w) rfl ?_
  refine to_mv rfl rfl ?_
  refine to_ixa (k := 3) rfl rfl rfl (by decide) rfl rfl ?_
  refine to_mv rfl rfl ?_
  refine to_call0 rfl rfl (fun w s => rn_near u v w hu hv) rfl ?_
  refine to_as rfl rfl ?_
  refine to_as rfl rfl ?_
  refine to_nil ?_
  refine tn_code ?_
  refine t_ret2 rfl rfl (res_tmp rfl) (res_tmp rfl) (fun w' s => ?_)
  rfl

set_option maxRecDepth 20000 in
theorem st_isRule (x : Int) (w : World)  : Calls Tryz.prog 50 #[(.int .i64 x)] w (RetV w (.bool (inB x 1 4))) := by
  refine calls_T0 (av := [_]) Tryz.func50 rfl rfl rfl ?_
  refine t_seq ?_
  refine t_reg ?_
  refine to_as rfl rfl ?_
  refine to_nil ?_
  refine tn_code ?_
  refine t_seq ?_
  refine t_reg ?_
  refine to_mv rfl rfl ?_
  refine to_geq rfl rfl rfl ?_
  refine to_mv rfl rfl ?_
  refine to_gs rfl rfl rfl (fun h1 => ?_) (fun h1 => ?_)
  · try simp only [decide_eq_true_eq, decide_eq_false_iff_not, Bool.not_eq_true', Bool.not_eq_false', Int.not_lt, Int.not_le, ne_eq, Decidable.not_not] at h1
    try have h1b := inB_iff.1 h1
    refine to_gt rfl rfl ?_
    refine to_mv rfl rfl ?_
    refine to_gt rfl rfl ?_
    refine to_leq rfl rfl rfl ?_
    refine to_pkT rfl rfl rfl ?_
    refine to_as rfl rfl ?_
    refine to_nil ?_
    refine tn_code ?_
    refine t_ret1 rfl rfl (res_tmp rfl) (fun w' s => ?_)
    first | (simp_all [inB]; done) | (simp [inB]; omega)
  · try simp only [decide_eq_true_eq, decide_eq_false_iff_not, Bool.not_eq_true', Bool.not_eq_false', Int.not_lt, Int.not_le, ne_eq, Decidable.not_not] at h1
    try have h1b := inB_iff.1 h1
    refine to_gf rfl rfl rfl rfl ?_
    refine to_gf rfl rfl rfl rfl ?_
    refine to_pkF rfl rfl rfl ?_
    refine to_as rfl rfl ?_
    refine to_nil ?_
    refine tn_code ?_
    refine t_ret1 rfl rfl (res_tmp rfl) (fun w' s => ?_)
    first | (simp_all [inB]; done) | (simp [inB]; omega)

abbrev stV (va : Option Addr) (vc : Nat) : Value := .agg [.slice va 7 vc, .int .i64 3, .int .i64 10].toArray
abbrev stC (va : Option Addr) (vc : Nat) : List Value := [.slice va 7 vc, .int .i64 3, .int .i64 10]
abbrev tblV (va : Option Addr) (vc r : Nat) : Value := .agg [.slice va 7 vc, .int .i64 3, .int .i64 10, .slice none 0 0, .map (some r)].toArray
abbrev tblC (va : Option Addr) (vc r : Nat) : List Value := [.slice va 7 vc, .int .i64 3, .int .i64 10, .slice none 0 0, .map (some r)]
def tbA : List Sp := [(0, 0), (10, 10), (40, 40), (90, 91), (160, 160), (250, 250), (360, 360)]
theorem tbA_b : ∀ s ∈ tbA, 0 ≤ s.1 ∧ s.1 ≤ s.2 ∧ s.2 ≤ 360 := by decide
/-- The chapter's table a, anew in memory. -/
def RStA : Nat → World → Value → Prop := fun lo w1 v => ∃ va vc, v = stV va vc ∧ Ro w1 lo w1.heap.size va 7 vc 2 (spans tbA)

set_option maxRecDepth 20000 in
theorem l5_one (n : Int) (w : World)  : Calls Tryz.prog 30 #[(.int .i64 n)] w (RetV w (spanV (n, n))) := by
  refine calls_T0 (av := [_]) Tryz.func30 rfl rfl rfl ?_
  refine t_seq ?_
  refine t_reg ?_
  refine to_alloc rfl (fun b2 => ?_)
  refine to_nil ?_
  refine tn_code ?_
  refine t_seq ?_
  refine t_reg ?_
  refine to_mv rfl rfl ?_
  refine to_mv rfl rfl ?_
  refine to_bs rfl rfl ?_
  first | refine to_st rfl rfl rfl rfl ?_ | refine to_ste rfl rfl (by assumption) rfl rfl ?_
  refine to_nil ?_
  refine tn_code ?_
  refine t_ret1 rfl rfl (res_cellA rfl rfl) (fun w' s => ?_)
  rfl

set_option maxRecDepth 20000 in
theorem l5_A  (w : World)  : Calls Tryz.prog 13 #[] w (Ret w (RStA)) := by
  refine calls_T (av := []) Tryz.func13 rfl rfl rfl ?_
  refine t_seq ?_
  refine t_reg ?_
  refine to_alloc rfl (fun b0 => ?_)
  refine to_nil ?_
  refine tn_code ?_
  refine t_seq ?_
  refine t_reg ?_
  refine to_call0 rfl rfl (fun w s => l5_one _ w) rfl ?_
  refine to_call0 rfl rfl (fun w s => l5_one _ w) rfl ?_
  refine to_call0 rfl rfl (fun w s => l5_one _ w) rfl ?_
  refine to_bs rfl rfl ?_
  refine to_call0 rfl rfl (fun w s => l5_one _ w) rfl ?_
  refine to_call0 rfl rfl (fun w s => l5_one _ w) rfl ?_
  refine to_call0 rfl rfl (fun w s => l5_one _ w) rfl ?_
  refine to_bsl rfl rfl rfl rfl (fun a8 => ?_)
  refine to_bs rfl rfl ?_
  first | refine to_st rfl rfl rfl rfl ?_ | refine to_ste rfl rfl (by assumption) rfl rfl ?_
  refine to_nil ?_
  refine tn_code ?_
  refine t_ret1 rfl rfl (res_cellA rfl rfl) (fun w' s => ?_)
  exact ⟨_, _, rfl, ro_row s⟩

set_option maxRecDepth 20000 in
theorem st_low (x : Sp) (w : World)  : Calls Tryz.prog 98 #[spanV x] w (RetV w (.int .i64 x.1)) := by
  refine calls_T0 (av := [_]) Tryz.func98 rfl rfl rfl ?_
  refine t_seq ?_
  refine t_reg ?_
  refine to_box rfl rfl (fun b1 => ?_)
  refine to_as rfl rfl ?_
  refine to_nil ?_
  refine tn_code ?_
  refine t_seq ?_
  refine t_reg ?_
  first | refine to_fa rfl rfl rfl (by simp only [Nat.reduceAdd]; rfl) rfl ?_ | refine to_fae rfl rfl rfl (by simp only [Nat.reduceAdd]; rfl) rfl ?_
  first | refine to_lds rfl rfl rfl ?_ | refine to_ldes rfl (by assumption) rfl rfl ?_
  refine to_as rfl rfl ?_
  refine to_nil ?_
  refine tn_code ?_
  refine t_ret1 rfl rfl (res_tmp rfl) (fun w' s => ?_)
  rfl

set_option maxRecDepth 20000 in
theorem st_high (x : Sp) (w : World)  : Calls Tryz.prog 99 #[spanV x] w (RetV w (.int .i64 x.2)) := by
  refine calls_T0 (av := [_]) Tryz.func99 rfl rfl rfl ?_
  refine t_seq ?_
  refine t_reg ?_
  refine to_box rfl rfl (fun b1 => ?_)
  refine to_as rfl rfl ?_
  refine to_nil ?_
  refine tn_code ?_
  refine t_seq ?_
  refine t_reg ?_
  first | refine to_fa rfl rfl rfl (by simp only [Nat.reduceAdd]; rfl) rfl ?_ | refine to_fae rfl rfl rfl (by simp only [Nat.reduceAdd]; rfl) rfl ?_
  first | refine to_lds rfl rfl rfl ?_ | refine to_ldes rfl (by assumption) rfl rfl ?_
  refine to_as rfl rfl ?_
  refine to_nil ?_
  refine tn_code ?_
  refine t_ret1 rfl rfl (res_tmp rfl) (fun w' s => ?_)
  rfl

set_option maxRecDepth 20000 in
theorem st_end0 (va : Option Addr) (vc r : Nat) (k : Nat) (x : Sp) (w : World) (hva : Ro w 0 w.heap.size va 7 vc 2 (spans tbA)) (hx : (spans tbA)[k]? = some (spanC x)) (hk : k < 7) : Calls Tryz.prog 94 #[tblV va vc r, (.int .i64 (k : Int)), (.int .i64 0)] w (RetV w (.int .i64 x.1)) := by
  refine calls_T0 (av := [_, _, _]) Tryz.func94 rfl rfl rfl ?_
  refine t_seq ?_
  refine t_reg ?_
  refine to_box rfl rfl (fun b3 => ?_)
  refine to_as rfl rfl ?_
  refine to_nil ?_
  refine tn_code ?_
  refine t_seq ?_
  refine t_reg ?_
  refine to_ba rfl rfl rfl ?_
  refine to_alloc rfl (fun b7 => ?_)
  first | refine to_st rfl rfl rfl rfl ?_ | refine to_ste rfl rfl (by assumption) rfl rfl ?_
  refine to_nil ?_
  refine tn_code ?_
  refine t_seq ?_
  refine t_regD rfl (by kernel_rfl) (by kernel_rfl) ?_
  refine to_mv rfl rfl ?_
  refine to_ixo (k := 0) rfl rfl (by decide) (by simp only [Nat.reduceAdd, Nat.reduceMul]; rfl) rfl ?_
  first | refine to_lds rfl rfl rfl ?_ | refine to_ldes rfl (by assumption) rfl rfl ?_
  first | refine to_fa rfl rfl rfl (by simp only [Nat.reduceAdd]; rfl) rfl ?_ | refine to_fae rfl rfl rfl (by simp only [Nat.reduceAdd]; rfl) rfl ?_
  first | refine to_fa rfl rfl rfl (by simp only [Nat.reduceAdd]; rfl) rfl ?_ | refine to_fae rfl rfl rfl (by simp only [Nat.reduceAdd]; rfl) rfl ?_
  first | refine to_lds rfl rfl rfl ?_ | refine to_ldes rfl (by assumption) rfl rfl ?_
  refine to_mv rfl rfl ?_
  first | refine to_ix rfl rfl rfl (by first | omega | decide) (by first | omega | decide) rfl ?_ | refine to_ixi rfl rfl rfl (by omega) (by omega) (by omega) rfl ?_
  first | refine to_lda rfl rfl rfl ?_ | refine to_ldea rfl (by assumption) rfl rfl ?_
  refine to_call0 rfl rfl (fun w s => st_low x w) rfl ?_
  refine to_as rfl rfl ?_
  refine to_nil ?_
  refine tn_code ?_
  refine t_ret1 rfl rfl (res_tmp rfl) (fun w' s => ?_)
  rfl

set_option maxRecDepth 20000 in
theorem st_end1 (va : Option Addr) (vc r : Nat) (k : Nat) (x : Sp) (w : World) (hva : Ro w 0 w.heap.size va 7 vc 2 (spans tbA)) (hx : (spans tbA)[k]? = some (spanC x)) (hk : k < 7) : Calls Tryz.prog 94 #[tblV va vc r, (.int .i64 (k : Int)), (.int .i64 1)] w (RetV w (.int .i64 x.2)) := by
  refine calls_T0 (av := [_, _, _]) Tryz.func94 rfl rfl rfl ?_
  refine t_seq ?_
  refine t_reg ?_
  refine to_box rfl rfl (fun b3 => ?_)
  refine to_as rfl rfl ?_
  refine to_nil ?_
  refine tn_code ?_
  refine t_seq ?_
  refine t_reg ?_
  refine to_ba rfl rfl rfl ?_
  refine to_alloc rfl (fun b7 => ?_)
  first | refine to_st rfl rfl rfl rfl ?_ | refine to_ste rfl rfl (by assumption) rfl rfl ?_
  refine to_nil ?_
  refine tn_code ?_
  refine t_seq ?_
  refine t_regD rfl (by kernel_rfl) (by kernel_rfl) ?_
  refine to_mv rfl rfl ?_
  refine to_ixo (k := 1) rfl rfl (by decide) (by simp only [Nat.reduceAdd, Nat.reduceMul]; rfl) rfl ?_
  first | refine to_lds rfl rfl rfl ?_ | refine to_ldes rfl (by assumption) rfl rfl ?_
  first | refine to_fa rfl rfl rfl (by simp only [Nat.reduceAdd]; rfl) rfl ?_ | refine to_fae rfl rfl rfl (by simp only [Nat.reduceAdd]; rfl) rfl ?_
  first | refine to_fa rfl rfl rfl (by simp only [Nat.reduceAdd]; rfl) rfl ?_ | refine to_fae rfl rfl rfl (by simp only [Nat.reduceAdd]; rfl) rfl ?_
  first | refine to_lds rfl rfl rfl ?_ | refine to_ldes rfl (by assumption) rfl rfl ?_
  refine to_mv rfl rfl ?_
  first | refine to_ix rfl rfl rfl (by first | omega | decide) (by first | omega | decide) rfl ?_ | refine to_ixi rfl rfl rfl (by omega) (by omega) (by omega) rfl ?_
  first | refine to_lda rfl rfl rfl ?_ | refine to_ldea rfl (by assumption) rfl rfl ?_
  refine to_call0 rfl rfl (fun w s => st_high x w) rfl ?_
  refine to_as rfl rfl ?_
  refine to_nil ?_
  refine tn_code ?_
  refine t_ret1 rfl rfl (res_tmp rfl) (fun w' s => ?_)
  rfl

end Go.Proofs


namespace Go.Proofs
open Go Go.Sx Go.RowKit

set_option maxRecDepth 20000 in
theorem st_sum (x y : Int) (a : Option Addr) (c : Nat) (w : World) (hr : Ro w 0 w.heap.size a 2 c 1 (ints [x, y])) (hx : 0 ≤ x ∧ x ≤ 1000000) (hy : 0 ≤ y ∧ y ≤ 1000000) : Calls Tryz.prog 97 #[.slice a 2 c] w (RetV w (.int .i64 (x + y))) := by
  refine calls_T0 (av := [_]) Tryz.func97 rfl rfl rfl ?_
  refine t_seq ?_
  refine t_reg ?_
  refine to_as rfl rfl ?_
  refine to_nil ?_
  refine tn_code ?_
  refine t_seq ?_
  refine t_reg ?_
  refine to_as rfl rfl ?_
  refine to_nil ?_
  refine tn_code ?_
  refine t_seq ?_
  refine t_seq ?_
  refine t_reg ?_
  refine to_mv rfl rfl ?_
  refine to_lenS rfl rfl ?_
  refine to_mv rfl rfl ?_
  refine to_nil ?_
  refine tn_code ?_
  refine t_blk ?_
  refine t_unrollN 3 ?_
  refine t_seq ?_
  refine t_reg ?_
  refine to_lss rfl rfl rfl ?_
  refine to_fix (s := 9) (b' := true) rfl (rfl) ?_
  refine to_nil ?_
  refine tn_code ?_
  refine t_seq ?_
  refine t_ifT rfl ?_
  refine t_skip ?_
  refine tn_code ?_
  refine t_seq ?_
  refine t_blk ?_
  refine t_seq ?_
  refine t_reg ?_
  refine to_ix (k := 0) rfl rfl rfl (by decide) (by decide) rfl ?_
  refine to_ldes (row := [.int .i64 x]) rfl rfl rfl rfl ?_
  refine to_as rfl rfl ?_
  refine to_nil ?_
  refine tn_code ?_
  refine t_reg ?_
  refine to_mv rfl rfl ?_
  refine to_mv rfl rfl ?_
  refine to_add rfl rfl (by omega) rfl ?_
  refine to_as rfl rfl ?_
  refine to_nil ?_
  refine tn_blk ?_
  refine tn_code ?_
  refine t_reg ?_
  refine to_add rfl rfl (by decide) rfl ?_
  refine to_fixv (s := 15) (v' := .int .i64 1) rfl rfl ?_
  refine to_mv rfl rfl ?_
  refine to_nil ?_
  refine tn_unroll ?_
  refine t_seq ?_
  refine t_reg ?_
  refine to_lss rfl rfl rfl ?_
  refine to_fix (s := 9) (b' := true) rfl (rfl) ?_
  refine to_nil ?_
  refine tn_code ?_
  refine t_seq ?_
  refine t_ifT rfl ?_
  refine t_skip ?_
  refine tn_code ?_
  refine t_seq ?_
  refine t_blk ?_
  refine t_seq ?_
  refine t_reg ?_
  refine to_ix (k := 1) rfl rfl rfl (by decide) (by decide) rfl ?_
  refine to_ldes (row := [.int .i64 y]) rfl rfl rfl rfl ?_
  refine to_as rfl rfl ?_
  refine to_nil ?_
  refine tn_code ?_
  refine t_reg ?_
  refine to_mv rfl rfl ?_
  refine to_mv rfl rfl ?_
  refine to_add rfl rfl (by omega) rfl ?_
  refine to_as rfl rfl ?_
  refine to_nil ?_
  refine tn_blk ?_
  refine tn_code ?_
  refine t_reg ?_
  refine to_add rfl rfl (by decide) rfl ?_
  refine to_fixv (s := 15) (v' := .int .i64 2) rfl rfl ?_
  refine to_mv rfl rfl ?_
  refine to_nil ?_
  refine tn_unroll ?_
  refine t_seq ?_
  refine t_reg ?_
  refine to_lss rfl rfl rfl ?_
  refine to_fix (s := 9) (b' := false) rfl (rfl) ?_
  refine to_nil ?_
  refine tn_code ?_
  refine t_seq ?_
  refine t_ifF rfl ?_
  refine t_exit ?_
  refine tx_code ?_
  refine tx_inv ?_
  refine tx_blk ?_
  refine tn_code ?_
  refine t_seq ?_
  refine t_reg ?_
  refine to_mv rfl rfl ?_
  refine to_as rfl rfl ?_
  refine to_nil ?_
  refine tn_code ?_
  refine t_ret1 rfl rfl (res_tmp rfl) (fun w' s => ?_)
  exact congrArg (Value.int .i64) (by omega)

def figF (p q first last row : Int) : Int := (2 * (first * (q - row) + last * (row - p)) + (q - p)) / (2 * (q - p))
theorem figV_b {p q first last row : Int} (hp : 0 ≤ p ∧ p < row) (hq : row < q ∧ q ≤ 12) (h1 : 0 ≤ first ∧ first ≤ 1000) (h2 : 0 ≤ last ∧ last ≤ 1000) : (0 ≤ first * (q - row) ∧ first * (q - row) ≤ 12000) ∧ (0 ≤ last * (row - p) ∧ last * (row - p) ≤ 12000) :=
  ⟨mul_bd (B := 1000) (C := 12) h1.1 h1.2 (by omega) (by omega), mul_bd (B := 1000) (C := 12) h2.1 h2.2 (by omega) (by omega)⟩
theorem figF_b {p q first last row : Int} (hp : 0 ≤ p ∧ p < row) (hq : row < q ∧ q ≤ 12) (h1 : 0 ≤ first ∧ first ≤ 1000) (h2 : 0 ≤ last ∧ last ≤ 1000) : 0 ≤ figF p q first last row ∧ figF p q first last row ≤ 100000 := by
  obtain ⟨h3, h4⟩ := figV_b hp hq h1 h2
  have hn : 0 ≤ 2 * (first * (q - row) + last * (row - p)) + (q - p) := by omega
  refine ⟨Int.ediv_nonneg hn (by omega), Int.le_trans (Int.ediv_le_self _ hn) (by omega)⟩

set_option maxRecDepth 20000 in
theorem st_figure (va : Option Addr) (vc r : Nat) (p q first last row : Int) (w : World) (hp : 0 ≤ p ∧ p < row) (hq : row < q ∧ q ≤ 12) (h1 : 0 ≤ first ∧ first ≤ 1000) (h2 : 0 ≤ last ∧ last ≤ 1000) : Calls Tryz.prog 93 #[tblV va vc r, pairV p q, (.int .i64 first), (.int .i64 last), (.int .i64 row)] w (RetV w (.int .i64 (figF p q first last row))) := by
  obtain ⟨h3, h4⟩ := figV_b hp hq h1 h2
  refine calls_T0 (av := [_, _, _, _, _]) Tryz.func93 rfl rfl rfl ?_
  refine t_seq ?_
  refine t_reg ?_
  refine to_box rfl rfl (fun b5 => ?_)
  refine to_box rfl rfl (fun b6 => ?_)
  refine to_as rfl rfl ?_
  refine to_nil ?_
  refine tn_code ?_
  refine t_seq ?_
  refine t_regP [12, 13] [0, 1, 2, 3, 4, 5, 6, 7, 8, 9, 10, 11, 14, 15, 16, 17, 18, 19, 20, 21, 12, 13, 22, 23, 24, 25, 26, 27] [.own b6 (isC [.int .i64 p, .int .i64 q] 116), .own b5 (isC (tblC va vc r) 112)] rfl (by kernel_rfl) (by kernel_rfl) ?_
  refine tp_q ?e1 rfl ?q1 ?r1
  case q1 =>
    refine to_mv rfl rfl ?_
    exact tpq_end
  refine tp_q ?e2 rfl ?q2 ?r2
  case q2 =>
    first | refine to_fa rfl rfl rfl (by simp only [Nat.reduceAdd]; rfl) rfl ?_ | refine to_fae rfl rfl rfl (by simp only [Nat.reduceAdd]; rfl) rfl ?_
    exact tpq_end
  refine tp_q ?e3 rfl ?q3 ?r3
  case q3 =>
    first | refine to_lds rfl rfl rfl ?_ | refine to_ldes rfl (by assumption) rfl rfl ?_
    exact tpq_end
  refine tp_q ?e4 rfl ?q4 ?r4
  case q4 =>
    refine to_mv rfl rfl ?_
    exact tpq_end
  refine tp_q ?e5 rfl ?q5 ?r5
  case q5 =>
    refine to_sub rfl rfl (by omega) rfl ?_
    exact tpq_end
  refine tp_q ?e6 rfl ?q6 ?r6
  case q6 =>
    refine to_mul rfl rfl (by omega) rfl ?_
    exact tpq_end
  refine tp_q ?e7 rfl ?q7 ?r7
  case q7 =>
    refine to_mv rfl rfl ?_
    exact tpq_end
  refine tp_q ?e8 rfl ?q8 ?r8
  case q8 =>
    refine to_mv rfl rfl ?_
    exact tpq_end
  refine tp_q ?e9 rfl ?q9 ?r9
  case q9 =>
    first | refine to_fa rfl rfl rfl (by simp only [Nat.reduceAdd]; rfl) rfl ?_ | refine to_fae rfl rfl rfl (by simp only [Nat.reduceAdd]; rfl) rfl ?_
    exact tpq_end
  refine tp_q ?e10 rfl ?q10 ?r10
  case q10 =>
    first | refine to_lds rfl rfl rfl ?_ | refine to_ldes rfl (by assumption) rfl rfl ?_
    exact tpq_end
  refine tp_q ?e11 rfl ?q11 ?r11
  case q11 =>
    refine to_sub rfl rfl (by omega) rfl ?_
    exact tpq_end
  refine tp_q ?e12 rfl ?q12 ?r12
  case q12 =>
    refine to_mul rfl rfl (by omega) rfl ?_
    exact tpq_end
  refine tp_q ?e13 rfl ?q13 ?r13
  case q13 =>
    first | refine to_fa rfl rfl rfl (by simp only [Nat.reduceAdd]; rfl) rfl ?_ | refine to_fae rfl rfl rfl (by simp only [Nat.reduceAdd]; rfl) rfl ?_
    exact tpq_end
  refine tp_q ?e14 rfl ?q14 ?r14
  case q14 =>
    first | refine to_lds rfl rfl rfl ?_ | refine to_ldes rfl (by assumption) rfl rfl ?_
    exact tpq_end
  refine tp_q ?e15 rfl ?q15 ?r15
  case q15 =>
    first | refine to_fa rfl rfl rfl (by simp only [Nat.reduceAdd]; rfl) rfl ?_ | refine to_fae rfl rfl rfl (by simp only [Nat.reduceAdd]; rfl) rfl ?_
    exact tpq_end
  refine tp_q ?e16 rfl ?q16 ?r16
  case q16 =>
    first | refine to_lds rfl rfl rfl ?_ | refine to_ldes rfl (by assumption) rfl rfl ?_
    exact tpq_end
  refine tp_q ?e17 rfl ?q17 ?r17
  case q17 =>
    refine to_sub rfl rfl (by omega) rfl ?_
    exact tpq_end
  refine tp_q ?e18 rfl ?q18 ?r18
  case q18 =>
    first | refine to_fa rfl rfl rfl (by simp only [Nat.reduceAdd]; rfl) rfl ?_ | refine to_fae rfl rfl rfl (by simp only [Nat.reduceAdd]; rfl) rfl ?_
    exact tpq_end
  refine tp_q ?e19 rfl ?q19 ?r19
  case q19 =>
    first | refine to_fa rfl rfl rfl (by simp only [Nat.reduceAdd]; rfl) rfl ?_ | refine to_fae rfl rfl rfl (by simp only [Nat.reduceAdd]; rfl) rfl ?_
    exact tpq_end
  refine tp_q ?e20 rfl ?q20 ?r20
  case q20 =>
    first | refine to_lds rfl rfl rfl ?_ | refine to_ldes rfl (by assumption) rfl rfl ?_
    exact tpq_end
  refine tp_s rfl ?_ (fun _ h => by cases h) rfl
  refine to_bsl rfl rfl rfl rfl (fun a26 => ?_)
  refine tp_se rfl ?_
  refine tp_s rfl ?_ (fun _ h => by cases h) rfl
  refine to_call0 rfl rfl (fun w s => st_sum _ _ _ _ w (rdw s) (by omega) (by omega)) rfl ?_
  refine tp_se rfl ?_
  refine tp_q ?e21 rfl ?q21 ?r21
  case q21 =>
    refine to_call0 rfl rfl (fun w s => rn_To _ _ w (by omega) (by omega)) rfl ?_
    exact tpq_end
  refine tp_q ?e22 rfl ?q22 ?r22
  case q22 =>
    refine to_mv rfl rfl ?_
    exact tpq_end
  refine tp_q ?e23 rfl ?q23 ?r23
  case q23 =>
    refine to_ex rfl rfl rfl ?_
    exact tpq_end
  refine tp_q ?e24 rfl ?q24 ?r24
  case q24 =>
    refine to_ex rfl rfl rfl ?_
    exact tpq_end
  refine tp_q ?e25 rfl ?q25 ?r25
  case q25 =>
    refine to_as rfl rfl ?_
    exact tpq_end
  refine tp_q ?e26 rfl ?q26 ?r26
  case q26 =>
    refine to_as rfl rfl ?_
    exact tpq_end
  refine tp_nil ?_
  refine tn_code ?_
  refine t_seq ?_
  refine t_reg ?_
  refine to_mv rfl rfl ?_
  refine to_as rfl rfl ?_
  refine to_nil ?_
  refine tn_code ?_
  refine t_ret1 rfl rfl (res_tmp rfl) (fun w' s => ?_)
  rfl

def spA (k : Nat) : Sp := tbA.getD k (0, 0)
theorem spA_at {k : Nat} (hk : k < 7) : (spans tbA)[k]? = some (spanC (spA k)) := by
  obtain rfl | rfl | rfl | rfl | rfl | rfl | rfl : k = 0 ∨ k = 1 ∨ k = 2 ∨ k = 3 ∨ k = 4 ∨ k = 5 ∨ k = 6 := by omega
  all_goals rfl
theorem spA_b {k : Nat} (hk : k < 7) : 0 ≤ (spA k).1 ∧ (spA k).1 ≤ (spA k).2 ∧ (spA k).2 ≤ 360 := by
  obtain rfl | rfl | rfl | rfl | rfl | rfl | rfl : k = 0 ∨ k = 1 ∨ k = 2 ∨ k = 3 ∨ k = 4 ∨ k = 5 ∨ k = 6 := by omega
  all_goals decide
def offF (i j k : Nat) : Int := max (figF i j (spA i).2 (spA j).2 k - (spA k).1) ((spA k).2 - figF i j (spA i).1 (spA j).1 k)

set_option maxRecDepth 20000 in
theorem st_off (va : Option Addr) (vc r : Nat) (i j k : Nat) (w : World) (hva : Ro w 0 w.heap.size va 7 vc 2 (spans tbA)) (hik : i < k) (hkj : k < j) (hj : j < 7) : Calls Tryz.prog 81 #[tblV va vc r, pairV i j, (.int .i64 (k : Int))] w (RetV w (.int .i64 (offF i j k))) := by
  have bi := spA_b (k := i) (by omega)
  have bj := spA_b (k := j) (by omega)
  have bk := spA_b (k := k) (by omega)
  have f1 := figF_b (p := i) (q := j) (first := (spA i).2) (last := (spA j).2) (row := k) (by omega) (by omega) (by omega) (by omega)
  have f2 := figF_b (p := i) (q := j) (first := (spA i).1) (last := (spA j).1) (row := k) (by omega) (by omega) (by omega) (by omega)
  refine calls_T0 (av := [_, _, _]) Tryz.func81 rfl rfl rfl ?_
  refine t_seq ?_
  refine t_reg ?_
  refine to_box rfl rfl (fun b3 => ?_)
  refine to_box rfl rfl (fun b4 => ?_)
  refine to_as rfl rfl ?_
  refine to_nil ?_
  refine tn_code ?_
  refine t_seq ?_
  refine t_regD rfl (by kernel_rfl) (by kernel_rfl) ?_
  first | refine to_lda rfl rfl rfl ?_ | refine to_ldea rfl (by assumption) rfl rfl ?_
  first | refine to_lda rfl rfl rfl ?_ | refine to_ldea rfl (by assumption) rfl rfl ?_
  first | refine to_lda rfl rfl rfl ?_ | refine to_ldea rfl (by assumption) rfl rfl ?_
  first | refine to_fa rfl rfl rfl (by simp only [Nat.reduceAdd]; rfl) rfl ?_ | refine to_fae rfl rfl rfl (by simp only [Nat.reduceAdd]; rfl) rfl ?_
  first | refine to_lds rfl rfl rfl ?_ | refine to_ldes rfl (by assumption) rfl rfl ?_
  refine to_call0 rfl rfl (fun w s => st_end1 va vc r i _ w (rdw s) (spA_at (by omega)) (by omega)) rfl ?_
  first | refine to_lda rfl rfl rfl ?_ | refine to_ldea rfl (by assumption) rfl rfl ?_
  first | refine to_fa rfl rfl rfl (by simp only [Nat.reduceAdd]; rfl) rfl ?_ | refine to_fae rfl rfl rfl (by simp only [Nat.reduceAdd]; rfl) rfl ?_
  first | refine to_lds rfl rfl rfl ?_ | refine to_ldes rfl (by assumption) rfl rfl ?_
  refine to_call0 rfl rfl (fun w s => st_end1 va vc r j _ w (rdw s) (spA_at (by omega)) (by omega)) rfl ?_
  refine to_mv rfl rfl ?_
  refine to_call0 rfl rfl (fun w s => st_figure va vc r i j _ _ k w (by omega) (by omega) (by omega) (by omega)) rfl ?_
  refine to_as rfl rfl ?_
  refine to_nil ?_
  refine tn_code ?_
  refine t_seq ?_
  refine t_regD rfl (by kernel_rfl) (by kernel_rfl) ?_
  first | refine to_lda rfl rfl rfl ?_ | refine to_ldea rfl (by assumption) rfl rfl ?_
  first | refine to_lda rfl rfl rfl ?_ | refine to_ldea rfl (by assumption) rfl rfl ?_
  first | refine to_lda rfl rfl rfl ?_ | refine to_ldea rfl (by assumption) rfl rfl ?_
  first | refine to_fa rfl rfl rfl (by simp only [Nat.reduceAdd]; rfl) rfl ?_ | refine to_fae rfl rfl rfl (by simp only [Nat.reduceAdd]; rfl) rfl ?_
  first | refine to_lds rfl rfl rfl ?_ | refine to_ldes rfl (by assumption) rfl rfl ?_
  refine to_call0 rfl rfl (fun w s => st_end0 va vc r i _ w (rdw s) (spA_at (by omega)) (by omega)) rfl ?_
  first | refine to_lda rfl rfl rfl ?_ | refine to_ldea rfl (by assumption) rfl rfl ?_
  first | refine to_fa rfl rfl rfl (by simp only [Nat.reduceAdd]; rfl) rfl ?_ | refine to_fae rfl rfl rfl (by simp only [Nat.reduceAdd]; rfl) rfl ?_
  first | refine to_lds rfl rfl rfl ?_ | refine to_ldes rfl (by assumption) rfl rfl ?_
  refine to_call0 rfl rfl (fun w s => st_end0 va vc r j _ w (rdw s) (spA_at (by omega)) (by omega)) rfl ?_
  refine to_mv rfl rfl ?_
  refine to_call0 rfl rfl (fun w s => st_figure va vc r i j _ _ k w (by omega) (by omega) (by omega) (by omega)) rfl ?_
  refine to_as rfl rfl ?_
  refine to_nil ?_
  refine tn_code ?_
  refine t_seq ?_
  refine t_regD rfl (by kernel_rfl) (by kernel_rfl) ?_
  refine to_mv rfl rfl ?_
  first | refine to_lda rfl rfl rfl ?_ | refine to_ldea rfl (by assumption) rfl rfl ?_
  refine to_mv rfl rfl ?_
  refine to_call0 rfl rfl (fun w s => st_end0 va vc r k _ w (rdw s) (spA_at (by omega)) (by omega)) rfl ?_
  refine to_sub rfl rfl (by omega) rfl ?_
  first | refine to_lda rfl rfl rfl ?_ | refine to_ldea rfl (by assumption) rfl rfl ?_
  refine to_mv rfl rfl ?_
  refine to_call0 rfl rfl (fun w s => st_end1 va vc r k _ w (rdw s) (spA_at (by omega)) (by omega)) rfl ?_
  refine to_mv rfl rfl ?_
  refine to_sub rfl rfl (by omega) rfl ?_
  refine to_max rfl rfl rfl ?_
  refine to_as rfl rfl ?_
  refine to_nil ?_
  refine tn_code ?_
  refine t_ret1 rfl rfl (res_tmp rfl) (fun w' s => ?_)
  rfl

def sureK (i j : Nat) : Nat → Bool
  | 0 => true
  | k + 1 => sureK i j k && (decide (k ≤ i) || decide (offF i j k ≤ 10))
def sureF (i j : Nat) : Bool := sureK i j j
abbrev LS (a b : Int) : Value := .bool (sureF a.toNat b.toNat)
theorem sureK_0 (i j : Nat) : ∀ k, k ≤ i + 1 → sureK i j k = true
  | 0, _ => rfl
  | k + 1, h => by simp [sureK, sureK_0 i j k (by omega), show k ≤ i by omega]
theorem sureK_f {i j k : Nat} (hik : i < k) (h : 10 < offF i j k) : sureK i j (k + 1) = false := by
  simp only [sureK, decide_eq_false (show ¬ k ≤ i by omega), decide_eq_false (show ¬ offF i j k ≤ 10 by omega), Bool.or_self, Bool.and_false]
theorem sureK_t {i j k : Nat} (h : offF i j k ≤ 10) : sureK i j (k + 1) = sureK i j k := by
  simp only [sureK, decide_eq_true h, Bool.or_true, Bool.and_true]

set_option maxRecDepth 20000 in
theorem st_sure (va : Option Addr) (vc r i j B : Nat) (wB : World) (R : List Seg) (w : World) (hva : Ro wB 0 B va 7 vc 2 (spans tbA)) (hij : i < j) (hj : j < 7) (hw : StL (.own r (isMm LS) :: .snap 0 B wB :: R) w) : Calls Tryz.prog 57 #[tblV va vc r, pairV i j] w (FrR (.bool (sureF i j)) (fun _ : Unit => [.own r (isMm LS), .snap 0 B wB]) R w) := by
  refine calls_TG (av := [_, _]) Tryz.func57 rfl rfl rfl (hw.st (Ext.refl w)) ?_
  refine t_seq ?_
  refine t_reg ?_
  refine to_box rfl rfl (fun b2 => ?_)
  refine to_box rfl rfl (fun b3 => ?_)
  refine to_as rfl rfl ?_
  refine to_nil ?_
  refine tn_code ?_
  refine t_seq ?_
  refine t_seq ?_
  refine t_reg ?_
  first | refine to_fa rfl rfl rfl (by simp only [Nat.reduceAdd]; rfl) rfl ?_ | refine to_fae rfl rfl rfl (by simp only [Nat.reduceAdd]; rfl) rfl ?_
  first | refine to_lds rfl rfl rfl ?_ | refine to_ldes rfl (by assumption) rfl rfl ?_
  first | refine to_lda rfl rfl rfl ?_ | refine to_ldea rfl (by assumption) rfl rfl ?_
  refine to_lkmm (z := .bool false) rfl rfl (fun w => by kernel_rfl) rfl ?_ ?_
  · skip
    refine to_mv rfl rfl ?_
    refine to_ex rfl rfl rfl ?_
    refine to_ex rfl rfl rfl ?_
    refine to_fix (s := 15) (b' := true) rfl (rfl) ?_
    refine to_as rfl rfl ?_
    refine to_as rfl rfl ?_
    refine to_nil ?_
    refine tn_code ?_
    refine t_seq ?_
    refine t_reg ?_
    refine to_mv rfl rfl ?_
    refine to_nil ?_
    refine tn_code ?_
    refine t_ifT rfl ?_
    refine t_seq ?_
    refine t_reg ?_
    refine to_mv rfl rfl ?_
    refine to_as rfl rfl ?_
    refine to_nil ?_
    refine tn_code ?_
    refine t_ret1G rfl rfl (res_tmp rfl) (fun w' s => ?_)
    exact frR_of3 () s (.own r (isMm LS) :: .snap 0 B wB :: R) rfl
  · skip
    refine to_mv rfl rfl ?_
    refine to_ex rfl rfl rfl ?_
    refine to_ex rfl rfl rfl ?_
    refine to_fix (s := 15) (b' := false) rfl (rfl) ?_
    refine to_as rfl rfl ?_
    refine to_as rfl rfl ?_
    refine to_nil ?_
    refine tn_code ?_
    refine t_seq ?_
    refine t_reg ?_
    refine to_mv rfl rfl ?_
    refine to_nil ?_
    refine tn_code ?_
    refine t_ifF rfl ?_
    refine t_skip ?_
    refine tn_code ?_
    refine t_seq ?_
    refine t_reg ?_
    refine to_as rfl rfl ?_
    refine to_nil ?_
    refine tn_code ?_
    refine t_seq ?_
    refine t_seq ?_
    refine t_reg ?_
    first | refine to_fa rfl rfl rfl (by simp only [Nat.reduceAdd]; rfl) rfl ?_ | refine to_fae rfl rfl rfl (by simp only [Nat.reduceAdd]; rfl) rfl ?_
    first | refine to_lds rfl rfl rfl ?_ | refine to_ldes rfl (by assumption) rfl rfl ?_
    refine to_add rfl rfl (by omega) rfl ?_
    refine to_as rfl rfl ?_
    refine to_nil ?_
    refine tn_code ?_
    refine t_blk ?_
    refine t_loop2 (ι := Nat) (fun k => i < k ∧ k ≤ j) (fun k => [(2, (.pointer (some ⟨b2, 0, none⟩))), (3, (.pointer (some ⟨b3, 0, none⟩))), (7, .bool (sureK i j k)), (8, (.int .i64 (k : Int)))]) (fun k => (.own b3 (isC [.int .i64 (i : Int), .int .i64 (j : Int)] 116) :: .own b2 (isC (tblC va vc r) 112) :: .own r (isMm LS) :: .snap 0 B wB :: R)) (fun k => j - k) (i + 1) (.own b3 (isC [.int .i64 (i : Int), .int .i64 (j : Int)] 116) :: .own b2 (isC (tblC va vc r) 112) :: .own r (isMm LS) :: .snap 0 B wB :: R) (rfl) (⟨by omega, by omega⟩) (⟨rfl, rfl, congrArg (fun b => some (Value.bool b)) (sureK_0 i j (i + 1) (Nat.le_refl _)).symm, rfl, trivial⟩) ?_
    rintro k ⟨hik, hkj⟩
    show T _ _ _ ⟨_, [(2, (.pointer (some ⟨b2, 0, none⟩))), (3, (.pointer (some ⟨b3, 0, none⟩))), (7, .bool (sureK i j k)), (8, (.int .i64 (k : Int)))], _⟩ (.own b3 (isC [.int .i64 (i : Int), .int .i64 (j : Int)] 116) :: .own b2 (isC (tblC va vc r) 112) :: .own r (isMm LS) :: .snap 0 B wB :: R)
    refine t_seq ?_
    refine t_seq ?_
    refine t_reg ?_
    refine to_mv rfl rfl ?_
    first | refine to_fa rfl rfl rfl (by simp only [Nat.reduceAdd]; rfl) rfl ?_ | refine to_fae rfl rfl rfl (by simp only [Nat.reduceAdd]; rfl) rfl ?_
    first | refine to_lds rfl rfl rfl ?_ | refine to_ldes rfl (by assumption) rfl rfl ?_
    refine to_lss rfl rfl rfl ?_
    refine to_nil ?_
    refine tn_code ?_
    refine t_if rfl (fun h1 => ?_) (fun h1 => ?_)
    · try simp only [decide_eq_true_eq, decide_eq_false_iff_not, Bool.not_eq_true', Bool.not_eq_false', Int.not_lt, Int.not_le, ne_eq, Decidable.not_not] at h1
      try have h1b := inB_iff.1 h1
      refine t_skip ?_
      refine tn_code ?_
      refine t_seq ?_
      refine t_blk ?_
      refine t_seq ?_
      refine t_regD rfl (by kernel_rfl) (by kernel_rfl) ?_
      first | refine to_lda rfl rfl rfl ?_ | refine to_ldea rfl (by assumption) rfl rfl ?_
      first | refine to_lda rfl rfl rfl ?_ | refine to_ldea rfl (by assumption) rfl rfl ?_
      refine to_mv rfl rfl ?_
      refine to_call0 rfl rfl (fun w s => st_off va vc r i j k w (rdw s) hik (by omega) hj) rfl ?_
      first | refine to_fa rfl rfl rfl (by simp only [Nat.reduceAdd]; rfl) rfl ?_ | refine to_fae rfl rfl rfl (by simp only [Nat.reduceAdd]; rfl) rfl ?_
      first | refine to_fa rfl rfl rfl (by simp only [Nat.reduceAdd]; rfl) rfl ?_ | refine to_fae rfl rfl rfl (by simp only [Nat.reduceAdd]; rfl) rfl ?_
      first | refine to_lds rfl rfl rfl ?_ | refine to_ldes rfl (by assumption) rfl rfl ?_
      refine to_gtr rfl rfl rfl ?_
      refine to_nil ?_
      refine tn_code ?_
      refine t_if rfl (fun h2 => ?_) (fun h2 => ?_)
      · try simp only [decide_eq_true_eq, decide_eq_false_iff_not, Bool.not_eq_true', Bool.not_eq_false', Int.not_lt, Int.not_le, ne_eq, Decidable.not_not] at h2
        try have h2b := inB_iff.1 h2
        have hof := h2
        refine t_reg ?_
        refine to_as rfl rfl ?_
        refine to_nil ?_
        refine tn_blk ?_
        refine tn_code ?_
        refine t_reg ?_
        refine to_mv rfl rfl ?_
        refine to_add rfl rfl (by omega) rfl ?_
        refine to_as rfl rfl ?_
        refine to_nil ?_
        exact tn_loop2 (k + 1) (.own b3 (isC [.int .i64 (i : Int), .int .i64 (j : Int)] 116) :: .own b2 (isC (tblC va vc r) 112) :: .own r (isMm LS) :: .snap 0 B wB :: R) (rfl) (⟨by omega, by omega⟩) (by omega) (⟨rfl, rfl, congrArg (fun b => some (Value.bool b)) (sureK_f hik hof).symm, rfl, trivial⟩)
      · try simp only [decide_eq_true_eq, decide_eq_false_iff_not, Bool.not_eq_true', Bool.not_eq_false', Int.not_lt, Int.not_le, ne_eq, Decidable.not_not] at h2
        try have h2b := inB_iff.1 h2
        have hof := h2
        refine t_skip ?_
        refine tn_blk ?_
        refine tn_code ?_
        refine t_reg ?_
        refine to_mv rfl rfl ?_
        refine to_add rfl rfl (by omega) rfl ?_
        refine to_as rfl rfl ?_
        refine to_nil ?_
        exact tn_loop2 (k + 1) (.own b3 (isC [.int .i64 (i : Int), .int .i64 (j : Int)] 116) :: .own b2 (isC (tblC va vc r) 112) :: .own r (isMm LS) :: .snap 0 B wB :: R) (rfl) (⟨by omega, by omega⟩) (by omega) (⟨rfl, rfl, congrArg (fun b => some (Value.bool b)) (sureK_t hof).symm, rfl, trivial⟩)
    · try simp only [decide_eq_true_eq, decide_eq_false_iff_not, Bool.not_eq_true', Bool.not_eq_false', Int.not_lt, Int.not_le, ne_eq, Decidable.not_not] at h1
      try have h1b := inB_iff.1 h1
      obtain rfl : k = j := by omega
      refine t_exit ?_
      refine tx_code ?_
      refine tx_inv ?_
      refine tx_blk ?_
      refine tn_code ?_
      refine t_seq ?_
      refine t_reg ?_
      first | refine to_fa rfl rfl rfl (by simp only [Nat.reduceAdd]; rfl) rfl ?_ | refine to_fae rfl rfl rfl (by simp only [Nat.reduceAdd]; rfl) rfl ?_
      first | refine to_lds rfl rfl rfl ?_ | refine to_ldes rfl (by assumption) rfl rfl ?_
      first | refine to_lda rfl rfl rfl ?_ | refine to_ldea rfl (by assumption) rfl rfl ?_
      refine to_mv rfl rfl ?_
      refine to_mupmm rfl rfl rfl rfl ?_
      refine to_nil ?_
      refine tn_code ?_
      refine t_seq ?_
      refine t_reg ?_
      refine to_mv rfl rfl ?_
      refine to_as rfl rfl ?_
      refine to_nil ?_
      refine tn_code ?_
      refine t_ret1G rfl rfl (res_tmp rfl) (fun w' s => ?_)
      exact frR_of3 () s (.own r (isMm LS) :: .snap 0 B wB :: R) rfl

end Go.Proofs


namespace Go.Proofs
open Go Go.Sx Go.RowKit

theorem scals_ints (xs : List Int) : ∀ y ∈ ints xs, scals y = true := by
  intro y hy
  obtain ⟨x, _, rfl⟩ := List.mem_map.1 hy
  rfl

set_option maxRecDepth 20000 in
theorem st_Clone (xs : List Int) (ad : Addr) (c : Nat) (R : List Seg) (w : World) (hl : xs.length ≤ 100) (hw : StL (.row (some ad) xs.length c 3 1 (ints xs) :: R) w) : Calls Tryz.prog 58 #[.slice (some ad) xs.length c] w (fun e w' => ∃ b : Option Addr × Nat, e = .returned (.slice b.1 xs.length b.2) ∧ Ext w w' ∧ StL (.row b.1 xs.length b.2 3 1 (ints xs) :: .row (some ad) xs.length c 3 1 (ints xs) :: R) w') := by
  refine calls_TG (av := [_]) Tryz.func58 rfl rfl rfl (hw.st (Ext.refl w)) ?_
  refine t_seq ?_
  refine t_reg ?_
  refine to_as rfl rfl ?_
  refine to_nil ?_
  refine tn_code ?_
  refine t_seq ?_
  refine t_seq ?_
  refine t_reg ?_
  refine to_mv rfl rfl ?_
  refine to_eqSF rfl rfl rfl ?_
  refine to_nil ?_
  refine tn_code ?_
  refine t_ifF rfl ?_
  refine t_skip ?_
  refine tn_code ?_
  refine t_seq ?_
  refine t_reg ?_
  refine to_bsl rfl rfl rfl rfl (fun a5 => ?_)
  refine to_mv rfl rfl ?_
  refine to_app rfl rfl rfl (scals_ints xs) (by decide) (by omega) (by decide) rfl (fun a7 c7 => ?_)
  refine to_as rfl rfl ?_
  refine to_nil ?_
  refine tn_code ?_
  refine t_ret1G rfl rfl (res_tmp rfl) (fun w' s => ?_)
  refine ⟨(a7, c7), by rw [Nat.zero_add], s.ext, ?_⟩
  have h2 := (s.sub (H' := .row a7 (0 + xs.length) c7 3 1 ([] ++ ints xs) :: .row (some ad) xs.length c 3 1 (ints xs) :: R)).stL
  rw [Nat.zero_add, List.nil_append] at h2
  exact h2

/-- A table with a kept list, and a map that is new. -/
def RTbl (va : Option Addr) (vc : Nat) : Nat → World → Value → Prop := fun lo w1 v => ∃ r, v = tblV va vc r ∧ lo ≤ r ∧ r < w1.heap.size ∧ ∃ o, w1.heap[r]? = some o ∧ isMm LS o

set_option maxRecDepth 20000 in
theorem st_tableOf (va : Option Addr) (vc : Nat) (w : World)  : Calls Tryz.prog 55 #[stV va vc, .slice none 0 0] w (Ret w (RTbl va vc)) := by
  refine calls_T (av := [_, _]) Tryz.func55 rfl rfl rfl ?_
  refine t_seq ?_
  refine t_reg ?_
  refine to_box rfl rfl (fun b2 => ?_)
  refine to_alloc rfl (fun b4 => ?_)
  refine to_nil ?_
  refine tn_code ?_
  refine t_seq ?_
  refine t_reg ?_
  first | refine to_lda rfl rfl rfl ?_ | refine to_ldea rfl (by assumption) rfl rfl ?_
  refine to_mv rfl rfl ?_
  refine to_mkmmB LS rfl (fun r7 hB7 => ?_)
  refine to_bs rfl rfl ?_
  first | refine to_st rfl rfl rfl rfl ?_ | refine to_ste rfl rfl (by assumption) rfl rfl ?_
  refine to_nil ?_
  refine tn_code ?_
  refine t_ret1 rfl rfl (res_cellA rfl rfl) (fun w' s => ?_)
  have hb0 : w.heap.size ≤ r7 := hB7 (.snap 0 w.heap.size w) (by simp)
  exact ⟨r7, rfl, hb0, (by obtain ⟨o, ho, _⟩ := s.own_at (b := r7); exact (Array.getElem?_eq_some_iff.1 ho).1), s.own_at (b := r7)⟩

set_option maxRecDepth 20000 in
theorem st_lists (va : Option Addr) (vc : Nat) (w : World)  : Calls Tryz.prog 28 #[stV va vc] w (Ret w (fun lo w1 v => ∃ bb, v = .func (.func 54) #[] #[(.pointer (some ⟨bb, 0, none⟩))] ∧ Rb w1 lo w1.heap.size bb (stC va vc))) := by
  refine calls_T (av := [_]) Tryz.func28 rfl rfl rfl ?_
  refine t_seq ?_
  refine t_reg ?_
  refine to_box rfl rfl (fun b1 => ?_)
  refine to_as rfl rfl ?_
  refine to_nil ?_
  refine tn_code ?_
  refine t_seq ?_
  refine t_reg ?_
  refine to_mf rfl rfl rfl ?_
  refine to_as rfl rfl ?_
  refine to_nil ?_
  refine tn_code ?_
  refine t_ret1 rfl rfl (res_tmp rfl) (fun w' s => ?_)
  exact ⟨_, rfl, rb_own0 s⟩

/-! The lists that put yields. -/
def rangeT : Nat → Nat → List Nat
  | _, 0 => []
  | a, k + 1 => a :: rangeT (a + 1) k
def remA (E : List Int → Nat → List (List Int)) (now : List Int) (fr : Nat) : List Nat → List (List Int)
  | [] => []
  | t :: ts => (if sureF fr t then E (now ++ [(t : Int)]) t else []) ++ remA E now fr ts
def extA : Nat → List Int → Nat → List (List Int)
  | 0, _, _ => []
  | n + 1, now, fr => if fr = 6 then [now] else remA (extA n) now fr (rangeT (fr + 1) (6 - fr))
def listsA : List (List Int) := extA 7 [0] 0
theorem extA_6 (n : Nat) (now : List Int) : extA (n + 1) now 6 = [now] := rfl
theorem extA_ne {n fr : Nat} {now : List Int} (h : fr ≠ 6) : extA (n + 1) now fr = remA (extA n) now fr (rangeT (fr + 1) (6 - fr)) := by rw [extA, if_neg h]
theorem remT {n fr to : Nat} {now : List Int} {C : List (List Int)} (h : to < 7) (hs : sureF fr to = true) : remA (extA n) now fr (rangeT to (7 - to)) ++ C = extA n (now ++ [(to : Int)]) to ++ (remA (extA n) now fr (rangeT (to + 1) (7 - (to + 1))) ++ C) := by
  rw [show 7 - to = (7 - (to + 1)) + 1 by omega, rangeT, remA, if_pos hs, List.append_assoc]
theorem remF {n fr to : Nat} {now : List Int} {C : List (List Int)} (h : to < 7) (hs : sureF fr to = false) : remA (extA n) now fr (rangeT to (7 - to)) ++ C = remA (extA n) now fr (rangeT (to + 1) (7 - (to + 1))) ++ C := by
  rw [show 7 - to = (7 - (to + 1)) + 1 by omega, rangeT, remA, hs]; rfl
/-- What the one who is yielded to does: takes a list, and its row. -/
def HY {β : Type} (y : Nat) (S : List (List Int) → β → List Seg) : Prop := ∀ (now : List Int) (C : List (List Int)) (x : β) (R : List Seg) (w : World) (a : Option Addr) (c : Nat), now :: C <:+ listsA → StL (.row a now.length c 3 1 (ints now) :: (S (now :: C) x ++ R)) w →
  YC Tryz.prog y #[.slice a now.length c] w (fun en w2 => en = .returned (.bool true) ∧ Ext w w2 ∧ ∃ x', StL (S C x' ++ R) w2)
theorem HY.app {β : Type} {y : Nat} {S : List (List Int) → β → List Seg} (h : HY y S) (R1 : List Seg) : HY y (fun L x => S L x ++ R1) := fun now C x R w a c hs hw => by
  have h1 := h now C x (R1 ++ R) w a c hs (by simpa [List.append_assoc] using hw)
  obtain ⟨f, tmps, asg, body, h3, h4⟩ := h1
  refine ⟨f, tmps, asg, body, h3, h4.mono ?_⟩
  rintro en w2 ⟨e1, e2, x', e3⟩
  exact ⟨e1, e2, x', by simpa [List.append_assoc] using e3⟩

set_option maxRecDepth 20000 in
theorem st_put {β : Type} (va : Option Addr) (vc r bt by_ bx bp y B : Nat) (wB : World) (hva : Ro wB 0 B va 7 vc 2 (spans tbA)) (hbt : Rb wB 0 B bt (stC va vc)) : ∀ (n : Nat) {S : List (List Int) → β → List Seg} (hY : HY y S) (now : List Int) (fr : Nat) (a : Option Addr) (c : Nat) (C : List (List Int)) (x0 : β) (w : World), 7 ≤ fr + n → fr ≤ 6 → now.length ≤ fr + 1 → 1 ≤ now.length → now[now.length - 1]? = some (fr : Int) → extA n now fr ++ C <:+ listsA → StL (.row a now.length c 3 1 (ints now) :: .own r (isMm LS) :: .own by_ (isC [.func (.yield y) #[] #[]] 66) :: .own bx (isC (tblC va vc r) 112) :: .own bp (isC [.func (.func 56) #[] #[(.pointer (some ⟨bt, 0, none⟩)), (.pointer (some ⟨by_, 0, none⟩)), (.pointer (some ⟨bx, 0, none⟩)), (.pointer (some ⟨bp, 0, none⟩))]] 66) :: .snap 0 B wB :: S (extA n now fr ++ C) x0) w → Calls Tryz.prog 56 #[.slice a now.length c, (.pointer (some ⟨bt, 0, none⟩)), (.pointer (some ⟨by_, 0, none⟩)), (.pointer (some ⟨bx, 0, none⟩)), (.pointer (some ⟨bp, 0, none⟩))] w (fun e w' => e = .returned (.bool true) ∧ Ext w w' ∧ ∃ x', StL (.own r (isMm LS) :: .own by_ (isC [.func (.yield y) #[] #[]] 66) :: .own bx (isC (tblC va vc r) 112) :: .own bp (isC [.func (.func 56) #[] #[(.pointer (some ⟨bt, 0, none⟩)), (.pointer (some ⟨by_, 0, none⟩)), (.pointer (some ⟨bx, 0, none⟩)), (.pointer (some ⟨bp, 0, none⟩))]] 66) :: .snap 0 B wB :: S C x') w') := by
  intro n
  induction n with
  | zero => intro S hY now fr a c C x0 w h1 h2; omega
  | succ n ih =>
  intro S hY now fr a c C x0 w hn hfr hl1 hl2 hlast hsf hw
  have hlx := map_get (f := intC) hlast
  refine calls_TG (av := [_, _, _, _, _]) Tryz.func56 rfl rfl rfl (hw.st (Ext.refl w)) ?_
  refine t_rowg (a := a) hl2 (fun gA hgA => ?_)
  subst hgA
  refine t_seq ?_
  refine t_reg ?_
  refine to_as rfl rfl ?_
  refine to_nil ?_
  refine tn_code ?_
  refine t_seq ?_
  refine t_reg ?_
  refine to_mv rfl rfl ?_
  refine to_mv rfl rfl ?_
  refine to_lenS rfl rfl ?_
  refine to_sub rfl rfl (by omega) rfl ?_
  refine to_fixv (s := 12) (v' := .int .i64 ((now.length - 1 : Nat) : Int)) rfl (congrArg (Value.int .i64) (by omega)) ?_
  refine to_ix (k := now.length - 1) rfl rfl rfl (by omega) (by omega) rfl ?_
  first | refine to_lds rfl rfl rfl ?_ | refine to_ldes rfl (by assumption) rfl rfl ?_
  refine to_as rfl rfl ?_
  refine to_nil ?_
  refine tn_code ?_
  refine t_seq ?_
  refine t_seq ?_
  refine t_reg ?_
  refine to_mv rfl rfl ?_
  first | refine to_fa rfl rfl rfl (by simp only [Nat.reduceAdd]; rfl) rfl ?_ | refine to_fae rfl rfl rfl (by simp only [Nat.reduceAdd]; rfl) rfl ?_
  first | refine to_lds rfl rfl rfl ?_ | refine to_ldes rfl (by assumption) rfl rfl ?_
  refine to_lenS rfl rfl ?_
  refine to_sub rfl rfl (by omega) rfl ?_
  refine to_eql rfl rfl rfl ?_
  refine to_nil ?_
  refine tn_code ?_
  refine t_if rfl (fun h1 => ?_) (fun h1 => ?_)
  · try simp only [decide_eq_true_eq, decide_eq_false_iff_not, Bool.not_eq_true', Bool.not_eq_false', Int.not_lt, Int.not_le, ne_eq, Decidable.not_not] at h1
    try have h1b := inB_iff.1 h1
    obtain rfl : fr = 6 := by omega
    rw [extA_6, List.singleton_append] at hsf ⊢
    refine t_seq ?_
    refine t_reg ?_
    first | refine to_lds rfl rfl rfl ?_ | refine to_ldes rfl (by assumption) rfl rfl ?_
    refine to_mv rfl rfl ?_
    refine to_callYT [.row (some ⟨gA, 0, none⟩) now.length c 3 1 (ints now)] (S (now :: C) x0) (fun z => S C z) rfl rfl rfl (fun w9 hw => hY now C x0 _ w9 _ _ hsf hw) rfl (fun zP => ?_)
    refine to_nrm (R := S C zP) ?_
    · skip
      refine to_as rfl rfl ?_
      refine to_nil ?_
      refine tn_code ?_
      refine t_ret1G rfl rfl (res_tmp rfl) (fun w' s => ?_)
      exact ⟨rfl, s.ext, zP, (s.sub (H' := (.own r (isMm LS) :: .own by_ (isC [.func (.yield y) #[] #[]] 66) :: .own bx (isC (tblC va vc r) 112) :: .own bp (isC [.func (.func 56) #[] #[(.pointer (some ⟨bt, 0, none⟩)), (.pointer (some ⟨by_, 0, none⟩)), (.pointer (some ⟨bx, 0, none⟩)), (.pointer (some ⟨bp, 0, none⟩))]] 66) :: .snap 0 B wB :: S C zP))).stL⟩
  · try simp only [decide_eq_true_eq, decide_eq_false_iff_not, Bool.not_eq_true', Bool.not_eq_false', Int.not_lt, Int.not_le, ne_eq, Decidable.not_not] at h1
    try have h1b := inB_iff.1 h1
    have hne : fr ≠ 6 := by omega
    rw [extA_ne hne] at hsf ⊢
    refine t_skip ?_
    refine tn_code ?_
    refine t_seq ?_
    refine t_seq ?_
    refine t_reg ?_
    refine to_mv rfl rfl ?_
    refine to_add rfl rfl (by omega) rfl ?_
    refine to_as rfl rfl ?_
    refine to_nil ?_
    refine tn_code ?_
    refine t_blk ?_
    refine t_loop2 (ι := Nat × β) (fun ((to, x) : Nat × β) => fr < to ∧ to ≤ 7 ∧ (remA (extA n) now fr (rangeT (to) (7 - (to))) ++ C) <:+ listsA) (fun ((to, x) : Nat × β) => [(0, .slice (some ⟨gA, 0, none⟩) now.length c), (1, (.pointer (some ⟨bt, 0, none⟩))), (2, (.pointer (some ⟨by_, 0, none⟩))), (3, (.pointer (some ⟨bx, 0, none⟩))), (4, (.pointer (some ⟨bp, 0, none⟩))), (7, (.int .i64 (fr : Int))), (8, (.int .i64 (to : Int)))]) (fun ((to, x) : Nat × β) => (.row (some ⟨gA, 0, none⟩) now.length c 3 1 (ints now) :: .own r (isMm LS) :: .own by_ (isC [.func (.yield y) #[] #[]] 66) :: .own bx (isC (tblC va vc r) 112) :: .own bp (isC [.func (.func 56) #[] #[(.pointer (some ⟨bt, 0, none⟩)), (.pointer (some ⟨by_, 0, none⟩)), (.pointer (some ⟨bx, 0, none⟩)), (.pointer (some ⟨bp, 0, none⟩))]] 66) :: .snap 0 B wB :: S (remA (extA n) now fr (rangeT (to) (7 - (to))) ++ C) x)) (fun ((to, x) : Nat × β) => 7 - to) ((fr + 1, x0)) (.row (some ⟨gA, 0, none⟩) now.length c 3 1 (ints now) :: .own r (isMm LS) :: .own by_ (isC [.func (.yield y) #[] #[]] 66) :: .own bx (isC (tblC va vc r) 112) :: .own bp (isC [.func (.func 56) #[] #[(.pointer (some ⟨bt, 0, none⟩)), (.pointer (some ⟨by_, 0, none⟩)), (.pointer (some ⟨bx, 0, none⟩)), (.pointer (some ⟨bp, 0, none⟩))]] 66) :: .snap 0 B wB :: S (remA (extA n) now fr (rangeT (fr + 1) (6 - fr)) ++ C) x0) (by dsimp only; rw [show 7 - (fr + 1) = 6 - fr by omega]) (⟨Nat.lt_succ_self _, by first | omega | (dsimp only; omega), by rw [show 7 - (fr + 1) = 6 - fr by omega]; exact hsf⟩) (⟨rfl, rfl, rfl, rfl, rfl, rfl, rfl, trivial⟩) ?_
    rintro ⟨to, x⟩ ⟨hft, ht7, hsf⟩
    try dsimp only at hft ht7 hsf
    try dsimp only at hk
    show T _ _ _ ⟨_, [(0, .slice (some ⟨gA, 0, none⟩) now.length c), (1, (.pointer (some ⟨bt, 0, none⟩))), (2, (.pointer (some ⟨by_, 0, none⟩))), (3, (.pointer (some ⟨bx, 0, none⟩))), (4, (.pointer (some ⟨bp, 0, none⟩))), (7, (.int .i64 (fr : Int))), (8, (.int .i64 (to : Int)))], _⟩ (.row (some ⟨gA, 0, none⟩) now.length c 3 1 (ints now) :: .own r (isMm LS) :: .own by_ (isC [.func (.yield y) #[] #[]] 66) :: .own bx (isC (tblC va vc r) 112) :: .own bp (isC [.func (.func 56) #[] #[(.pointer (some ⟨bt, 0, none⟩)), (.pointer (some ⟨by_, 0, none⟩)), (.pointer (some ⟨bx, 0, none⟩)), (.pointer (some ⟨bp, 0, none⟩))]] 66) :: .snap 0 B wB :: S (remA (extA n) now fr (rangeT (to) (7 - (to))) ++ C) x)
    cases hsu : sureF fr to
    · skip
      refine t_seq ?_
      refine t_seq ?_
      refine t_reg ?_
      refine to_mv rfl rfl ?_
      first | refine to_fa rfl rfl rfl (by simp only [Nat.reduceAdd]; rfl) rfl ?_ | refine to_fae rfl rfl rfl (by simp only [Nat.reduceAdd]; rfl) rfl ?_
      first | refine to_lds rfl rfl rfl ?_ | refine to_ldes rfl (by assumption) rfl rfl ?_
      refine to_lenS rfl rfl ?_
      refine to_lss rfl rfl rfl ?_
      refine to_nil ?_
      refine tn_code ?_
      refine t_if rfl (fun h2 => ?_) (fun h2 => ?_)
      · try simp only [decide_eq_true_eq, decide_eq_false_iff_not, Bool.not_eq_true', Bool.not_eq_false', Int.not_lt, Int.not_le, ne_eq, Decidable.not_not] at h2
        try have h2b := inB_iff.1 h2
        have htl : to < 7 := by omega
        first | rw [remT htl hsu] at hsf ⊢ | rw [remF htl hsu] at hsf ⊢
        refine t_skip ?_
        refine tn_code ?_
        refine t_seq ?_
        refine t_blk ?_
        refine t_seq ?_
        try have hsf3 := hsf
        try have hsf2 := (List.suffix_append _ _).trans hsf
        refine t_regA [4] 4 [.own bx (isC (tblC va vc r) 112), .own bp (isC [.func (.func 56) #[] #[(.pointer (some ⟨bt, 0, none⟩)), (.pointer (some ⟨by_, 0, none⟩)), (.pointer (some ⟨bx, 0, none⟩)), (.pointer (some ⟨bp, 0, none⟩))]] 66)] [.own bx (isC (tblC va vc r) 112), .own bp (isC [.func (.func 56) #[] #[(.pointer (some ⟨bt, 0, none⟩)), (.pointer (some ⟨by_, 0, none⟩)), (.pointer (some ⟨bx, 0, none⟩)), (.pointer (some ⟨bp, 0, none⟩))]] 66)] 15 rfl rfl (by kernel_rfl) (by kernel_rfl) (by kernel_rfl) ?_
        refine ta_q1 ?e1 (k := 0) [4] (by kernel_rfl) rfl rfl ?q1 ?r1
        case q1 =>
          first | refine to_lda rfl rfl rfl ?_ | refine to_ldea rfl (by assumption) rfl rfl ?_
          exact tpq_end
        refine ta_q2 ?e2 (k := 1) (by kernel_rfl) rfl ?q2 ?r2
        case q2 =>
          refine to_mv rfl rfl ?_
          exact tpq_end
        refine ta_q2 ?e3 (k := 2) (by kernel_rfl) rfl ?q3 ?r3
        case q3 =>
          refine to_mv rfl rfl ?_
          exact tpq_end
        refine ta_q2 ?e4 (k := 3) (by kernel_rfl) rfl ?q4 ?r4
        case q4 =>
          refine to_bs rfl rfl ?_
          exact tpq_end
        refine ta_fork [4] (by kernel_rfl) rfl ?_
        refine ⟨⟨_, rfl, wanted_none rfl, ?_⟩, trivial⟩
        refine to_callL [.own r (isMm LS), .snap 0 B wB] (fun _ : Unit => [.own r (isMm LS), .snap 0 B wB]) rfl rfl (fun R w9 hw => st_sure va vc r fr to B wB R w9 hva hft htl hw) rfl (fun zU => ?_)
        refine to_nrm (A := [.own r (isMm LS), .snap 0 B wB]) ?_
        refine to_fix (s := 37) (b' := false) rfl hsu ?_
        refine ta_se2 (by kernel_rfl) rfl ?_
        refine ta_q2 ?e5 (k := 5) (by kernel_rfl) rfl ?q5 ?r5
        case q5 =>
          refine to_mv rfl rfl ?_
          exact tpq_end
        refine ta_q2 ?e6 (k := 6) (by kernel_rfl) rfl ?q6 ?r6
        case q6 =>
          refine to_gf rfl rfl rfl rfl ?_
          exact tpq_end
        refine ta_q2 ?e7 (k := 7) (by kernel_rfl) rfl ?q7 ?r7
        case q7 =>
          refine to_gf rfl rfl rfl rfl ?_
          exact tpq_end
        refine ta_q2 ?e8 (k := 8) (by kernel_rfl) rfl ?q8 ?r8
        case q8 =>
          refine to_gf rfl rfl rfl rfl ?_
          exact tpq_end
        refine ta_q2 ?e9 (k := 9) (by kernel_rfl) rfl ?q9 ?r9
        case q9 =>
          refine to_gf rfl rfl rfl rfl ?_
          exact tpq_end
        refine ta_q2 ?e10 (k := 10) (by kernel_rfl) rfl ?q10 ?r10
        case q10 =>
          refine to_gf rfl rfl rfl rfl ?_
          exact tpq_end
        refine ta_q2 ?e11 (k := 11) (by kernel_rfl) rfl ?q11 ?r11
        case q11 =>
          refine to_gf rfl rfl rfl rfl ?_
          exact tpq_end
        refine ta_q2 ?e12 (k := 12) (by kernel_rfl) rfl ?q12 ?r12
        case q12 =>
          refine to_gf rfl rfl rfl rfl ?_
          exact tpq_end
        refine ta_q2 ?e13 (k := 13) (by kernel_rfl) rfl ?q13 ?r13
        case q13 =>
          refine to_gf rfl rfl rfl rfl ?_
          exact tpq_end
        refine ta_q2 ?e14 (k := 14) (by kernel_rfl) rfl ?q14 ?r14
        case q14 =>
          refine to_pkF rfl rfl rfl ?_
          exact tpq_end
        refine ta_nil (by kernel_rfl) ?_
        refine tn_code ?_
        refine t_ifF rfl ?_
        refine t_skip ?_
        refine tn_blk ?_
        refine tn_code ?_
        refine t_reg ?_
        refine to_mv rfl rfl ?_
        refine to_add rfl rfl (by omega) rfl ?_
        refine to_as rfl rfl ?_
        refine to_nil ?_
        exact tn_loop2 ((to + 1, x)) (.row (some ⟨gA, 0, none⟩) now.length c 3 1 (ints now) :: .own r (isMm LS) :: .own by_ (isC [.func (.yield y) #[] #[]] 66) :: .own bx (isC (tblC va vc r) 112) :: .own bp (isC [.func (.func 56) #[] #[(.pointer (some ⟨bt, 0, none⟩)), (.pointer (some ⟨by_, 0, none⟩)), (.pointer (some ⟨bx, 0, none⟩)), (.pointer (some ⟨bp, 0, none⟩))]] 66) :: .snap 0 B wB :: S (remA (extA n) now fr (rangeT (to + 1) (7 - (to + 1))) ++ C) x) (rfl) (⟨by first | omega | (dsimp only; omega), by first | omega | (dsimp only; omega), hsf⟩) (by dsimp only; omega) (⟨rfl, rfl, rfl, rfl, rfl, rfl, rfl, trivial⟩)
      · try simp only [decide_eq_true_eq, decide_eq_false_iff_not, Bool.not_eq_true', Bool.not_eq_false', Int.not_lt, Int.not_le, ne_eq, Decidable.not_not] at h2
        try have h2b := inB_iff.1 h2
        obtain rfl : to = 7 := by omega
        rw [show remA (extA n) now fr (rangeT 7 (7 - 7)) ++ C = C from rfl]
        refine t_exit ?_
        refine tx_code ?_
        refine tx_inv ?_
        refine tx_blk ?_
        refine tn_code ?_
        refine t_seq ?_
        refine t_reg ?_
        refine to_as rfl rfl ?_
        refine to_nil ?_
        refine tn_code ?_
        refine t_ret1G rfl rfl (res_tmp rfl) (fun w' s => ?_)
        exact ⟨rfl, s.ext, x, (s.sub (H' := (.own r (isMm LS) :: .own by_ (isC [.func (.yield y) #[] #[]] 66) :: .own bx (isC (tblC va vc r) 112) :: .own bp (isC [.func (.func 56) #[] #[(.pointer (some ⟨bt, 0, none⟩)), (.pointer (some ⟨by_, 0, none⟩)), (.pointer (some ⟨bx, 0, none⟩)), (.pointer (some ⟨bp, 0, none⟩))]] 66) :: .snap 0 B wB :: S C x))).stL⟩
    · skip
      refine t_seq ?_
      refine t_seq ?_
      refine t_reg ?_
      refine to_mv rfl rfl ?_
      first | refine to_fa rfl rfl rfl (by simp only [Nat.reduceAdd]; rfl) rfl ?_ | refine to_fae rfl rfl rfl (by simp only [Nat.reduceAdd]; rfl) rfl ?_
      first | refine to_lds rfl rfl rfl ?_ | refine to_ldes rfl (by assumption) rfl rfl ?_
      refine to_lenS rfl rfl ?_
      refine to_lss rfl rfl rfl ?_
      refine to_nil ?_
      refine tn_code ?_
      refine t_if rfl (fun h3 => ?_) (fun h3 => ?_)
      · try simp only [decide_eq_true_eq, decide_eq_false_iff_not, Bool.not_eq_true', Bool.not_eq_false', Int.not_lt, Int.not_le, ne_eq, Decidable.not_not] at h3
        try have h3b := inB_iff.1 h3
        have htl : to < 7 := by omega
        first | rw [remT htl hsu] at hsf ⊢ | rw [remF htl hsu] at hsf ⊢
        refine t_skip ?_
        refine tn_code ?_
        refine t_seq ?_
        refine t_blk ?_
        refine t_seq ?_
        try have hsf3 := hsf
        try have hsf2 := (List.suffix_append _ _).trans hsf
        refine t_regA [4, 8, 10, 11, 12] 12 [.own bx (isC (tblC va vc r) 112), .own bp (isC [.func (.func 56) #[] #[(.pointer (some ⟨bt, 0, none⟩)), (.pointer (some ⟨by_, 0, none⟩)), (.pointer (some ⟨bx, 0, none⟩)), (.pointer (some ⟨bp, 0, none⟩))]] 66)] [.own bx (isC (tblC va vc r) 112), .own bp (isC [.func (.func 56) #[] #[(.pointer (some ⟨bt, 0, none⟩)), (.pointer (some ⟨by_, 0, none⟩)), (.pointer (some ⟨bx, 0, none⟩)), (.pointer (some ⟨bp, 0, none⟩))]] 66)] 15 rfl rfl (by kernel_rfl) (by kernel_rfl) (by kernel_rfl) ?_
        refine ta_q1 ?e15 (k := 0) [4, 5, 12] (by kernel_rfl) rfl rfl ?q15 ?r15
        case q15 =>
          first | refine to_lda rfl rfl rfl ?_ | refine to_ldea rfl (by assumption) rfl rfl ?_
          exact tpq_end
        refine ta_q2 ?e16 (k := 1) (by kernel_rfl) rfl ?q16 ?r16
        case q16 =>
          refine to_mv rfl rfl ?_
          exact tpq_end
        refine ta_q2 ?e17 (k := 2) (by kernel_rfl) rfl ?q17 ?r17
        case q17 =>
          refine to_mv rfl rfl ?_
          exact tpq_end
        refine ta_q2 ?e18 (k := 3) (by kernel_rfl) rfl ?q18 ?r18
        case q18 =>
          refine to_bs rfl rfl ?_
          exact tpq_end
        refine ta_fork [4] (by kernel_rfl) rfl ?_
        refine ⟨⟨_, rfl, wanted_none rfl, ?_⟩, trivial⟩
        refine to_callL [.own r (isMm LS), .snap 0 B wB] (fun _ : Unit => [.own r (isMm LS), .snap 0 B wB]) rfl rfl (fun R w9 hw => st_sure va vc r fr to B wB R w9 hva hft htl hw) rfl (fun zU => ?_)
        refine to_nrm (A := [.own r (isMm LS), .snap 0 B wB]) ?_
        refine to_fix (s := 37) (b' := true) rfl hsu ?_
        refine ta_se1 rfl ?_
        refine ta_q2 ?e19 (k := 5) (by kernel_rfl) rfl ?q19 ?r19
        case q19 =>
          refine to_mv rfl rfl ?_
          exact tpq_end
        refine ta_q1 ?e20 (k := 6) [12] (by kernel_rfl) rfl rfl ?q20 ?r20
        case q20 =>
          refine to_gt rfl rfl ?_
          first | refine to_lds rfl rfl rfl ?_ | refine to_ldes rfl (by assumption) rfl rfl ?_
          exact tpq_end
        refine ta_q2 ?e21 (k := 7) (by kernel_rfl) rfl ?q21 ?r21
        case q21 =>
          refine to_gt rfl rfl ?_
          refine to_mv rfl rfl ?_
          exact tpq_end
        refine ta_q2 ?e22 (k := 9) (by kernel_rfl) rfl ?q22 ?r22
        case q22 =>
          refine to_gt rfl rfl ?_
          refine to_mv rfl rfl ?_
          exact tpq_end
        refine ta_fork [8, 10] (by kernel_rfl) rfl ?_
        refine ⟨⟨_, rfl, wanted_t rfl rfl, ?_⟩, ⟨_, rfl, wanted_t rfl rfl, ?_⟩, trivial⟩
        · skip
          refine to_gt rfl rfl ?_
          refine to_callB [.row (some ⟨gA, 0, none⟩) now.length c 3 1 (ints now)] (fun b : Option Addr × Nat => .slice b.1 now.length b.2) (fun b => [.row b.1 now.length b.2 3 1 (ints now), .row (some ⟨gA, 0, none⟩) now.length c 3 1 (ints now)]) rfl rfl (fun R w9 hw => st_Clone now _ c R w9 (by omega) hw) rfl (fun zC => ?_)
          obtain ⟨aC, cC⟩ := zC
          refine to_nrm (A := [.row aC now.length cC 3 1 (ints now), .row (some ⟨gA, 0, none⟩) now.length c 3 1 (ints now)]) ?_
          refine ta_se1 rfl ?_
          refine ta_fork [10] (by kernel_rfl) rfl ?_
          refine ⟨⟨_, rfl, wanted_t rfl rfl, ?_⟩, trivial⟩
          refine to_gt rfl rfl ?_
          refine to_bsl rfl rfl rfl rfl (fun a43 => ?_)
          refine ta_se1 rfl ?_
          refine ta_fork [11] (by kernel_rfl) rfl ?_
          refine ⟨⟨_, rfl, wanted_t rfl rfl, ?_⟩, trivial⟩
          refine to_gt rfl rfl ?_
          refine to_app rfl rfl rfl (by simp [scals, scal]) (by decide) (by omega) (by decide) rfl (fun a44 c44 => ?_)
          refine ta_se1 rfl ?_
          refine ta_fork [12] (by kernel_rfl) rfl ?_
          refine ⟨⟨_, rfl, wanted_t rfl rfl, ?_⟩, trivial⟩
          refine to_gt rfl rfl ?_
          refine to_callT [.row a44 (now.length + 1) c44 3 1 (ints now ++ [[.int .i64 (to : Int)]]), .own r (isMm LS), .own by_ (isC [.func (.yield y) #[] #[]] 66), .own bx (isC (tblC va vc r) 112), .own bp (isC [.func (.func 56) #[] #[(.pointer (some ⟨bt, 0, none⟩)), (.pointer (some ⟨by_, 0, none⟩)), (.pointer (some ⟨bx, 0, none⟩)), (.pointer (some ⟨bp, 0, none⟩))]] 66), .snap 0 B wB] (S (extA n (now ++ [(to : Int)]) to ++ (remA (extA n) now fr (rangeT (to + 1) (7 - (to + 1))) ++ C)) x) [.own r (isMm LS), .own by_ (isC [.func (.yield y) #[] #[]] 66), .own bx (isC (tblC va vc r) 112), .own bp (isC [.func (.func 56) #[] #[(.pointer (some ⟨bt, 0, none⟩)), (.pointer (some ⟨by_, 0, none⟩)), (.pointer (some ⟨bx, 0, none⟩)), (.pointer (some ⟨bp, 0, none⟩))]] 66), .snap 0 B wB] (fun z => S (remA (extA n) now fr (rangeT (to + 1) (7 - (to + 1))) ++ C) z) rfl rfl (fun w9 hw => by
            have h9 := ih (S := fun L z => S L z ++ _) (hY.app _) (now ++ [(to : Int)]) to a44 c44 (remA (extA n) now fr (rangeT (to + 1) (7 - (to + 1))) ++ C) x w9 (by omega) (by omega) (by rw [List.length_append]; simp; omega) (by simp) (by simp) hsf3 (by rw [List.length_append, ints_snoc, List.length_singleton]; exact hw)
            rw [List.length_append, List.length_singleton] at h9
            exact h9) rfl (fun zP => ?_)
          refine to_nrm3 (A := [.own r (isMm LS), .own by_ (isC [.func (.yield y) #[] #[]] 66), .own bx (isC (tblC va vc r) 112), .own bp (isC [.func (.func 56) #[] #[(.pointer (some ⟨bt, 0, none⟩)), (.pointer (some ⟨by_, 0, none⟩)), (.pointer (some ⟨bx, 0, none⟩)), (.pointer (some ⟨bp, 0, none⟩))]] 66), .snap 0 B wB]) (T := S (remA (extA n) now fr (rangeT (to + 1) (7 - (to + 1))) ++ C) zP) ?_
          refine ta_se2 (by kernel_rfl) rfl ?_
          refine ta_q2 ?e23 (k := 13) (by kernel_rfl) rfl ?q23 ?r23
          case q23 =>
            refine to_gt rfl rfl ?_
            refine to_not rfl rfl ?_
            exact tpq_end
          refine ta_q2 ?e24 (k := 14) (by kernel_rfl) rfl ?q24 ?r24
          case q24 =>
            refine to_pkT rfl rfl rfl ?_
            exact tpq_end
          refine ta_nil (by kernel_rfl) ?_
          refine tn_code ?_
          refine t_ifF rfl ?_
          refine t_skip ?_
          refine tn_blk ?_
          refine tn_code ?_
          refine t_reg ?_
          refine to_mv rfl rfl ?_
          refine to_add rfl rfl (by omega) rfl ?_
          refine to_as rfl rfl ?_
          refine to_nil ?_
          exact tn_loop2 ((to + 1, zP)) (.row (some ⟨gA, 0, none⟩) now.length c 3 1 (ints now) :: .own r (isMm LS) :: .own by_ (isC [.func (.yield y) #[] #[]] 66) :: .own bx (isC (tblC va vc r) 112) :: .own bp (isC [.func (.func 56) #[] #[(.pointer (some ⟨bt, 0, none⟩)), (.pointer (some ⟨by_, 0, none⟩)), (.pointer (some ⟨bx, 0, none⟩)), (.pointer (some ⟨bp, 0, none⟩))]] 66) :: .snap 0 B wB :: S (remA (extA n) now fr (rangeT (to + 1) (7 - (to + 1))) ++ C) zP) (rfl) (⟨by first | omega | (dsimp only; omega), by first | omega | (dsimp only; omega), hsf2⟩) (by dsimp only; omega) (⟨rfl, rfl, rfl, rfl, rfl, rfl, rfl, trivial⟩)
        · skip
          refine to_gt rfl rfl ?_
          refine to_bsl rfl rfl rfl rfl (fun a43 => ?_)
          refine ta_se1 rfl ?_
          refine ta_fork [8] (by kernel_rfl) rfl ?_
          refine ⟨⟨_, rfl, wanted_t rfl rfl, ?_⟩, trivial⟩
          refine to_gt rfl rfl ?_
          refine to_callB [.row (some ⟨gA, 0, none⟩) now.length c 3 1 (ints now)] (fun b : Option Addr × Nat => .slice b.1 now.length b.2) (fun b => [.row b.1 now.length b.2 3 1 (ints now), .row (some ⟨gA, 0, none⟩) now.length c 3 1 (ints now)]) rfl rfl (fun R w9 hw => st_Clone now _ c R w9 (by omega) hw) rfl (fun zC => ?_)
          obtain ⟨aC, cC⟩ := zC
          refine to_nrm (A := [.row aC now.length cC 3 1 (ints now), .row (some ⟨gA, 0, none⟩) now.length c 3 1 (ints now)]) ?_
          refine ta_se1 rfl ?_
          refine ta_fork [11] (by kernel_rfl) rfl ?_
          refine ⟨⟨_, rfl, wanted_t rfl rfl, ?_⟩, trivial⟩
          refine to_gt rfl rfl ?_
          refine to_app rfl rfl rfl (by simp [scals, scal]) (by decide) (by omega) (by decide) rfl (fun a44 c44 => ?_)
          refine ta_se1 rfl ?_
          refine ta_fork [12] (by kernel_rfl) rfl ?_
          refine ⟨⟨_, rfl, wanted_t rfl rfl, ?_⟩, trivial⟩
          refine to_gt rfl rfl ?_
          refine to_callT [.row a44 (now.length + 1) c44 3 1 (ints now ++ [[.int .i64 (to : Int)]]), .own r (isMm LS), .own by_ (isC [.func (.yield y) #[] #[]] 66), .own bx (isC (tblC va vc r) 112), .own bp (isC [.func (.func 56) #[] #[(.pointer (some ⟨bt, 0, none⟩)), (.pointer (some ⟨by_, 0, none⟩)), (.pointer (some ⟨bx, 0, none⟩)), (.pointer (some ⟨bp, 0, none⟩))]] 66), .snap 0 B wB] (S (extA n (now ++ [(to : Int)]) to ++ (remA (extA n) now fr (rangeT (to + 1) (7 - (to + 1))) ++ C)) x) [.own r (isMm LS), .own by_ (isC [.func (.yield y) #[] #[]] 66), .own bx (isC (tblC va vc r) 112), .own bp (isC [.func (.func 56) #[] #[(.pointer (some ⟨bt, 0, none⟩)), (.pointer (some ⟨by_, 0, none⟩)), (.pointer (some ⟨bx, 0, none⟩)), (.pointer (some ⟨bp, 0, none⟩))]] 66), .snap 0 B wB] (fun z => S (remA (extA n) now fr (rangeT (to + 1) (7 - (to + 1))) ++ C) z) rfl rfl (fun w9 hw => by
            have h9 := ih (S := fun L z => S L z ++ _) (hY.app _) (now ++ [(to : Int)]) to a44 c44 (remA (extA n) now fr (rangeT (to + 1) (7 - (to + 1))) ++ C) x w9 (by omega) (by omega) (by rw [List.length_append]; simp; omega) (by simp) (by simp) hsf3 (by rw [List.length_append, ints_snoc, List.length_singleton]; exact hw)
            rw [List.length_append, List.length_singleton] at h9
            exact h9) rfl (fun zP => ?_)
          refine to_nrm3 (A := [.own r (isMm LS), .own by_ (isC [.func (.yield y) #[] #[]] 66), .own bx (isC (tblC va vc r) 112), .own bp (isC [.func (.func 56) #[] #[(.pointer (some ⟨bt, 0, none⟩)), (.pointer (some ⟨by_, 0, none⟩)), (.pointer (some ⟨bx, 0, none⟩)), (.pointer (some ⟨bp, 0, none⟩))]] 66), .snap 0 B wB]) (T := S (remA (extA n) now fr (rangeT (to + 1) (7 - (to + 1))) ++ C) zP) ?_
          refine ta_se2 (by kernel_rfl) rfl ?_
          refine ta_q2 ?e25 (k := 13) (by kernel_rfl) rfl ?q25 ?r25
          case q25 =>
            refine to_gt rfl rfl ?_
            refine to_not rfl rfl ?_
            exact tpq_end
          refine ta_q2 ?e26 (k := 14) (by kernel_rfl) rfl ?q26 ?r26
          case q26 =>
            refine to_pkT rfl rfl rfl ?_
            exact tpq_end
          refine ta_nil (by kernel_rfl) ?_
          refine tn_code ?_
          refine t_ifF rfl ?_
          refine t_skip ?_
          refine tn_blk ?_
          refine tn_code ?_
          refine t_reg ?_
          refine to_mv rfl rfl ?_
          refine to_add rfl rfl (by omega) rfl ?_
          refine to_as rfl rfl ?_
          refine to_nil ?_
          exact tn_loop2 ((to + 1, zP)) (.row (some ⟨gA, 0, none⟩) now.length c 3 1 (ints now) :: .own r (isMm LS) :: .own by_ (isC [.func (.yield y) #[] #[]] 66) :: .own bx (isC (tblC va vc r) 112) :: .own bp (isC [.func (.func 56) #[] #[(.pointer (some ⟨bt, 0, none⟩)), (.pointer (some ⟨by_, 0, none⟩)), (.pointer (some ⟨bx, 0, none⟩)), (.pointer (some ⟨bp, 0, none⟩))]] 66) :: .snap 0 B wB :: S (remA (extA n) now fr (rangeT (to + 1) (7 - (to + 1))) ++ C) zP) (rfl) (⟨by first | omega | (dsimp only; omega), by first | omega | (dsimp only; omega), hsf2⟩) (by dsimp only; omega) (⟨rfl, rfl, rfl, rfl, rfl, rfl, rfl, trivial⟩)
      · try simp only [decide_eq_true_eq, decide_eq_false_iff_not, Bool.not_eq_true', Bool.not_eq_false', Int.not_lt, Int.not_le, ne_eq, Decidable.not_not] at h3
        try have h3b := inB_iff.1 h3
        obtain rfl : to = 7 := by omega
        rw [show remA (extA n) now fr (rangeT 7 (7 - 7)) ++ C = C from rfl]
        refine t_exit ?_
        refine tx_code ?_
        refine tx_inv ?_
        refine tx_blk ?_
        refine tn_code ?_
        refine t_seq ?_
        refine t_reg ?_
        refine to_as rfl rfl ?_
        refine to_nil ?_
        refine tn_code ?_
        refine t_ret1G rfl rfl (res_tmp rfl) (fun w' s => ?_)
        exact ⟨rfl, s.ext, x, (s.sub (H' := (.own r (isMm LS) :: .own by_ (isC [.func (.yield y) #[] #[]] 66) :: .own bx (isC (tblC va vc r) 112) :: .own bp (isC [.func (.func 56) #[] #[(.pointer (some ⟨bt, 0, none⟩)), (.pointer (some ⟨by_, 0, none⟩)), (.pointer (some ⟨bx, 0, none⟩)), (.pointer (some ⟨bp, 0, none⟩))]] 66) :: .snap 0 B wB :: S C x))).stL⟩

end Go.Proofs


namespace Go.Proofs
open Go Go.Sx Go.RowKit

set_option maxRecDepth 20000 in
theorem st_seqL {β : Type} (va : Option Addr) (vc bt y B : Nat) (wB : World) (hva : Ro wB 0 B va 7 vc 2 (spans tbA)) (hbt : Rb wB 0 B bt (stC va vc)) {S : List (List Int) → β → List Seg} (hY : HY y S) (x0 : β) (w : World) (hw : StL (.snap 0 B wB :: S listsA x0) w) : Calls Tryz.prog 54 #[.func (.yield y) #[] #[], (.pointer (some ⟨bt, 0, none⟩))] w (fun e w' => e = .returned (.tuple #[]) ∧ Ext w w' ∧ ∃ x, StL (.snap 0 B wB :: S [] x) w') := by
  refine calls_TG (av := [_, _]) Tryz.func54 rfl rfl rfl (hw.st (Ext.refl w)) ?_
  refine t_seq ?_
  refine t_reg ?_
  refine to_box rfl rfl (fun b2 => ?_)
  refine to_nil ?_
  refine tn_code ?_
  refine t_seq ?_
  refine t_reg ?_
  first | refine to_lda rfl rfl rfl ?_ | refine to_ldea rfl (by assumption) rfl rfl ?_
  refine to_callR rfl rfl (fun w s => st_tableOf va vc w) rfl (fun v6 lo6 w6 hlo6 hR6 => ?_)
  obtain ⟨r, rfl, hlr, hrh, hmo⟩ := hR6
  refine to_snapMm w6 hlr hrh hmo ?_
  refine to_alloc rfl (fun b3 => ?_)
  first | refine to_st rfl rfl rfl rfl ?_ | refine to_ste rfl rfl (by assumption) rfl rfl ?_
  refine to_nil ?_
  refine tn_code ?_
  refine t_seq ?_
  refine t_reg ?_
  refine to_alloc rfl (fun b4 => ?_)
  refine to_nil ?_
  refine tn_code ?_
  refine t_seq ?_
  refine t_reg ?_
  refine to_mf rfl rfl rfl ?_
  refine to_fixv (s := 7) (v' := .func (.func 56) #[] #[(.pointer (some ⟨bt, 0, none⟩)), (.pointer (some ⟨b2, 0, none⟩)), (.pointer (some ⟨b3, 0, none⟩)), (.pointer (some ⟨b4, 0, none⟩))]) rfl rfl ?_
  first | refine to_st rfl rfl rfl rfl ?_ | refine to_ste rfl rfl (by assumption) rfl rfl ?_
  refine to_nil ?_
  refine tn_code ?_
  refine t_reg ?_
  first | refine to_lds rfl rfl rfl ?_ | refine to_ldes rfl (by assumption) rfl rfl ?_
  refine to_bsl rfl rfl rfl rfl (fun a9 => ?_)
  refine to_callT (v := .bool true) (.row a9 1 1 3 1 [[.int .i64 0]] :: [.own r (isMm LS), .own b2 (isC [.func (.yield y) #[] #[]] 66), .own b3 (isC (tblC va vc r) 112), .own b4 (isC [.func (.func 56) #[] #[(.pointer (some ⟨bt, 0, none⟩)), (.pointer (some ⟨b2, 0, none⟩)), (.pointer (some ⟨b3, 0, none⟩)), (.pointer (some ⟨b4, 0, none⟩))]] 66), .snap 0 B wB]) (S listsA x0) [.own r (isMm LS), .own b2 (isC [.func (.yield y) #[] #[]] 66), .own b3 (isC (tblC va vc r) 112), .own b4 (isC [.func (.func 56) #[] #[(.pointer (some ⟨bt, 0, none⟩)), (.pointer (some ⟨b2, 0, none⟩)), (.pointer (some ⟨b3, 0, none⟩)), (.pointer (some ⟨b4, 0, none⟩))]] 66), .snap 0 B wB] (fun z => S [] z) rfl rfl (fun w9 hw => ?_) rfl (fun zP => ?_)
  · have h9 := st_put va vc r bt b2 b3 b4 y B wB hva hbt 7 (S := fun L z => S L z ++ [.snap lo6 r w6]) (hY.app _) [0] 0 a9 1 [] x0 w9 (by decide) (by decide) (by decide) (by decide) rfl (by rw [List.append_nil (extA 7 [0] 0)]; exact List.suffix_rfl) (by rw [List.append_nil (extA 7 [0] 0)]; exact hw)
    exact h9
  refine to_nrm3 (A := [.own r (isMm LS), .own b2 (isC [.func (.yield y) #[] #[]] 66), .own b3 (isC (tblC va vc r) 112), .own b4 (isC [.func (.func 56) #[] #[(.pointer (some ⟨bt, 0, none⟩)), (.pointer (some ⟨b2, 0, none⟩)), (.pointer (some ⟨b3, 0, none⟩)), (.pointer (some ⟨b4, 0, none⟩))]] 66), .snap 0 B wB]) (T := S [] zP) ?_
  · skip
    refine to_nil ?_
    exact t_end0G rfl rfl (fun w' s => ⟨rfl, s.ext, zP, (s.sub (H' := .snap 0 B wB :: S [] zP)).stL⟩)

end Go.Proofs


namespace Go.Proofs
open Go Go.Sx Go.RowKit

theorem perm5 {α : Type} (a b1 b2 b3 b4 b5 : α) (T : List α) : (a :: b1 :: b2 :: b3 :: b4 :: b5 :: T).Perm (b1 :: b2 :: b3 :: b4 :: b5 :: a :: T) := (List.perm_middle (a := a) (l₁ := [b1, b2, b3, b4, b5]) (l₂ := T)).symm
def rowsL (ls : List Li) : List Seg := (ls.map fun l => .row l.a l.xs.length l.c 3 1 (ints l.xs)).reverse
theorem rowsL_snoc (ls : List Li) (l : Li) : rowsL (ls ++ [l]) = .row l.a l.xs.length l.c 3 1 (ints l.xs) :: rowsL ls := by simp [rowsL]
theorem mem_rowsL {ls : List Li} {l : Li} (h : l ∈ ls) : .row l.a l.xs.length l.c 3 1 (ints l.xs) ∈ rowsL ls := by
  simp only [rowsL, List.mem_reverse, List.mem_map]
  exact ⟨l, h, rfl⟩
abbrev SSq (K : LKey) (l D b2 : Nat) (L : List (List Int)) (z : Option Addr × Nat × List Li) : List Seg := .own l (isLp K .ready none) :: .own D isDf :: .reg 0 0 (fun _ => z.2.2.map (·.xs) = pfxL listsA L) :: .row z.1 z.2.2.length z.2.1 30 1 (z.2.2.map liC) :: .own b2 (isC [.slice z.1 z.2.2.length z.2.1] 25) :: rowsL z.2.2
abbrev SFq (w : World) (b2 : Nat) (z : Option Addr × Nat × List Li) : List Seg := .snap 0 w.heap.size w :: .reg 0 0 (fun _ => z.2.2.map (·.xs) = pfxL listsA []) :: .row z.1 z.2.2.length z.2.1 30 1 (z.2.2.map liC) :: .own b2 (isC [.slice z.1 z.2.2.length z.2.1] 25) :: rowsL z.2.2
theorem seq_join {w w2 : World} {va : Option Addr} {vc bt b2 l D : Nat} {K : LKey} (hva : Ro w 0 w.heap.size va 7 vc 2 (spans tbA)) (hbt : Rb w 0 w.heap.size bt (stC va vc)) (s : St w (.own l (isLp K .ready none) :: .own D isDf :: [.row none 0 0 30 1 [], .own b2 (isC [.slice none 0 0] 25), .snap 0 w.heap.size w]) w2) (hHY : HY l (SSq K l D b2)) :
    Calls Tryz.prog 54 #[.func (.yield l) #[] #[], (.pointer (some ⟨bt, 0, none⟩))] w2 (fun e w' => e = .returned (.tuple #[]) ∧ Ext w2 w' ∧ ∃ z, StL (.own l (isLp K .ready none) :: .own D isDf :: SFq w b2 z) w') := by
  have s3 := s.fact (p := ([] : List Li).map (·.xs) = pfxL listsA listsA) (by rw [pfxL_all]; rfl)
  have s4 := (s3.sub (H' := [.snap 0 w.heap.size w, .own l (isLp K .ready none), .own D isDf, .reg 0 0 (fun _ => ([] : List Li).map (·.xs) = pfxL listsA listsA), .row none 0 0 30 1 [], .own b2 (isC [.slice none 0 0] 25)])).stL
  refine (st_seqL va vc bt l w.heap.size w hva hbt hHY (none, 0, []) w2 s4).mono ?_
  rintro e w' ⟨rfl, he, z, hz⟩
  exact ⟨rfl, he, z, hz.perm ((List.Perm.swap _ _ _).trans ((List.Perm.swap _ _ _).cons _))⟩
theorem listsA_len : listsA.length = 8 := by kernel_rfl
/-- The lists that are collected. -/
def RLs : Nat → World → Value → Prop := fun lo w1 v => ∃ oa oc, ∃ ls : List Li, v = .slice oa ls.length oc ∧ ls.map (·.xs) = listsA ∧ Ro w1 lo w1.heap.size oa ls.length oc 1 (ls.map liC) ∧ ∀ l ∈ ls, Ro w1 lo w1.heap.size l.a l.xs.length l.c 1 (ints l.xs)

set_option maxRecDepth 20000 in
theorem st_AppendSeq (va : Option Addr) (vc bt : Nat) (w : World) (hva : Ro w 0 w.heap.size va 7 vc 2 (spans tbA)) (hbt : Rb w 0 w.heap.size bt (stC va vc)) : Calls Tryz.prog 53 #[.slice none 0 0, .func (.func 54) #[] #[(.pointer (some ⟨bt, 0, none⟩))]] w (Ret w (RLs)) := by
  refine calls_TM (av := [_, _]) Tryz.func53 rfl rfl rfl ?_
  refine t_seq ?_
  refine t_reg ?_
  refine to_box rfl rfl (fun b2 => ?_)
  refine to_as rfl rfl ?_
  refine to_nil ?_
  refine tn_code ?_
  refine t_seq ?_
  refine t_seq ?_
  refine t_reg ?_
  refine to_mv rfl rfl ?_
  refine to_nil ?_
  refine tn_code ?_
  refine t_blk ?_
  refine t_nilrow 30 1 ?_
  refine t_rfL (β := Option Addr × Nat × List Li) [.row none 0 0 30 1 [], .own b2 (isC [.slice none 0 0] 25), .snap 0 w.heap.size w] rfl rfl (fun z => SFq w b2 z) ?_ ?_
  · intro K l D w₂ hK s₂
    suffices hHY : HY l (SSq K l D b2) from seq_join hva hbt s₂ hHY
    rintro now C ⟨oa, oc, ls⟩ R wr a c hsuf hI
    obtain ⟨_, hfact, _⟩ := hI.2.1 (.reg 0 0 (fun _ => (ls).map (·.xs) = pfxL listsA (now :: C))) (by simp)
    have hll : ls.length ≤ 8 := by
      have h1 := congrArg List.length hfact
      have h2 := listsA_len
      simp only [pfxL, List.length_map, List.length_take] at h1
      omega
    obtain ⟨TT, hTT⟩ : ∃ TT, TT = rowsL ls ++ R := ⟨_, rfl⟩
    have hI2 : StL (.own l (isLp K .ready none) :: .own D isDf :: .reg 0 0 (fun _ => (ls).map (·.xs) = pfxL listsA (now :: C)) :: .row oa ls.length oc 30 1 (ls.map liC) :: .own b2 (isC [.slice oa ls.length oc] 25) :: .row a now.length c 3 1 (ints now) :: TT) wr := by
      rw [hTT]
      exact StL.perm hI (perm5 _ _ _ _ _ _ _)
    refine yc_roundL hK hI2 rfl ?_
    refine t_reg ?_
    refine to_as rfl rfl ?_
    refine to_nil ?_
    refine t_begin ?_
    refine t_blk ?_
    refine t_reg ?_
    first | refine to_lds rfl rfl rfl ?_ | refine to_ldes rfl (by assumption) rfl rfl ?_
    refine to_mv rfl rfl ?_
    refine to_bsl rfl rfl rfl rfl (fun a10 => ?_)
    refine to_app rfl rfl rfl (by simp [scals, scal]) (by decide) (by omega) (by decide) rfl (fun a11 c11 => ?_)
    first | refine to_st rfl rfl rfl rfl ?_ | refine to_ste rfl rfl (by assumption) rfl rfl ?_
    refine to_nil ?_
    refine tn_blk ?_
    refine tx_fact (p := (ls ++ [(⟨now, a, c⟩ : Li)]).map (·.xs) = pfxL listsA C) (by rw [pfxL_cons hsuf, ← hfact]; simp) ?_
    exact t_rendL (K := K) (l := l) (G := fun z => SSq K l D b2 C z ++ R) (a11, c11, ls ++ [(⟨now, a, c⟩ : Li)]) (.own D isDf :: .reg 0 0 (fun _ => (ls ++ [(⟨now, a, c⟩ : Li)]).map (·.xs) = pfxL listsA C) :: .row a11 (ls.length + 1) c11 30 1 (ls.map liC ++ [[.slice a now.length c]]) :: .own b2 (isC [.slice a11 (ls.length + 1) c11] 25) :: .row a now.length c 3 1 (ints now) :: TT) (by subst hTT; simp only [SSq, rowsL_snoc, List.length_append, List.length_cons, List.length_nil, List.map_append, List.map_cons, List.map_nil, List.cons_append])
  · rintro D ⟨oa, oc, ls⟩
    show TX _ _ _ _ (.own D isDf :: .snap 0 w.heap.size w :: .reg 0 0 (fun _ => (ls).map (·.xs) = pfxL listsA []) :: .row oa ls.length oc 30 1 (ls.map liC) :: .own b2 (isC [.slice oa ls.length oc] 25) :: rowsL ls)
    refine tn_blk ?_
    refine tn_code ?_
    refine t_seq ?_
    refine t_reg ?_
    first | refine to_lds rfl rfl rfl ?_ | refine to_ldes rfl (by assumption) rfl rfl ?_
    refine to_as rfl rfl ?_
    refine to_nil ?_
    refine tn_code ?_
    refine t_ret1Ms (Ds := [D]) rfl (res_tmp rfl) (fun w' s => ?_)
    have hfact := s.fact_of (p := ls.map (·.xs) = pfxL listsA []) (by simp)
    rw [pfxL_nil] at hfact
    exact ⟨oa, oc, ls, rfl, hfact, ro_row s, fun l hl => rowOk_ge (w1 := w) (lo := 0) (hi := w.heap.size) s (List.mem_cons_of_mem _ (List.mem_cons_of_mem _ (List.mem_cons_of_mem _ (List.mem_cons_of_mem _ (mem_rowsL hl))))) (by simp) rfl⟩

end Go.Proofs


namespace Go.Proofs
open Go Go.Sx Go.RowKit

set_option maxRecDepth 20000 in
theorem st_Collect (va : Option Addr) (vc bt : Nat) (w : World) (hva : Ro w 0 w.heap.size va 7 vc 2 (spans tbA)) (hbt : Rb w 0 w.heap.size bt (stC va vc)) : Calls Tryz.prog 27 #[.func (.func 54) #[] #[(.pointer (some ⟨bt, 0, none⟩))]] w (Ret w (RLs)) := by
  refine calls_T (av := [_]) Tryz.func27 rfl rfl rfl ?_
  refine t_seq ?_
  refine t_reg ?_
  refine to_as rfl rfl ?_
  refine to_nil ?_
  refine tn_code ?_
  refine t_seq ?_
  refine t_reg ?_
  refine to_mv rfl rfl ?_
  refine to_callR rfl rfl (fun w s => st_AppendSeq va vc bt w (rdw s) (rb_up hbt (belowH_of s))) rfl (fun v4 lo4 w4 hlo4 hR4 => ?_)
  obtain ⟨oa, oc, ls, rfl, hls, hro, hri⟩ := hR4
  refine to_as rfl rfl ?_
  refine to_nil ?_
  refine tn_code ?_
  refine t_ret1 rfl rfl (res_tmp rfl) (fun w' s => ?_)
  exact ⟨oa, oc, ls, rfl, hls, ro_snap s hlo4, fun l hl => (by haveI := hri l hl; exact ro_snap s hlo4)⟩

set_option maxRecDepth 20000 in
theorem st_shorter (a b : Option Addr) (n m c d : Nat) (w : World)  : Calls Tryz.prog 29 #[.slice a n c, .slice b m d] w (RetV w (.bool (decide ((n : Int) < (m : Int))))) := by
  refine calls_T0 (av := [_, _]) Tryz.func29 rfl rfl rfl ?_
  refine t_seq ?_
  refine t_reg ?_
  refine to_as rfl rfl ?_
  refine to_nil ?_
  refine tn_code ?_
  refine t_seq ?_
  refine t_reg ?_
  refine to_mv rfl rfl ?_
  refine to_lenS rfl rfl ?_
  refine to_mv rfl rfl ?_
  refine to_lenS rfl rfl ?_
  refine to_lss rfl rfl rfl ?_
  refine to_as rfl rfl ?_
  refine to_nil ?_
  refine tn_code ?_
  refine t_ret1 rfl rfl (res_tmp rfl) (fun w' s => ?_)
  rfl

/-- The first of the shortest lists. -/
def bstL (ls : List Li) : Nat → Li
  | 0 => ⟨[], none, 0⟩
  | k + 1 => match ls[k]? with
    | some y => if k = 0 ∨ y.xs.length < (bstL ls k).xs.length then y else bstL ls k
    | none => bstL ls k
theorem bstL_t {ls : List Li} {k : Nat} {y : Li} (hy : ls[k]? = some y) (h : k = 0 ∨ y.xs.length < (bstL ls k).xs.length) : bstL ls (k + 1) = y := by simp only [bstL, hy]; rw [if_pos h]
theorem bstL_f {ls : List Li} {k : Nat} {y : Li} (hy : ls[k]? = some y) (h : ¬ (k = 0 ∨ y.xs.length < (bstL ls k).xs.length)) : bstL ls (k + 1) = bstL ls k := by simp only [bstL, hy]; rw [if_neg h]
theorem best8 {ls : List Li} (h : ls.map (·.xs) = listsA) : (bstL ls ls.length).xs = [0, 2, 4, 6] ∧ bstL ls ls.length ∈ ls := by
  have hL : listsA = [[0, 1, 2, 3, 4, 5, 6], [0, 1, 2, 3, 4, 6], [0, 1, 2, 4, 5, 6], [0, 1, 2, 4, 6], [0, 2, 3, 4, 5, 6], [0, 2, 3, 4, 6], [0, 2, 4, 5, 6], [0, 2, 4, 6]] := by kernel_rfl
  rw [hL] at h
  obtain _ | ⟨⟨x0, b0, k0⟩, _ | ⟨⟨x1, b1, k1⟩, _ | ⟨⟨x2, b2, k2⟩, _ | ⟨⟨x3, b3, k3⟩, _ | ⟨⟨x4, b4, k4⟩, _ | ⟨⟨x5, b5, k5⟩, _ | ⟨⟨x6, b6, k6⟩, _ | ⟨⟨x7, b7, k7⟩, _ | ⟨x8, ls⟩⟩⟩⟩⟩⟩⟩⟩⟩ := ls <;> simp at h
  obtain ⟨rfl, rfl, rfl, rfl, rfl, rfl, rfl, rfl⟩ := h
  have hb : bstL [⟨[0, 1, 2, 3, 4, 5, 6], b0, k0⟩, ⟨[0, 1, 2, 3, 4, 6], b1, k1⟩, ⟨[0, 1, 2, 4, 5, 6], b2, k2⟩, ⟨[0, 1, 2, 4, 6], b3, k3⟩, ⟨[0, 2, 3, 4, 5, 6], b4, k4⟩, ⟨[0, 2, 3, 4, 6], b5, k5⟩, ⟨[0, 2, 4, 5, 6], b6, k6⟩, ⟨[0, 2, 4, 6], b7, k7⟩] 8 = ⟨[0, 2, 4, 6], b7, k7⟩ := by kernel_rfl
  refine ⟨congrArg (·.xs) hb, ?_⟩
  show bstL _ 8 ∈ _
  rw [hb]; simp

set_option maxRecDepth 20000 in
theorem st_best (ls : List Li) (oa : Option Addr) (oc : Nat) (w : World) (hr : Ro w 0 w.heap.size oa ls.length oc 1 (ls.map liC)) (hl : ls.length ≤ 100) : Calls Tryz.prog 26 #[.slice oa ls.length oc, .func (.func 29) #[] #[]] w (RetV w (.tuple #[.slice (bstL ls ls.length).a (bstL ls ls.length).xs.length (bstL ls ls.length).c, .bool (decide (0 < (ls.length : Int)))])) := by
  refine calls_T0 (av := [_, _]) Tryz.func26 rfl rfl rfl ?_
  refine t_seq ?_
  refine t_reg ?_
  refine to_as rfl rfl ?_
  refine to_as rfl rfl ?_
  refine to_nil ?_
  refine tn_code ?_
  refine t_seq ?_
  refine t_reg ?_
  refine to_as rfl rfl ?_
  refine to_nil ?_
  refine tn_code ?_
  refine t_seq ?_
  refine t_seq ?_
  refine t_reg ?_
  refine to_mv rfl rfl ?_
  refine to_lenS rfl rfl ?_
  refine to_mv rfl rfl ?_
  refine to_nil ?_
  refine tn_code ?_
  refine t_blk ?_
  refine t_loop2 (ι := Nat) (fun k => k ≤ ls.length) (fun k => [(0, .slice oa ls.length oc), (1, .func (.func 29) #[] #[]), (6, .slice (bstL ls k).a (bstL ls k).xs.length (bstL ls k).c), (9, .slice oa ls.length oc), (10, (.int .i64 (ls.length : Int))), (11, (.int .i64 (k : Int)))]) (fun k => [.snap 0 w.heap.size w]) (fun k => ls.length - k) (0) [.snap 0 w.heap.size w] (rfl) (Nat.zero_le _) (⟨rfl, rfl, rfl, rfl, rfl, rfl, trivial⟩) ?_
  rintro k hk
  show T _ _ _ ⟨_, [(0, .slice oa ls.length oc), (1, .func (.func 29) #[] #[]), (6, .slice (bstL ls k).a (bstL ls k).xs.length (bstL ls k).c), (9, .slice oa ls.length oc), (10, (.int .i64 (ls.length : Int))), (11, (.int .i64 (k : Int)))], _⟩ [.snap 0 w.heap.size w]
  refine t_seq ?_
  refine t_reg ?_
  refine to_lss rfl rfl rfl ?_
  refine to_nil ?_
  refine tn_code ?_
  refine t_seq ?_
  refine t_if rfl (fun h1 => ?_) (fun h1 => ?_)
  · try simp only [decide_eq_true_eq, decide_eq_false_iff_not, Bool.not_eq_true', Bool.not_eq_false', Int.not_lt, Int.not_le, ne_eq, Decidable.not_not] at h1
    try have h1b := inB_iff.1 h1
    obtain ⟨y, hy⟩ := some_get (xs := ls) (k := k) (by omega)
    have hx := map_get (f := liC) hy
    refine t_skip ?_
    refine tn_code ?_
    refine t_seq ?_
    refine t_blk ?_
    refine t_seq ?_
    refine t_reg ?_
    refine to_mv rfl rfl ?_
    first | refine to_ix rfl rfl rfl (by first | omega | decide) (by first | omega | decide) rfl ?_ | refine to_ixi rfl rfl rfl (by omega) (by omega) (by omega) rfl ?_
    first | refine to_lds rfl rfl rfl ?_ | refine to_ldes rfl (by assumption) rfl rfl ?_
    refine to_as rfl rfl ?_
    refine to_as rfl rfl ?_
    refine to_nil ?_
    refine tn_code ?_
    refine t_seq ?_
    refine t_reg ?_
    refine to_mv rfl rfl ?_
    refine to_eql rfl rfl rfl ?_
    refine to_mv rfl rfl ?_
    refine to_gs rfl rfl rfl (fun h2 => ?_) (fun h2 => ?_)
    · try simp only [decide_eq_true_eq, decide_eq_false_iff_not, Bool.not_eq_true', Bool.not_eq_false', Int.not_lt, Int.not_le, ne_eq, Decidable.not_not] at h2
      try have h2b := inB_iff.1 h2
      refine to_gf rfl rfl rfl rfl ?_
      refine to_gf rfl rfl rfl rfl ?_
      refine to_gf rfl rfl rfl rfl ?_
      refine to_gf rfl rfl rfl rfl ?_
      refine to_pkT rfl rfl rfl ?_
      refine to_nil ?_
      refine tn_code ?_
      refine t_ifT rfl ?_
      refine t_reg ?_
      refine to_mv rfl rfl ?_
      refine to_as rfl rfl ?_
      refine to_nil ?_
      refine tn_blk ?_
      refine tn_code ?_
      refine t_reg ?_
      refine to_add rfl rfl (by omega) rfl ?_
      refine to_mv rfl rfl ?_
      refine to_nil ?_
      exact tn_loop2 (k + 1) [.snap 0 w.heap.size w] (rfl) (by omega) (by omega) (⟨rfl, rfl, congrArg (fun l : Li => some (Value.slice l.a l.xs.length l.c)) (bstL_t hy (.inl (by omega))).symm, rfl, rfl, rfl, trivial⟩)
    · try simp only [decide_eq_true_eq, decide_eq_false_iff_not, Bool.not_eq_true', Bool.not_eq_false', Int.not_lt, Int.not_le, ne_eq, Decidable.not_not] at h2
      try have h2b := inB_iff.1 h2
      refine to_gt rfl rfl ?_
      refine to_mv rfl rfl ?_
      refine to_gt rfl rfl ?_
      refine to_mv rfl rfl ?_
      refine to_gt rfl rfl ?_
      refine to_mv rfl rfl ?_
      refine to_gt rfl rfl ?_
      refine to_call0 rfl rfl (fun w s => st_shorter _ _ _ _ _ _ w) rfl ?_
      refine to_pkF rfl rfl rfl ?_
      refine to_nil ?_
      refine tn_code ?_
      refine t_if rfl (fun h3 => ?_) (fun h3 => ?_)
      · try simp only [decide_eq_true_eq, decide_eq_false_iff_not, Bool.not_eq_true', Bool.not_eq_false', Int.not_lt, Int.not_le, ne_eq, Decidable.not_not] at h3
        try have h3b := inB_iff.1 h3
        refine t_reg ?_
        refine to_mv rfl rfl ?_
        refine to_as rfl rfl ?_
        refine to_nil ?_
        refine tn_blk ?_
        refine tn_code ?_
        refine t_reg ?_
        refine to_add rfl rfl (by omega) rfl ?_
        refine to_mv rfl rfl ?_
        refine to_nil ?_
        exact tn_loop2 (k + 1) [.snap 0 w.heap.size w] (rfl) (by omega) (by omega) (⟨rfl, rfl, congrArg (fun l : Li => some (Value.slice l.a l.xs.length l.c)) (bstL_t hy (.inr (by omega))).symm, rfl, rfl, rfl, trivial⟩)
      · try simp only [decide_eq_true_eq, decide_eq_false_iff_not, Bool.not_eq_true', Bool.not_eq_false', Int.not_lt, Int.not_le, ne_eq, Decidable.not_not] at h3
        try have h3b := inB_iff.1 h3
        refine t_skip ?_
        refine tn_blk ?_
        refine tn_code ?_
        refine t_reg ?_
        refine to_add rfl rfl (by omega) rfl ?_
        refine to_mv rfl rfl ?_
        refine to_nil ?_
        exact tn_loop2 (k + 1) [.snap 0 w.heap.size w] (rfl) (by omega) (by omega) (⟨rfl, rfl, congrArg (fun l : Li => some (Value.slice l.a l.xs.length l.c)) (bstL_f hy (by omega)).symm, rfl, rfl, rfl, trivial⟩)
  · try simp only [decide_eq_true_eq, decide_eq_false_iff_not, Bool.not_eq_true', Bool.not_eq_false', Int.not_lt, Int.not_le, ne_eq, Decidable.not_not] at h1
    try have h1b := inB_iff.1 h1
    obtain rfl : k = ls.length := by omega
    refine t_exit ?_
    refine tx_code ?_
    refine tx_inv ?_
    refine tx_blk ?_
    refine tn_code ?_
    refine t_seq ?_
    refine t_reg ?_
    refine to_mv rfl rfl ?_
    refine to_mv rfl rfl ?_
    refine to_lenS rfl rfl ?_
    refine to_gtr rfl rfl rfl ?_
    refine to_as rfl rfl ?_
    refine to_as rfl rfl ?_
    refine to_nil ?_
    refine tn_code ?_
    refine t_ret2 rfl rfl (res_tmp rfl) (res_tmp rfl) (fun w' s => ?_)
    rfl

set_option maxRecDepth 20000 in
theorem st_idx (xs : List Sp) (a : Option Addr) (c : Nat) (q : Nat) (cp : List Value) (w : World) [hf : FnOk Tryz.prog q] (hr : Ro w 0 w.heap.size a xs.length c 2 (xs.map spanC)) (hn : xs.length ≤ 1000000) (hq : ∀ w', Below w.heap.size w w' → ∀ y ∈ xs, Calls Tryz.prog q ([] ++ ([Value.agg (spanC y).toArray] ++ cp)).toArray w' (RetV w' (.bool false))) : Calls Tryz.prog 80 #[.slice a xs.length c, .func (.func q) ([] : List Value).toArray cp.toArray] w (RetV w (.int .i64 (-1))) := by
  refine calls_T0 (av := [_, _]) Tryz.func80 rfl rfl rfl ?_
  refine t_seq ?_
  refine t_reg ?_
  refine to_as rfl rfl ?_
  refine to_nil ?_
  refine tn_code ?_
  refine t_seq ?_
  refine t_seq ?_
  refine t_reg ?_
  refine to_mv rfl rfl ?_
  refine to_lenS rfl rfl ?_
  refine to_mv rfl rfl ?_
  refine to_nil ?_
  refine tn_code ?_
  refine t_blk ?_
  refine t_loop2 (ι := Nat) (fun k => k ≤ xs.length) (fun k => [(0, .slice a xs.length c), (1, .func (.func q) ([] : List Value).toArray cp.toArray), (6, .slice a xs.length c), (7, .int .i64 (xs.length : Int)), (8, .int .i64 (k : Int))]) (fun k => [.snap 0 w.heap.size w]) (fun k => xs.length - k) (0) [.snap 0 w.heap.size w] (rfl) (Nat.zero_le _) (⟨rfl, rfl, rfl, rfl, rfl, trivial⟩) ?_
  rintro k hk
  show T _ _ _ ⟨_, [(0, .slice a xs.length c), (1, .func (.func q) ([] : List Value).toArray cp.toArray), (6, .slice a xs.length c), (7, .int .i64 (xs.length : Int)), (8, .int .i64 (k : Int))], _⟩ [.snap 0 w.heap.size w]
  refine t_seq ?_
  refine t_reg ?_
  refine to_lss rfl rfl rfl ?_
  refine to_nil ?_
  refine tn_code ?_
  refine t_seq ?_
  refine t_if rfl (fun h1 => ?_) (fun h1 => ?_)
  · try simp only [decide_eq_true_eq, decide_eq_false_iff_not, Bool.not_eq_true', Bool.not_eq_false', Int.not_lt, Int.not_le, ne_eq, Decidable.not_not] at h1
    try have h1b := inB_iff.1 h1
    obtain ⟨y, hy⟩ := some_get (xs := xs) (k := k) (by omega)
    have hx := map_get (f := spanC) hy
    refine t_skip ?_
    refine tn_code ?_
    refine t_seq ?_
    refine t_blk ?_
    refine t_seq ?_
    refine t_reg ?_
    refine to_mv rfl rfl ?_
    refine to_as rfl rfl ?_
    refine to_nil ?_
    refine tn_code ?_
    refine t_seq ?_
    refine t_reg ?_
    refine to_mv rfl rfl ?_
    refine to_mv rfl rfl ?_
    refine to_mv rfl rfl ?_
    first | refine to_ix rfl rfl rfl (by first | omega | decide) (by first | omega | decide) rfl ?_ | refine to_ixi rfl rfl rfl (by omega) (by omega) (by omega) rfl ?_
    first | refine to_lda rfl rfl rfl ?_ | refine to_ldea rfl (by assumption) rfl rfl ?_
    refine to_call0 rfl rfl (fun w s => hq w (s.below0 (List.mem_cons_self ..)) y (List.mem_of_getElem? hy)) rfl ?_
    refine to_fix (s := 16) (b' := false) rfl (rfl) ?_
    refine to_nil ?_
    refine tn_code ?_
    refine t_ifF rfl ?_
    refine t_skip ?_
    refine tn_blk ?_
    refine tn_code ?_
    refine t_reg ?_
    refine to_add rfl rfl (by omega) rfl ?_
    refine to_mv rfl rfl ?_
    refine to_nil ?_
    exact tn_loop2 (k + 1) [.snap 0 w.heap.size w] (rfl) (by omega) (by omega) (⟨rfl, rfl, rfl, rfl, rfl, trivial⟩)
  · try simp only [decide_eq_true_eq, decide_eq_false_iff_not, Bool.not_eq_true', Bool.not_eq_false', Int.not_lt, Int.not_le, ne_eq, Decidable.not_not] at h1
    try have h1b := inB_iff.1 h1
    refine t_exit ?_
    refine tx_code ?_
    refine tx_inv ?_
    refine tx_blk ?_
    refine tn_code ?_
    refine t_seq ?_
    refine t_reg ?_
    refine to_as rfl rfl ?_
    refine to_nil ?_
    refine tn_code ?_
    refine t_ret1 rfl rfl (res_tmp rfl) (fun w' s => ?_)
    rfl

set_option maxRecDepth 20000 in
theorem st_con (xs : List Sp) (a : Option Addr) (c : Nat) (q : Nat) (cp : List Value) (w : World) [hf : FnOk Tryz.prog q] (hr : Ro w 0 w.heap.size a xs.length c 2 (xs.map spanC)) (hn : xs.length ≤ 1000000) (hq : ∀ w', Below w.heap.size w w' → ∀ y ∈ xs, Calls Tryz.prog q ([] ++ ([Value.agg (spanC y).toArray] ++ cp)).toArray w' (RetV w' (.bool false))) : Calls Tryz.prog 51 #[.slice a xs.length c, .func (.func q) ([] : List Value).toArray cp.toArray] w (RetV w (.bool false)) := by
  refine calls_T0 (av := [_, _]) Tryz.func51 rfl rfl rfl ?_
  refine t_seq ?_
  refine t_reg ?_
  refine to_as rfl rfl ?_
  refine to_nil ?_
  refine tn_code ?_
  refine t_seq ?_
  refine t_reg ?_
  refine to_mv rfl rfl ?_
  refine to_mv rfl rfl ?_
  refine to_call0 rfl rfl (fun w s => st_idx _ _ _ _ _ w (rdw s) hn (fun w' hb y hy => hq w' (below_tr (s.below0 (List.mem_cons_self ..)) hb) y hy)) rfl ?_
  refine to_geq rfl rfl rfl ?_
  refine to_as rfl rfl ?_
  refine to_nil ?_
  refine tn_code ?_
  refine t_ret1 rfl rfl (res_tmp rfl) (fun w' s => ?_)
  rfl

set_option maxRecDepth 20000 in
theorem st_isT1 (x : Sp) (w : World) (h : 0 ≤ x.1 ∧ x.1 ≤ x.2 ∧ x.2 ≤ 360) (h4 : x.2 - x.1 ≤ 4) : Calls Tryz.prog 52 #[.agg (spanC x).toArray] w (RetV w (.bool false)) := by
  refine calls_T0 (av := [_]) Tryz.func52 rfl rfl rfl ?_
  refine t_seq ?_
  refine t_reg ?_
  refine to_box rfl rfl (fun b1 => ?_)
  refine to_as rfl rfl ?_
  refine to_nil ?_
  refine tn_code ?_
  refine t_seq ?_
  refine t_reg ?_
  first | refine to_fa rfl rfl rfl (by simp only [Nat.reduceAdd]; rfl) rfl ?_ | refine to_fae rfl rfl rfl (by simp only [Nat.reduceAdd]; rfl) rfl ?_
  first | refine to_lds rfl rfl rfl ?_ | refine to_ldes rfl (by assumption) rfl rfl ?_
  refine to_call0 rfl rfl (fun w s => st_in _ _ _ w) rfl ?_
  refine to_fix (s := 5) (b' := true) rfl (inB_iff.2 (by omega)) ?_
  refine to_not rfl rfl ?_
  refine to_mv rfl rfl ?_
  refine to_gt rfl rfl ?_
  first | refine to_fa rfl rfl rfl (by simp only [Nat.reduceAdd]; rfl) rfl ?_ | refine to_fae rfl rfl rfl (by simp only [Nat.reduceAdd]; rfl) rfl ?_
  refine to_gt rfl rfl ?_
  first | refine to_lds rfl rfl rfl ?_ | refine to_ldes rfl (by assumption) rfl rfl ?_
  refine to_gt rfl rfl ?_
  first | refine to_fa rfl rfl rfl (by simp only [Nat.reduceAdd]; rfl) rfl ?_ | refine to_fae rfl rfl rfl (by simp only [Nat.reduceAdd]; rfl) rfl ?_
  refine to_gt rfl rfl ?_
  first | refine to_lds rfl rfl rfl ?_ | refine to_ldes rfl (by assumption) rfl rfl ?_
  refine to_gt rfl rfl ?_
  refine to_call0 rfl rfl (fun w s => st_in _ _ _ w) rfl ?_
  refine to_fix (s := 12) (b' := true) rfl (inB_iff.2 (by omega)) ?_
  refine to_gt rfl rfl ?_
  refine to_not rfl rfl ?_
  refine to_pkF rfl rfl rfl ?_
  refine to_mv rfl rfl ?_
  refine to_gt rfl rfl ?_
  first | refine to_fa rfl rfl rfl (by simp only [Nat.reduceAdd]; rfl) rfl ?_ | refine to_fae rfl rfl rfl (by simp only [Nat.reduceAdd]; rfl) rfl ?_
  refine to_gt rfl rfl ?_
  first | refine to_lds rfl rfl rfl ?_ | refine to_ldes rfl (by assumption) rfl rfl ?_
  refine to_gt rfl rfl ?_
  first | refine to_fa rfl rfl rfl (by simp only [Nat.reduceAdd]; rfl) rfl ?_ | refine to_fae rfl rfl rfl (by simp only [Nat.reduceAdd]; rfl) rfl ?_
  refine to_gt rfl rfl ?_
  first | refine to_lds rfl rfl rfl ?_ | refine to_ldes rfl (by assumption) rfl rfl ?_
  refine to_gt rfl rfl ?_
  refine to_sub rfl rfl (by omega) rfl ?_
  refine to_gt rfl rfl ?_
  refine to_gtr rfl rfl rfl ?_
  refine to_fix (s := 21) (b' := false) rfl (decide_eq_false (by omega)) ?_
  refine to_pkF rfl rfl rfl ?_
  refine to_as rfl rfl ?_
  refine to_nil ?_
  refine tn_code ?_
  refine t_ret1 rfl rfl (res_tmp rfl) (fun w' s => ?_)
  rfl

theorem tbA_b4 : ∀ s ∈ tbA, s.2 - s.1 ≤ 4 := by decide
set_option maxRecDepth 20000 in
theorem st_isTable (va : Option Addr) (vc : Nat) (w : World) (hva : Ro w 0 w.heap.size va 7 vc 2 (spans tbA)) : Calls Tryz.prog 25 #[stV va vc] w (RetV w (.bool true)) := by
  refine calls_T0 (av := [_]) Tryz.func25 rfl rfl rfl ?_
  refine t_seq ?_
  refine t_reg ?_
  refine to_box rfl rfl (fun b1 => ?_)
  refine to_as rfl rfl ?_
  refine to_nil ?_
  refine tn_code ?_
  refine t_seq ?_
  refine t_reg ?_
  first | refine to_fa rfl rfl rfl (by simp only [Nat.reduceAdd]; rfl) rfl ?_ | refine to_fae rfl rfl rfl (by simp only [Nat.reduceAdd]; rfl) rfl ?_
  first | refine to_lds rfl rfl rfl ?_ | refine to_ldes rfl (by assumption) rfl rfl ?_
  refine to_lenS rfl rfl ?_
  refine to_call0 rfl rfl (fun w s => st_in _ _ _ w) rfl ?_
  refine to_fix (s := 6) (b' := true) rfl (rfl) ?_
  refine to_mv rfl rfl ?_
  refine to_gt rfl rfl ?_
  first | refine to_fa rfl rfl rfl (by simp only [Nat.reduceAdd]; rfl) rfl ?_ | refine to_fae rfl rfl rfl (by simp only [Nat.reduceAdd]; rfl) rfl ?_
  refine to_gt rfl rfl ?_
  first | refine to_lds rfl rfl rfl ?_ | refine to_ldes rfl (by assumption) rfl rfl ?_
  refine to_gt rfl rfl ?_
  refine to_call0 rfl rfl (fun w s => st_isRule _ w) rfl ?_
  refine to_fix (s := 10) (b' := true) rfl (rfl) ?_
  refine to_pkT rfl rfl rfl ?_
  refine to_mv rfl rfl ?_
  refine to_gt rfl rfl ?_
  first | refine to_fa rfl rfl rfl (by simp only [Nat.reduceAdd]; rfl) rfl ?_ | refine to_fae rfl rfl rfl (by simp only [Nat.reduceAdd]; rfl) rfl ?_
  refine to_gt rfl rfl ?_
  first | refine to_lds rfl rfl rfl ?_ | refine to_ldes rfl (by assumption) rfl rfl ?_
  refine to_gt rfl rfl ?_
  refine to_call0 rfl rfl (fun w s => st_in _ _ _ w) rfl ?_
  refine to_fix (s := 15) (b' := true) rfl (rfl) ?_
  refine to_pkT rfl rfl rfl ?_
  refine to_mv rfl rfl ?_
  refine to_gt rfl rfl ?_
  first | refine to_fa rfl rfl rfl (by simp only [Nat.reduceAdd]; rfl) rfl ?_ | refine to_fae rfl rfl rfl (by simp only [Nat.reduceAdd]; rfl) rfl ?_
  refine to_gt rfl rfl ?_
  first | refine to_lds rfl rfl rfl ?_ | refine to_ldes rfl (by assumption) rfl rfl ?_
  refine to_gt rfl rfl ?_
  refine to_call0 rfl rfl (fun w s => st_con tbA _ _ _ [] w (rdw s) (by decide) (fun w' hbl y hy => st_isT1 y w' (tbA_b y hy) (tbA_b4 y hy))) rfl ?_
  refine to_fix (s := 20) (b' := false) rfl (rfl) ?_
  refine to_gt rfl rfl ?_
  refine to_not rfl rfl ?_
  refine to_pkT rfl rfl rfl ?_
  refine to_as rfl rfl ?_
  refine to_nil ?_
  refine tn_code ?_
  refine t_ret1 rfl rfl (res_tmp rfl) (fun w' s => ?_)
  rfl

/-- The kept list with the fewest rows. -/
def RFew : Nat → World → Value → Prop := fun lo w1 v => ∃ a c, v = .tuple #[.slice a 4 c, .int .i64 0] ∧ Ro w1 lo w1.heap.size a 4 c 1 (ints [0, 2, 4, 6])

set_option maxRecDepth 20000 in
theorem st_Fewest (va : Option Addr) (vc : Nat) (w : World) (hva : Ro w 0 w.heap.size va 7 vc 2 (spans tbA)) : Calls Tryz.prog 12 #[stV va vc] w (Ret w (RFew)) := by
  refine calls_T (av := [_]) Tryz.func12 rfl rfl rfl ?_
  refine t_seq ?_
  refine t_reg ?_
  refine to_box rfl rfl (fun b1 => ?_)
  refine to_as rfl rfl ?_
  refine to_as rfl rfl ?_
  refine to_nil ?_
  refine tn_code ?_
  refine t_seq ?_
  refine t_seq ?_
  refine t_reg ?_
  first | refine to_lda rfl rfl rfl ?_ | refine to_ldea rfl (by assumption) rfl rfl ?_
  refine to_call0 rfl rfl (fun w s => st_isTable va vc w (rdw s)) rfl ?_
  refine to_fix (s := 7) (b' := true) rfl (rfl) ?_
  refine to_not rfl rfl ?_
  refine to_nil ?_
  refine tn_code ?_
  refine t_ifF rfl ?_
  refine t_skip ?_
  refine tn_code ?_
  refine t_seq ?_
  refine t_reg ?_
  first | refine to_lda rfl rfl rfl ?_ | refine to_ldea rfl (by assumption) rfl rfl ?_
  refine to_callR rfl rfl (fun w s => st_lists va vc w) rfl (fun v11 lo11 w11 hlo11 hR11 => ?_)
  obtain ⟨bb, rfl, hbb⟩ := hR11
  refine to_callR rfl rfl (fun w s => st_Collect va vc bb w (rdw s) (rb_lo (rb_snap s))) rfl (fun v12 lo12 w12 hlo12 hR12 => ?_)
  obtain ⟨oa, oc, ls, rfl, hls, hro, hri⟩ := hR12
  have hll : ls.length = 8 := by
    have h1 := congrArg List.length hls
    rw [List.length_map, listsA_len] at h1
    exact h1
  have h8 := best8 hls
  refine to_call0 rfl rfl (fun w s => st_best ls oa oc w (rdw s) (by omega)) rfl ?_
  refine to_mv rfl rfl ?_
  refine to_ex rfl rfl rfl ?_
  refine to_ex rfl rfl rfl ?_
  refine to_as rfl rfl ?_
  refine to_as rfl rfl ?_
  refine to_nil ?_
  refine tn_code ?_
  refine t_seq ?_
  refine t_reg ?_
  refine to_mv rfl rfl ?_
  refine to_as rfl rfl ?_
  refine to_as rfl rfl ?_
  refine to_nil ?_
  refine tn_code ?_
  refine t_ret2 rfl rfl (res_tmp rfl) (res_tmp rfl) (fun w' s => ?_)
  have hr9 := hri _ h8.2
  rw [h8.1] at hr9
  exact ⟨_, _, by rw [h8.1]; rfl, ro_snap s hlo12⟩

end Go.Proofs


namespace Go.Proofs
open Go Go.Sx Go.RowKit

set_option maxRecDepth 20000 in
theorem s1_Same (a b : Option Addr) (c d : Nat) (w : World) (ha : Ro w 0 w.heap.size a 4 c 1 (ints [0, 2, 4, 6])) (hb : Ro w 0 w.heap.size b 4 d 1 (ints [0, 2, 4, 6])) : Calls Tryz.prog 18 #[.slice a 4 c, .slice b 4 d] w (RetV w (.bool true)) := by
  refine calls_T0 (av := [_, _]) Tryz.func18 rfl rfl rfl ?_
  refine t_seq ?_
  refine t_reg ?_
  refine to_as rfl rfl ?_
  refine to_nil ?_
  refine tn_code ?_
  refine t_seq ?_
  refine t_seq ?_
  refine t_reg ?_
  refine to_mv rfl rfl ?_
  refine to_lenS rfl rfl ?_
  refine to_mv rfl rfl ?_
  refine to_lenS rfl rfl ?_
  refine to_neq rfl rfl rfl ?_
  refine to_fix (s := 10) (b' := false) rfl (rfl) ?_
  refine to_nil ?_
  refine tn_code ?_
  refine t_ifF rfl ?_
  refine t_skip ?_
  refine tn_code ?_
  refine t_seq ?_
  refine t_seq ?_
  refine t_reg ?_
  refine to_as rfl rfl ?_
  refine to_nil ?_
  refine tn_code ?_
  refine t_blk ?_
  refine t_unrollN 5 ?_
  refine t_seq ?_
  refine t_seq ?_
  refine t_reg ?_
  refine to_mv rfl rfl ?_
  refine to_mv rfl rfl ?_
  refine to_lenS rfl rfl ?_
  refine to_lss rfl rfl rfl ?_
  refine to_fix (s := 14) (b' := true) rfl (rfl) ?_
  refine to_nil ?_
  refine tn_code ?_
  refine t_ifT rfl ?_
  refine t_skip ?_
  refine tn_code ?_
  refine t_seq ?_
  refine t_blk ?_
  refine t_seq ?_
  refine t_regD rfl (by kernel_rfl) (by kernel_rfl) ?_
  refine to_mv rfl rfl ?_
  refine to_mv rfl rfl ?_
  refine to_ix (k := 0) rfl rfl rfl (by decide) (by decide) rfl ?_
  refine to_ldes (row := [.int .i64 0]) rfl rfl rfl rfl ?_
  refine to_mv rfl rfl ?_
  refine to_mv rfl rfl ?_
  refine to_ix (k := 0) rfl rfl rfl (by decide) (by decide) rfl ?_
  refine to_ldes (row := [.int .i64 0]) rfl rfl rfl rfl ?_
  refine to_neq rfl rfl rfl ?_
  refine to_fix (s := 25) (b' := false) rfl (rfl) ?_
  refine to_nil ?_
  refine tn_code ?_
  refine t_ifF rfl ?_
  refine t_skip ?_
  refine tn_blk ?_
  refine tn_code ?_
  refine t_reg ?_
  refine to_mv rfl rfl ?_
  refine to_add rfl rfl (by decide) rfl ?_
  refine to_fixv (s := 16) (v' := .int .i64 1) rfl rfl ?_
  refine to_as rfl rfl ?_
  refine to_nil ?_
  refine tn_unroll ?_
  refine t_seq ?_
  refine t_seq ?_
  refine t_reg ?_
  refine to_mv rfl rfl ?_
  refine to_mv rfl rfl ?_
  refine to_lenS rfl rfl ?_
  refine to_lss rfl rfl rfl ?_
  refine to_fix (s := 14) (b' := true) rfl (rfl) ?_
  refine to_nil ?_
  refine tn_code ?_
  refine t_ifT rfl ?_
  refine t_skip ?_
  refine tn_code ?_
  refine t_seq ?_
  refine t_blk ?_
  refine t_seq ?_
  refine t_regD rfl (by kernel_rfl) (by kernel_rfl) ?_
  refine to_mv rfl rfl ?_
  refine to_mv rfl rfl ?_
  refine to_ix (k := 1) rfl rfl rfl (by decide) (by decide) rfl ?_
  refine to_ldes (row := [.int .i64 2]) rfl rfl rfl rfl ?_
  refine to_mv rfl rfl ?_
  refine to_mv rfl rfl ?_
  refine to_ix (k := 1) rfl rfl rfl (by decide) (by decide) rfl ?_
  refine to_ldes (row := [.int .i64 2]) rfl rfl rfl rfl ?_
  refine to_neq rfl rfl rfl ?_
  refine to_fix (s := 25) (b' := false) rfl (rfl) ?_
  refine to_nil ?_
  refine tn_code ?_
  refine t_ifF rfl ?_
  refine t_skip ?_
  refine tn_blk ?_
  refine tn_code ?_
  refine t_reg ?_
  refine to_mv rfl rfl ?_
  refine to_add rfl rfl (by decide) rfl ?_
  refine to_fixv (s := 16) (v' := .int .i64 2) rfl rfl ?_
  refine to_as rfl rfl ?_
  refine to_nil ?_
  refine tn_unroll ?_
  refine t_seq ?_
  refine t_seq ?_
  refine t_reg ?_
  refine to_mv rfl rfl ?_
  refine to_mv rfl rfl ?_
  refine to_lenS rfl rfl ?_
  refine to_lss rfl rfl rfl ?_
  refine to_fix (s := 14) (b' := true) rfl (rfl) ?_
  refine to_nil ?_
  refine tn_code ?_
  refine t_ifT rfl ?_
  refine t_skip ?_
  refine tn_code ?_
  refine t_seq ?_
  refine t_blk ?_
  refine t_seq ?_
  refine t_regD rfl (by kernel_rfl) (by kernel_rfl) ?_
  refine to_mv rfl rfl ?_
  refine to_mv rfl rfl ?_
  refine to_ix (k := 2) rfl rfl rfl (by decide) (by decide) rfl ?_
  refine to_ldes (row := [.int .i64 4]) rfl rfl rfl rfl ?_
  refine to_mv rfl rfl ?_
  refine to_mv rfl rfl ?_
  refine to_ix (k := 2) rfl rfl rfl (by decide) (by decide) rfl ?_
  refine to_ldes (row := [.int .i64 4]) rfl rfl rfl rfl ?_
  refine to_neq rfl rfl rfl ?_
  refine to_fix (s := 25) (b' := false) rfl (rfl) ?_
  refine to_nil ?_
  refine tn_code ?_
  refine t_ifF rfl ?_
  refine t_skip ?_
  refine tn_blk ?_
  refine tn_code ?_
  refine t_reg ?_
  refine to_mv rfl rfl ?_
  refine to_add rfl rfl (by decide) rfl ?_
  refine to_fixv (s := 16) (v' := .int .i64 3) rfl rfl ?_
  refine to_as rfl rfl ?_
  refine to_nil ?_
  refine tn_unroll ?_
  refine t_seq ?_
  refine t_seq ?_
  refine t_reg ?_
  refine to_mv rfl rfl ?_
  refine to_mv rfl rfl ?_
  refine to_lenS rfl rfl ?_
  refine to_lss rfl rfl rfl ?_
  refine to_fix (s := 14) (b' := true) rfl (rfl) ?_
  refine to_nil ?_
  refine tn_code ?_
  refine t_ifT rfl ?_
  refine t_skip ?_
  refine tn_code ?_
  refine t_seq ?_
  refine t_blk ?_
  refine t_seq ?_
  refine t_regD rfl (by kernel_rfl) (by kernel_rfl) ?_
  refine to_mv rfl rfl ?_
  refine to_mv rfl rfl ?_
  refine to_ix (k := 3) rfl rfl rfl (by decide) (by decide) rfl ?_
  refine to_ldes (row := [.int .i64 6]) rfl rfl rfl rfl ?_
  refine to_mv rfl rfl ?_
  refine to_mv rfl rfl ?_
  refine to_ix (k := 3) rfl rfl rfl (by decide) (by decide) rfl ?_
  refine to_ldes (row := [.int .i64 6]) rfl rfl rfl rfl ?_
  refine to_neq rfl rfl rfl ?_
  refine to_fix (s := 25) (b' := false) rfl (rfl) ?_
  refine to_nil ?_
  refine tn_code ?_
  refine t_ifF rfl ?_
  refine t_skip ?_
  refine tn_blk ?_
  refine tn_code ?_
  refine t_reg ?_
  refine to_mv rfl rfl ?_
  refine to_add rfl rfl (by decide) rfl ?_
  refine to_fixv (s := 16) (v' := .int .i64 4) rfl rfl ?_
  refine to_as rfl rfl ?_
  refine to_nil ?_
  refine tn_unroll ?_
  refine t_seq ?_
  refine t_seq ?_
  refine t_reg ?_
  refine to_mv rfl rfl ?_
  refine to_mv rfl rfl ?_
  refine to_lenS rfl rfl ?_
  refine to_lss rfl rfl rfl ?_
  refine to_fix (s := 14) (b' := false) rfl (rfl) ?_
  refine to_nil ?_
  refine tn_code ?_
  refine t_ifF rfl ?_
  refine t_exit ?_
  refine tx_code ?_
  refine tx_inv ?_
  refine tx_blk ?_
  refine tn_code ?_
  refine t_seq ?_
  refine t_reg ?_
  refine to_as rfl rfl ?_
  refine to_nil ?_
  refine tn_code ?_
  refine t_ret1 rfl rfl (res_tmp rfl) (fun w' s => ?_)
  rfl

theorem cs6 {cs : List Cp} (h : cs.map (fun x => (x.p, x.s)) = shpA) : ∃ a0 a1 a2 a3 a4 a5 c0 c1 c2 c3 c4 c5, cs = csA a0 a1 a2 a3 a4 a5 c0 c1 c2 c3 c4 c5 := by
  obtain _ | ⟨⟨p0, x0, b0, k0⟩, _ | ⟨⟨p1, x1, b1, k1⟩, _ | ⟨⟨p2, x2, b2, k2⟩, _ | ⟨⟨p3, x3, b3, k3⟩, _ | ⟨⟨p4, x4, b4, k4⟩, _ | ⟨⟨p5, x5, b5, k5⟩, _ | ⟨x6, cs⟩⟩⟩⟩⟩⟩⟩ := cs <;> simp [shpA] at h
  obtain ⟨⟨rfl, rfl⟩, ⟨rfl, rfl⟩, ⟨rfl, rfl⟩, ⟨rfl, rfl⟩, ⟨rfl, rfl⟩, rfl, rfl⟩ := h
  exact ⟨b0, b1, b2, b3, b4, b5, k0, k1, k2, k3, k4, k5, rfl⟩
theorem pgOk_of {w0 w w1 : World} {H : List Seg} {L : PgL} {lo : Nat} (s : St w0 H w) (h : PgOk L w1 lo w1.heap.size) [hs : SnapAt w1 H lo w1.heap.size] : PgOk L w 0 w.heap.size := by
  have hb := s.ok _ hs.mem
  have hle := s.le _ hs.mem
  simp only [Seg.hi] at hle
  exact ⟨h.ln.mono (Nat.zero_le _) hle hb, h.lg.mono (Nat.zero_le _) hle hb, h.n0.mono (Nat.zero_le _) hle hb, h.n1.mono (Nat.zero_le _) hle hb, h.n2.mono (Nat.zero_le _) hle hb⟩

set_option maxRecDepth 20000 in
theorem top_known  (w : World)  : Calls Tryz.prog 7 #[] w (RetV w (.bool true)) := by
  refine calls_T0 (av := []) Tryz.func7 rfl rfl rfl ?_
  refine t_seq ?_
  refine t_reg ?_
  refine to_as rfl rfl ?_
  refine to_nil ?_
  refine tn_code ?_
  refine t_seq ?_
  refine t_reg ?_
  refine to_callR rfl rfl (fun w s => l5_A w) rfl (fun v8 lo8 w8 hlo8 hR8 => ?_)
  obtain ⟨va, vc, rfl, hva⟩ := hR8
  refine to_callR rfl rfl (fun w s => st_Fewest va vc w (rdw s)) rfl (fun v9 lo9 w9 hlo9 hR9 => ?_)
  obtain ⟨fa, fc, rfl, hfew⟩ := hR9
  refine to_mv rfl rfl ?_
  refine to_ex rfl rfl rfl ?_
  refine to_ex rfl rfl rfl ?_
  refine to_as rfl rfl ?_
  refine to_as rfl rfl ?_
  refine to_nil ?_
  refine tn_code ?_
  refine t_seq ?_
  refine t_reg ?_
  refine to_callR rfl rfl (fun w s => h7_A w) rfl (fun v13 lo13 w13 hlo13 hR13 => ?_)
  obtain ⟨cs, ca, cc, rfl, hsh, hct, hcs⟩ := hR13
  obtain ⟨a0, a1, a2, a3, a4, a5, c0, c1, c2, c3, c4, c5, rfl⟩ := cs6 hsh
  refine to_call0 rfl rfl (fun w s => cp_Fewest a0 a1 a2 a3 a4 a5 c0 c1 c2 c3 c4 c5 ca cc w (rdw s) (fun x hx => by haveI := hcs x hx; exact rdw s)) rfl ?_
  refine to_mv rfl rfl ?_
  refine to_ex rfl rfl rfl ?_
  refine to_ex rfl rfl rfl ?_
  refine to_as rfl rfl ?_
  refine to_as rfl rfl ?_
  refine to_nil ?_
  refine tn_code ?_
  refine t_seq ?_
  refine t_reg ?_
  refine to_callR rfl rfl (fun w s => k9_B w) rfl (fun v18 lo18 w18 hlo18 hR18 => ?_)
  obtain ⟨L, rfl, hk⟩ := hR18
  refine to_call0 rfl rfl (fun w s => pf_Pass L w (pgOk_of s hk)) rfl ?_
  refine to_mv rfl rfl ?_
  refine to_ex rfl rfl rfl ?_
  refine to_ex rfl rfl rfl ?_
  refine to_as rfl rfl ?_
  refine to_as rfl rfl ?_
  refine to_nil ?_
  refine tn_code ?_
  refine t_seq ?_
  refine t_reg ?_
  refine to_mv rfl rfl ?_
  refine to_eql rfl rfl rfl ?_
  refine to_fix (s := 23) (b' := true) rfl (rfl) ?_
  refine to_mv rfl rfl ?_
  refine to_gt rfl rfl ?_
  refine to_mv rfl rfl ?_
  refine to_gt rfl rfl ?_
  refine to_bsl rfl rfl rfl rfl (fun a26 => ?_)
  refine to_gt rfl rfl ?_
  refine to_call0 rfl rfl (fun w s => s1_Same fa a26 fc 4 w (rdw s) (rdw s)) rfl ?_
  refine to_fix (s := 27) (b' := true) rfl (rfl) ?_
  refine to_pkT rfl rfl rfl ?_
  refine to_mv rfl rfl ?_
  refine to_gt rfl rfl ?_
  refine to_mv rfl rfl ?_
  refine to_gt rfl rfl ?_
  refine to_eql rfl rfl rfl ?_
  refine to_fix (s := 31) (b' := true) rfl (rfl) ?_
  refine to_pkT rfl rfl rfl ?_
  refine to_mv rfl rfl ?_
  refine to_gt rfl rfl ?_
  refine to_mv rfl rfl ?_
  refine to_gt rfl rfl ?_
  refine to_eql rfl rfl rfl ?_
  refine to_fix (s := 35) (b' := true) rfl (rfl) ?_
  refine to_pkT rfl rfl rfl ?_
  refine to_mv rfl rfl ?_
  refine to_gt rfl rfl ?_
  refine to_mv rfl rfl ?_
  refine to_gt rfl rfl ?_
  refine to_eql rfl rfl rfl ?_
  refine to_fix (s := 39) (b' := true) rfl (rfl) ?_
  refine to_pkT rfl rfl rfl ?_
  refine to_mv rfl rfl ?_
  refine to_gt rfl rfl ?_
  refine to_mv rfl rfl ?_
  refine to_fix (s := 42) (b' := true) rfl (rfl) ?_
  refine to_pkT rfl rfl rfl ?_
  refine to_as rfl rfl ?_
  refine to_nil ?_
  refine tn_code ?_
  refine t_ret1 rfl rfl (res_tmp rfl) (fun w' s => ?_)
  rfl

end Go.Proofs

