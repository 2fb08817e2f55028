/- Contracts of the program's functions on pay. No condition beyond each theorem's own. -/
import Derived.Test.YtpnjgmioohofcabGreatDoorOwnC
set_option linter.unusedVariables false
set_option linter.unusedSimpArgs false
namespace Go.Proofs
open Go Go.Sx Go.RowKit

set_option maxRecDepth 20000 in
theorem pay_counted (m : Mon) (w : World) (hm : isMon m = true) : Calls Tryz.prog 76 #[monV m] w (RetV w (.int .i64 (monN m))) := by
  have hb := isMon_b hm
  refine calls_T0 (av := [_]) Tryz.func76 rfl rfl rfl ?_
  refine t_seq ?_
  refine t_reg ?_
  refine to_box rfl rfl (fun b1 => ?_)
  refine to_as rfl rfl ?_
  refine to_nil ?_
  refine tn_code ?_
  refine t_seq ?_
  refine t_reg ?_
  refine to_call0 rfl rfl (fun w s => pay_worth w) rfl ?_
  refine to_alloc rfl (fun b3 => ?_)
  first | refine to_st rfl rfl rfl rfl ?_ | refine to_ste rfl rfl (by assumption) rfl rfl ?_
  refine to_nil ?_
  refine tn_code ?_
  refine t_seq ?_
  refine t_reg ?_
  first | refine to_fa rfl rfl rfl (by simp only [Nat.reduceAdd]; rfl) rfl ?_ | refine to_fae rfl rfl rfl (by simp only [Nat.reduceAdd]; rfl) rfl ?_
  first | refine to_lds rfl rfl rfl ?_ | refine to_ldes rfl (by assumption) rfl rfl ?_
  refine to_ixo rfl rfl (by decide) (by simp only [Nat.reduceAdd, Nat.reduceMul]; rfl) rfl ?_
  first | refine to_lds rfl rfl rfl ?_ | refine to_ldes rfl (by assumption) rfl rfl ?_
  refine to_mul rfl rfl (by first | omega | exact mul_ok (by omega) (by omega) (by omega) (by omega)) rfl ?_
  first | refine to_fa rfl rfl rfl (by simp only [Nat.reduceAdd]; rfl) rfl ?_ | refine to_fae rfl rfl rfl (by simp only [Nat.reduceAdd]; rfl) rfl ?_
  first | refine to_lds rfl rfl rfl ?_ | refine to_ldes rfl (by assumption) rfl rfl ?_
  refine to_ixo rfl rfl (by decide) (by simp only [Nat.reduceAdd, Nat.reduceMul]; rfl) rfl ?_
  first | refine to_lds rfl rfl rfl ?_ | refine to_ldes rfl (by assumption) rfl rfl ?_
  refine to_mul rfl rfl (by first | omega | exact mul_ok (by omega) (by omega) (by omega) (by omega)) rfl ?_
  first | refine to_fa rfl rfl rfl (by simp only [Nat.reduceAdd]; rfl) rfl ?_ | refine to_fae rfl rfl rfl (by simp only [Nat.reduceAdd]; rfl) rfl ?_
  first | refine to_lds rfl rfl rfl ?_ | refine to_ldes rfl (by assumption) rfl rfl ?_
  refine to_ixo rfl rfl (by decide) (by simp only [Nat.reduceAdd, Nat.reduceMul]; rfl) rfl ?_
  first | refine to_lds rfl rfl rfl ?_ | refine to_ldes rfl (by assumption) rfl rfl ?_
  refine to_mul rfl rfl (by first | omega | exact mul_ok (by omega) (by omega) (by omega) (by omega)) rfl ?_
  first | refine to_fa rfl rfl rfl (by simp only [Nat.reduceAdd]; rfl) rfl ?_ | refine to_fae rfl rfl rfl (by simp only [Nat.reduceAdd]; rfl) rfl ?_
  first | refine to_lds rfl rfl rfl ?_ | refine to_ldes rfl (by assumption) rfl rfl ?_
  refine to_bsl rfl rfl rfl rfl (fun a22 => ?_)
  refine to_call0 rfl rfl (fun w s => pay_sum [m.p * 960, m.s * 48, m.d * 4, m.f] _ _ w (rdw s) (by simp) (by simp; omega)) rfl ?_
  refine to_as rfl rfl ?_
  refine to_nil ?_
  refine tn_code ?_
  refine t_ret1 rfl rfl (res_tmp rfl) (fun w' s => ?_)
  simp [sumI, monN]; omega

set_option maxRecDepth 20000 in
theorem pay_Farthings (m : Mon) (w : World)  : Calls Tryz.prog 37 #[monV m] w (RetV w (.tuple #[.int .i64 (payFar m).1, .int .i64 (payFar m).2])) := by
  refine calls_T0 (av := [_]) Tryz.func37 rfl rfl rfl ?_
  refine t_seq ?_
  refine t_reg ?_
  refine to_box rfl rfl (fun b1 => ?_)
  refine to_as rfl rfl ?_
  refine to_as rfl rfl ?_
  refine to_nil ?_
  refine tn_code ?_
  refine t_seq ?_
  refine t_seq ?_
  refine t_reg ?_
  first | refine to_lda rfl rfl rfl ?_ | refine to_ldea rfl (by assumption) rfl rfl ?_
  refine to_call0 rfl rfl (fun w s => pay_isMoney m w) rfl ?_
  refine to_not rfl rfl ?_
  refine to_nil ?_
  refine tn_code ?_
  refine t_if rfl (fun h1 => ?_) (fun h1 => ?_)
  · try simp only [decide_eq_true_eq, decide_eq_false_iff_not, Bool.not_eq_true', Bool.not_eq_false', Int.not_lt, Int.not_le, ne_eq, Decidable.not_not] at h1
    try have h1b := inB_iff.1 h1
    refine t_seq ?_
    refine t_reg ?_
    refine to_as rfl rfl ?_
    refine to_as rfl rfl ?_
    refine to_nil ?_
    refine tn_code ?_
    refine t_ret2 rfl rfl (res_tmp rfl) (res_tmp rfl) (fun w' s => ?_)
    simp_all [payFar]
  · try simp only [decide_eq_true_eq, decide_eq_false_iff_not, Bool.not_eq_true', Bool.not_eq_false', Int.not_lt, Int.not_le, ne_eq, Decidable.not_not] at h1
    try have h1b := inB_iff.1 h1
    refine t_skip ?_
    refine tn_code ?_
    refine t_seq ?_
    refine t_reg ?_
    first | refine to_lda rfl rfl rfl ?_ | refine to_ldea rfl (by assumption) rfl rfl ?_
    refine to_call0 rfl rfl (fun w s => pay_counted m w (by assumption)) rfl ?_
    refine to_as rfl rfl ?_
    refine to_as rfl rfl ?_
    refine to_nil ?_
    refine tn_code ?_
    refine t_ret2 rfl rfl (res_tmp rfl) (res_tmp rfl) (fun w' s => ?_)
    simp_all [payFar]

set_option maxRecDepth 20000 in
theorem pay_Money (n : Int) (w : World)  : Calls Tryz.prog 38 #[(.int .i64 n)] w (RetV w (.tuple #[monV (payMoney n).1, .int .i64 (payMoney n).2])) := by
  refine calls_T0 (av := [_]) Tryz.func38 rfl rfl rfl ?_
  refine t_seq ?_
  refine t_reg ?_
  refine to_alloc rfl (fun b2 => ?_)
  refine to_as rfl rfl ?_
  refine to_nil ?_
  refine tn_code ?_
  refine t_seq ?_
  refine t_seq ?_
  refine t_reg ?_
  refine to_mv rfl rfl ?_
  refine to_call0 rfl rfl (fun w s => pay_isSum _ w) rfl ?_
  refine to_not rfl rfl ?_
  refine to_nil ?_
  refine tn_code ?_
  refine t_if rfl (fun h1 => ?_) (fun h1 => ?_)
  · try simp only [decide_eq_true_eq, decide_eq_false_iff_not, Bool.not_eq_true', Bool.not_eq_false', Int.not_lt, Int.not_le, ne_eq, Decidable.not_not] at h1
    try have h1b := inB_iff.1 h1
    refine t_seq ?_
    refine t_reg ?_
    refine to_bs rfl rfl ?_
    first | refine to_st rfl rfl rfl rfl ?_ | refine to_ste rfl rfl (by assumption) rfl rfl ?_
    refine to_as rfl rfl ?_
    refine to_nil ?_
    refine tn_code ?_
    refine t_ret2 rfl rfl (res_cellA rfl rfl) (res_tmp rfl) (fun w' s => ?_)
    first | (simp_all [payMoney]; done) | (simp only [payMoney, h1, if_true]; rw [← dig_of hnb])
  · try simp only [decide_eq_true_eq, decide_eq_false_iff_not, Bool.not_eq_true', Bool.not_eq_false', Int.not_lt, Int.not_le, ne_eq, Decidable.not_not] at h1
    try have h1b := inB_iff.1 h1
    have hnb := isSum_b h1
    refine t_skip ?_
    refine tn_code ?_
    refine t_seq ?_
    refine t_reg ?_
    refine to_as rfl rfl ?_
    refine to_nil ?_
    refine tn_code ?_
    refine t_seq ?_
    refine t_seq ?_
    refine t_reg ?_
    refine to_call0 rfl rfl (fun w s => pay_worth w) rfl ?_
    refine to_mv rfl rfl ?_
    refine to_nil ?_
    refine tn_code ?_
    refine t_blk ?_
    refine t_nilrow 3 1 ?_
    refine t_loop2 (ι := Nat × Option Addr × Nat) (fun ((k, a, c) : Nat × Option Addr × Nat) => k ≤ 4) (fun ((k, a, c) : Nat × Option Addr × Nat) => [(2, .pointer (some ⟨b2, 0, none⟩)), (0, .int .i64 (remK n k)), (4, .slice a k c), (11, .agg #[.int .i64 960, .int .i64 48, .int .i64 4, .int .i64 1]), (12, .int .i64 (k : Int))]) (fun ((k, a, c) : Nat × Option Addr × Nat) => [.row a k c 3 1 (ints (digK n k)), .own b2 (isC [.int .i64 0, .int .i64 0, .int .i64 0, .int .i64 0] 50), .snap 0 w.heap.size w]) (fun ((k, a, c) : Nat × Option Addr × Nat) => 4 - k) ((0, none, 0)) [.row none 0 0 3 1 [], .own b2 (isC [.int .i64 0, .int .i64 0, .int .i64 0, .int .i64 0] 50), .snap 0 w.heap.size w] (rfl) (Nat.zero_le _) (⟨rfl, rfl, rfl, rfl, rfl, trivial⟩) ?_
    rintro ⟨k, a, c⟩ hk
    try dsimp only at hk
    show T _ _ _ ⟨_, [(2, .pointer (some ⟨b2, 0, none⟩)), (0, .int .i64 (remK n k)), (4, .slice a k c), (11, .agg #[.int .i64 960, .int .i64 48, .int .i64 4, .int .i64 1]), (12, .int .i64 (k : Int))], _⟩ [.row a k c 3 1 (ints (digK n k)), .own b2 (isC [.int .i64 0, .int .i64 0, .int .i64 0, .int .i64 0] 50), .snap 0 w.heap.size w]
    refine t_seq ?_
    refine t_reg ?_
    refine to_lss rfl rfl rfl ?_
    refine to_nil ?_
    refine tn_code ?_
    refine t_seq ?_
    refine t_if rfl (fun h2 => ?_) (fun h2 => ?_)
    · try simp only [decide_eq_true_eq, decide_eq_false_iff_not, Bool.not_eq_true', Bool.not_eq_false', Int.not_lt, Int.not_le, ne_eq, Decidable.not_not] at h2
      try have h2b := inB_iff.1 h2
      have hx := wrt_get (k := k) (by omega)
      have hrb := remK_b hnb k
      have hwp := wrt_pos k
      refine t_skip ?_
      refine tn_code ?_
      refine t_seq ?_
      refine t_blk ?_
      refine t_seq ?_
      refine t_reg ?_
      refine to_ixa rfl rfl rfl (by omega) (by assumption) rfl ?_
      refine to_as rfl rfl ?_
      refine to_nil ?_
      refine tn_code ?_
      refine t_seq ?_
      refine t_reg ?_
      refine to_mv rfl rfl ?_
      refine to_mv rfl rfl ?_
      refine to_mv rfl rfl ?_
      refine to_quo rfl rfl (by omega) (by omega) rfl ?_
      refine to_bsl rfl rfl rfl rfl (fun a19 => ?_)
      refine to_app rfl rfl rfl (by simp [scals, scal]) (by decide) (by omega) (by decide) rfl (fun a20 c20 => ?_)
      refine to_as rfl rfl ?_
      refine to_nil ?_
      refine tn_code ?_
      refine t_reg ?_
      refine to_mv rfl rfl ?_
      refine to_mv rfl rfl ?_
      refine to_rem rfl rfl (by omega) (by omega) rfl ?_
      refine to_as rfl rfl ?_
      refine to_nil ?_
      refine tn_blk ?_
      refine tn_code ?_
      refine t_reg ?_
      refine to_add rfl rfl (by omega) rfl ?_
      refine to_mv rfl rfl ?_
      refine to_nil ?_
      exact tn_loop2 ((k + 1, a20, c20)) [.row a20 (k + 1) c20 3 1 (ints (digK n k) ++ [[.int .i64 (remK n k / wrt k)]]), .own b2 (isC [.int .i64 0, .int .i64 0, .int .i64 0, .int .i64 0] 50), .snap 0 w.heap.size w] (by dsimp only; rw [show ints (digK n (k + 1)) = ints (digK n k) ++ [[.int .i64 (remK n k / wrt k)]] from ints_snoc _ _]) (by dsimp only; omega) (by dsimp only; omega) (⟨rfl, rfl, rfl, rfl, rfl, trivial⟩)
    · try simp only [decide_eq_true_eq, decide_eq_false_iff_not, Bool.not_eq_true', Bool.not_eq_false', Int.not_lt, Int.not_le, ne_eq, Decidable.not_not] at h2
      try have h2b := inB_iff.1 h2
      have hk2 : k = 4 := by omega
      subst hk2
      have hx0 : (ints (digK n 4))[0]? = some (intC (n / 960)) := rfl
      have hx1 : (ints (digK n 4))[1]? = some (intC (n % 960 / 48)) := rfl
      have hx2 : (ints (digK n 4))[2]? = some (intC (n % 960 % 48 / 4)) := rfl
      have hx3 : (ints (digK n 4))[3]? = some (intC (n % 960 % 48 % 4 / 1)) := rfl
      refine t_exit ?_
      refine tx_code ?_
      refine tx_inv ?_
      refine tx_blk ?_
      refine tn_code ?_
      refine t_seq ?_
      refine t_regM [13] [.row a 4 c 3 1 (ints (digK n 4)), .snap 0 w.heap.size w] rfl (by kernel_rfl) (by kernel_rfl) ?_
      refine tm_q ?e1 rfl ?q1 ?r1
      case q1 =>
        refine to_mv rfl rfl ?_
        exact tmq_end
      refine tm_q ?e2 rfl ?q2 ?r2
      case q2 =>
        first | refine to_ix rfl rfl rfl (by first | omega | decide) (by first | omega | decide) rfl ?_ | refine to_ixi rfl rfl rfl (by omega) (by omega) (by omega) rfl ?_
        exact tmq_end
      refine tm_q ?e3 rfl ?q3 ?r3
      case q3 =>
        first | refine to_lds rfl rfl rfl ?_ | refine to_ldes rfl (by assumption) rfl rfl ?_
        exact tmq_end
      refine tm_q ?e4 rfl ?q4 ?r4
      case q4 =>
        refine to_mv rfl rfl ?_
        exact tmq_end
      refine tm_q ?e5 rfl ?q5 ?r5
      case q5 =>
        first | refine to_ix rfl rfl rfl (by first | omega | decide) (by first | omega | decide) rfl ?_ | refine to_ixi rfl rfl rfl (by omega) (by omega) (by omega) rfl ?_
        exact tmq_end
      refine tm_q ?e6 rfl ?q6 ?r6
      case q6 =>
        first | refine to_lds rfl rfl rfl ?_ | refine to_ldes rfl (by assumption) rfl rfl ?_
        exact tmq_end
      refine tm_q ?e7 rfl ?q7 ?r7
      case q7 =>
        refine to_mv rfl rfl ?_
        exact tmq_end
      refine tm_q ?e8 rfl ?q8 ?r8
      case q8 =>
        first | refine to_ix rfl rfl rfl (by first | omega | decide) (by first | omega | decide) rfl ?_ | refine to_ixi rfl rfl rfl (by omega) (by omega) (by omega) rfl ?_
        exact tmq_end
      refine tm_q ?e9 rfl ?q9 ?r9
      case q9 =>
        first | refine to_lds rfl rfl rfl ?_ | refine to_ldes rfl (by assumption) rfl rfl ?_
        exact tmq_end
      refine tm_q ?e10 rfl ?q10 ?r10
      case q10 =>
        refine to_mv rfl rfl ?_
        exact tmq_end
      refine tm_q ?e11 rfl ?q11 ?r11
      case q11 =>
        first | refine to_ix rfl rfl rfl (by first | omega | decide) (by first | omega | decide) rfl ?_ | refine to_ixi rfl rfl rfl (by omega) (by omega) (by omega) rfl ?_
        exact tmq_end
      refine tm_q ?e12 rfl ?q12 ?r12
      case q12 =>
        first | refine to_lds rfl rfl rfl ?_ | refine to_ldes rfl (by assumption) rfl rfl ?_
        exact tmq_end
      refine tm_q ?e13 rfl ?q13 ?r13
      case q13 =>
        refine to_bs rfl rfl ?_
        exact tmq_end
      refine tm_s rfl ?_ (fun _ h => by cases h) rfl
      first | refine to_st rfl rfl rfl rfl ?_ | refine to_ste rfl rfl (by assumption) rfl rfl ?_
      refine tm_se rfl ?_
      refine tm_q ?e14 rfl ?q14 ?r14
      case q14 =>
        refine to_as rfl rfl ?_
        exact tmq_end
      refine tm_nil ?_
      refine tn_code ?_
      refine t_ret2 rfl rfl (res_cellA rfl rfl) (res_tmp rfl) (fun w' s => ?_)
      first | (simp_all [payMoney]; done) | (simp only [payMoney, h1, if_true]; rw [← dig_of hnb])

end Go.Proofs


namespace Go.Proofs
open Go Go.Sx Go.RowKit

set_option maxRecDepth 20000 in
theorem ac_sheets (b : Bk) (a : Option Addr) (c : Nat) (t : List Int) (ta : Option Addr) (tc : Nat) (k : Nat) (l : Lin) (e : Int) (w : World) (hr : Ro w 0 w.heap.size a b.lines.length c 10 (b.lines.map linC)) (ht : Ro w 0 w.heap.size ta t.length tc 1 (ints t)) (hb : isBk b = true) (hl : b.lines[k]? = some l) (he : t[k]? = some e) (hin : 0 ≤ e ∧ e ≤ 20) : Calls Tryz.prog 93 #[acV b a c t ta tc, (.int .i64 (k : Int))] w (RetV w (.int .i64 (partS b l e 0))) := by
  have hlm := List.mem_of_getElem? hl
  have hpr := prodB hb hlm hin
  have hx := map_get (f := linC) hl
  have hx2 := map_get (f := intC) he
  have hk1 := (List.getElem?_eq_some_iff.1 hl).1
  have hk2 := (List.getElem?_eq_some_iff.1 he).1
  refine calls_T0 (av := [_, _]) Tryz.func93 rfl rfl rfl ?_
  refine t_seq ?_
  refine t_reg ?_
  refine to_box rfl rfl (fun b2 => ?_)
  refine to_as rfl rfl ?_
  refine to_nil ?_
  refine tn_code ?_
  refine t_seq ?_
  refine t_regD rfl (by kernel_rfl) (by kernel_rfl) ?_
  first | refine to_fa rfl rfl rfl (by simp only [Nat.reduceAdd]; rfl) rfl ?_ | refine to_fae rfl rfl rfl (by simp only [Nat.reduceAdd]; rfl) rfl ?_
  first | refine to_fa rfl rfl rfl (by simp only [Nat.reduceAdd]; rfl) rfl ?_ | refine to_fae rfl rfl rfl (by simp only [Nat.reduceAdd]; rfl) rfl ?_
  first | refine to_lds rfl rfl rfl ?_ | refine to_ldes rfl (by assumption) rfl rfl ?_
  first | refine to_fa rfl rfl rfl (by simp only [Nat.reduceAdd]; rfl) rfl ?_ | refine to_fae rfl rfl rfl (by simp only [Nat.reduceAdd]; rfl) rfl ?_
  first | refine to_fa rfl rfl rfl (by simp only [Nat.reduceAdd]; rfl) rfl ?_ | refine to_fae rfl rfl rfl (by simp only [Nat.reduceAdd]; rfl) rfl ?_
  first | refine to_lds rfl rfl rfl ?_ | refine to_ldes rfl (by assumption) rfl rfl ?_
  refine to_mv rfl rfl ?_
  first | refine to_ix rfl rfl rfl (by first | omega | decide) (by first | omega | decide) rfl ?_ | refine to_ixi rfl rfl rfl (by omega) (by omega) (by omega) rfl ?_
  first | refine to_fa rfl rfl rfl (by simp only [Nat.reduceAdd]; rfl) rfl ?_ | refine to_fae rfl rfl rfl (by simp only [Nat.reduceAdd]; rfl) rfl ?_
  first | refine to_lds rfl rfl rfl ?_ | refine to_ldes rfl (by assumption) rfl rfl ?_
  refine to_mul rfl rfl (by first | omega | exact mul_ok (by omega) (by omega) (by omega) (by omega)) rfl ?_
  first | refine to_fa rfl rfl rfl (by simp only [Nat.reduceAdd]; rfl) rfl ?_ | refine to_fae rfl rfl rfl (by simp only [Nat.reduceAdd]; rfl) rfl ?_
  first | refine to_fa rfl rfl rfl (by simp only [Nat.reduceAdd]; rfl) rfl ?_ | refine to_fae rfl rfl rfl (by simp only [Nat.reduceAdd]; rfl) rfl ?_
  first | refine to_lds rfl rfl rfl ?_ | refine to_ldes rfl (by assumption) rfl rfl ?_
  first | refine to_fa rfl rfl rfl (by simp only [Nat.reduceAdd]; rfl) rfl ?_ | refine to_fae rfl rfl rfl (by simp only [Nat.reduceAdd]; rfl) rfl ?_
  first | refine to_lds rfl rfl rfl ?_ | refine to_ldes rfl (by assumption) rfl rfl ?_
  refine to_mv rfl rfl ?_
  first | refine to_ix rfl rfl rfl (by first | omega | decide) (by first | omega | decide) rfl ?_ | refine to_ixi rfl rfl rfl (by omega) (by omega) (by omega) rfl ?_
  first | refine to_lds rfl rfl rfl ?_ | refine to_ldes rfl (by assumption) rfl rfl ?_
  refine to_mul rfl rfl (by first | omega | exact mul_ok (by omega) (by omega) (by omega) (by omega)) rfl ?_
  refine to_sub rfl rfl (by omega) rfl ?_
  refine to_max rfl rfl rfl ?_
  refine to_as rfl rfl ?_
  refine to_nil ?_
  refine tn_code ?_
  refine t_ret1 rfl rfl (res_tmp rfl) (fun w' s => ?_)
  rfl

set_option maxRecDepth 20000 in
theorem ac_mornings (b : Bk) (a : Option Addr) (c : Nat) (t : List Int) (ta : Option Addr) (tc : Nat) (k : Nat) (l : Lin) (e : Int) (w : World) (hr : Ro w 0 w.heap.size a b.lines.length c 10 (b.lines.map linC)) (ht : Ro w 0 w.heap.size ta t.length tc 1 (ints t)) (hb : isBk b = true) (hl : b.lines[k]? = some l) (he : t[k]? = some e) (hin : 0 ≤ e ∧ e ≤ 20) : Calls Tryz.prog 94 #[acV b a c t ta tc, (.int .i64 (k : Int))] w (RetV w (.int .i64 (partS b l e 1))) := by
  have hlm := List.mem_of_getElem? hl
  have hpr := prodB hb hlm hin
  have hx := map_get (f := linC) hl
  have hx2 := map_get (f := intC) he
  have hk1 := (List.getElem?_eq_some_iff.1 hl).1
  have hk2 := (List.getElem?_eq_some_iff.1 he).1
  refine calls_T0 (av := [_, _]) Tryz.func94 rfl rfl rfl ?_
  refine t_seq ?_
  refine t_reg ?_
  refine to_box rfl rfl (fun b2 => ?_)
  refine to_as rfl rfl ?_
  refine to_nil ?_
  refine tn_code ?_
  refine t_seq ?_
  refine t_regD rfl (by kernel_rfl) (by kernel_rfl) ?_
  first | refine to_fa rfl rfl rfl (by simp only [Nat.reduceAdd]; rfl) rfl ?_ | refine to_fae rfl rfl rfl (by simp only [Nat.reduceAdd]; rfl) rfl ?_
  first | refine to_fa rfl rfl rfl (by simp only [Nat.reduceAdd]; rfl) rfl ?_ | refine to_fae rfl rfl rfl (by simp only [Nat.reduceAdd]; rfl) rfl ?_
  first | refine to_lds rfl rfl rfl ?_ | refine to_ldes rfl (by assumption) rfl rfl ?_
  first | refine to_fa rfl rfl rfl (by simp only [Nat.reduceAdd]; rfl) rfl ?_ | refine to_fae rfl rfl rfl (by simp only [Nat.reduceAdd]; rfl) rfl ?_
  first | refine to_fa rfl rfl rfl (by simp only [Nat.reduceAdd]; rfl) rfl ?_ | refine to_fae rfl rfl rfl (by simp only [Nat.reduceAdd]; rfl) rfl ?_
  first | refine to_lds rfl rfl rfl ?_ | refine to_ldes rfl (by assumption) rfl rfl ?_
  refine to_mv rfl rfl ?_
  first | refine to_ix rfl rfl rfl (by first | omega | decide) (by first | omega | decide) rfl ?_ | refine to_ixi rfl rfl rfl (by omega) (by omega) (by omega) rfl ?_
  first | refine to_fa rfl rfl rfl (by simp only [Nat.reduceAdd]; rfl) rfl ?_ | refine to_fae rfl rfl rfl (by simp only [Nat.reduceAdd]; rfl) rfl ?_
  first | refine to_lds rfl rfl rfl ?_ | refine to_ldes rfl (by assumption) rfl rfl ?_
  refine to_mul rfl rfl (by first | omega | exact mul_ok (by omega) (by omega) (by omega) (by omega)) rfl ?_
  refine to_as rfl rfl ?_
  refine to_nil ?_
  refine tn_code ?_
  refine t_ret1 rfl rfl (res_tmp rfl) (fun w' s => ?_)
  rfl

set_option maxRecDepth 20000 in
theorem ac_posts (b : Bk) (a : Option Addr) (c : Nat) (t : List Int) (ta : Option Addr) (tc : Nat) (k : Nat) (l : Lin) (e : Int) (w : World) (hr : Ro w 0 w.heap.size a b.lines.length c 10 (b.lines.map linC)) (ht : Ro w 0 w.heap.size ta t.length tc 1 (ints t)) (hb : isBk b = true) (hl : b.lines[k]? = some l) (he : t[k]? = some e) (hin : 0 ≤ e ∧ e ≤ 20) : Calls Tryz.prog 95 #[acV b a c t ta tc, (.int .i64 (k : Int))] w (RetV w (.int .i64 (partS b l e 2))) := by
  have hlm := List.mem_of_getElem? hl
  have hpr := prodB hb hlm hin
  have hx := map_get (f := linC) hl
  have hx2 := map_get (f := intC) he
  have hk1 := (List.getElem?_eq_some_iff.1 hl).1
  have hk2 := (List.getElem?_eq_some_iff.1 he).1
  refine calls_T0 (av := [_, _]) Tryz.func95 rfl rfl rfl ?_
  refine t_seq ?_
  refine t_reg ?_
  refine to_box rfl rfl (fun b2 => ?_)
  refine to_as rfl rfl ?_
  refine to_nil ?_
  refine tn_code ?_
  refine t_seq ?_
  refine t_regD rfl (by kernel_rfl) (by kernel_rfl) ?_
  first | refine to_fa rfl rfl rfl (by simp only [Nat.reduceAdd]; rfl) rfl ?_ | refine to_fae rfl rfl rfl (by simp only [Nat.reduceAdd]; rfl) rfl ?_
  first | refine to_fa rfl rfl rfl (by simp only [Nat.reduceAdd]; rfl) rfl ?_ | refine to_fae rfl rfl rfl (by simp only [Nat.reduceAdd]; rfl) rfl ?_
  first | refine to_lds rfl rfl rfl ?_ | refine to_ldes rfl (by assumption) rfl rfl ?_
  first | refine to_fa rfl rfl rfl (by simp only [Nat.reduceAdd]; rfl) rfl ?_ | refine to_fae rfl rfl rfl (by simp only [Nat.reduceAdd]; rfl) rfl ?_
  first | refine to_fa rfl rfl rfl (by simp only [Nat.reduceAdd]; rfl) rfl ?_ | refine to_fae rfl rfl rfl (by simp only [Nat.reduceAdd]; rfl) rfl ?_
  first | refine to_lds rfl rfl rfl ?_ | refine to_ldes rfl (by assumption) rfl rfl ?_
  refine to_mv rfl rfl ?_
  first | refine to_ix rfl rfl rfl (by first | omega | decide) (by first | omega | decide) rfl ?_ | refine to_ixi rfl rfl rfl (by omega) (by omega) (by omega) rfl ?_
  first | refine to_fa rfl rfl rfl (by simp only [Nat.reduceAdd]; rfl) rfl ?_ | refine to_fae rfl rfl rfl (by simp only [Nat.reduceAdd]; rfl) rfl ?_
  first | refine to_lds rfl rfl rfl ?_ | refine to_ldes rfl (by assumption) rfl rfl ?_
  refine to_mul rfl rfl (by first | omega | exact mul_ok (by omega) (by omega) (by omega) (by omega)) rfl ?_
  refine to_as rfl rfl ?_
  refine to_nil ?_
  refine tn_code ?_
  refine t_ret1 rfl rfl (res_tmp rfl) (fun w' s => ?_)
  rfl

set_option maxRecDepth 20000 in
theorem ac_owed (b : Bk) (a : Option Addr) (c : Nat) (t : List Int) (ta : Option Addr) (tc : Nat) (k : Nat) (l : Lin) (e : Int) (w : World) (hr : Ro w 0 w.heap.size a b.lines.length c 10 (b.lines.map linC)) (ht : Ro w 0 w.heap.size ta t.length tc 1 (ints t)) (hb : isBk b = true) (hl : b.lines[k]? = some l) (he : t[k]? = some e) (hin : 0 ≤ e ∧ e ≤ 20) : Calls Tryz.prog 65 #[acV b a c t ta tc, (.int .i64 (k : Int))] w (RetV w (.int .i64 (owesL b l e))) := by
  have hlm := List.mem_of_getElem? hl
  have hpr := prodB hb hlm hin
  have hx := map_get (f := linC) hl
  have hx2 := map_get (f := intC) he
  have hk1 := (List.getElem?_eq_some_iff.1 hl).1
  have hk2 := (List.getElem?_eq_some_iff.1 he).1
  refine calls_T0 (av := [_, _]) Tryz.func65 rfl rfl rfl ?_
  refine t_seq ?_
  refine t_reg ?_
  refine to_box rfl rfl (fun b2 => ?_)
  refine to_as rfl rfl ?_
  refine to_nil ?_
  refine tn_code ?_
  refine t_seq ?_
  refine t_reg ?_
  refine to_as rfl rfl ?_
  refine to_nil ?_
  refine tn_code ?_
  refine t_seq ?_
  refine t_seq ?_
  refine t_reg ?_
  first | refine to_lda rfl rfl rfl ?_ | refine to_ldea rfl (by assumption) rfl rfl ?_
  refine to_mf rfl rfl rfl ?_
  first | refine to_lda rfl rfl rfl ?_ | refine to_ldea rfl (by assumption) rfl rfl ?_
  refine to_mf rfl rfl rfl ?_
  first | refine to_lda rfl rfl rfl ?_ | refine to_ldea rfl (by assumption) rfl rfl ?_
  refine to_mf rfl rfl rfl ?_
  refine to_ba rfl rfl rfl ?_
  refine to_mv rfl rfl ?_
  refine to_nil ?_
  refine tn_code ?_
  refine t_blk ?_
  refine t_loop2 (ι := Nat) (fun j => j ≤ 3) (fun j => [(1, .int .i64 (k : Int)), (5, .int .i64 (owK b l e j)), (14, .agg ([.func (.func 93) [acV b a c t ta tc].toArray #[], .func (.func 94) [acV b a c t ta tc].toArray #[], .func (.func 95) [acV b a c t ta tc].toArray #[]] : List Value).toArray), (15, .int .i64 (j : Int))]) (fun j => [.own b2 (isC (acC b a c t ta tc) 85), .snap 0 w.heap.size w]) (fun j => 3 - j) (0) [.own b2 (isC (acC b a c t ta tc) 85), .snap 0 w.heap.size w] (rfl) (by omega) (⟨rfl, rfl, rfl, rfl, trivial⟩) ?_
  rintro j hk
  show T _ _ _ ⟨_, [(1, .int .i64 (k : Int)), (5, .int .i64 (owK b l e j)), (14, .agg ([.func (.func 93) [acV b a c t ta tc].toArray #[], .func (.func 94) [acV b a c t ta tc].toArray #[], .func (.func 95) [acV b a c t ta tc].toArray #[]] : List Value).toArray), (15, .int .i64 (j : Int))], _⟩ [.own b2 (isC (acC b a c t ta tc) 85), .snap 0 w.heap.size w]
  refine t_seq ?_
  refine t_reg ?_
  refine to_lss rfl rfl rfl ?_
  refine to_nil ?_
  refine tn_code ?_
  refine t_seq ?_
  refine t_if rfl (fun h1 => ?_) (fun h1 => ?_)
  · try simp only [decide_eq_true_eq, decide_eq_false_iff_not, Bool.not_eq_true', Bool.not_eq_false', Int.not_lt, Int.not_le, ne_eq, Decidable.not_not] at h1
    try have h1b := inB_iff.1 h1
    obtain ⟨q, hx3, hq, hcall, hpb, hob⟩ : ∃ q, ([.func (.func 93) [acV b a c t ta tc].toArray #[], .func (.func 94) [acV b a c t ta tc].toArray #[], .func (.func 95) [acV b a c t ta tc].toArray #[]] : List Value)[j]? = some (.func (.func q) [acV b a c t ta tc].toArray #[]) ∧ FnOk Tryz.prog q ∧ (∀ w', Below w.heap.size w w' → Calls Tryz.prog q ([acV b a c t ta tc] ++ ([Value.int .i64 (k : Int)] ++ [])).toArray w' (RetV w' (.int .i64 (partS b l e j)))) ∧ (0 ≤ partS b l e j ∧ partS b l e j ≤ 16000) ∧ (0 ≤ owK b l e j ∧ owK b l e j ≤ 32000) := by
      have hro : ∀ w', Below w.heap.size w w' → Ro w' 0 w'.heap.size a b.lines.length c 10 (b.lines.map linC) := fun w' h => hr.mono (Nat.le_refl _) h.size (fun k _ hk => h.block k hk)
      have hrt : ∀ w', Below w.heap.size w w' → Ro w' 0 w'.heap.size ta t.length tc 1 (ints t) := fun w' h => ht.mono (Nat.le_refl _) h.size (fun k _ hk => h.block k hk)
      match j, (show j < 3 by omega) with
      | 0, _ => exact ⟨93, rfl, inferInstance, fun w' h => ac_sheets b a c t ta tc k l e w' (hro w' h) (hrt w' h) hb hl he hin, by simp only [partS]; omega, by simp [owK]⟩
      | 1, _ => exact ⟨94, rfl, inferInstance, fun w' h => ac_mornings b a c t ta tc k l e w' (hro w' h) (hrt w' h) hb hl he hin, by simp only [partS]; omega, by simp only [owK, partS]; omega⟩
      | 2, _ => exact ⟨95, rfl, inferInstance, fun w' h => ac_posts b a c t ta tc k l e w' (hro w' h) (hrt w' h) hb hl he hin, by simp only [partS]; omega, by simp only [owK, partS]; omega⟩
    refine t_skip ?_
    refine tn_code ?_
    refine t_seq ?_
    refine t_blk ?_
    refine t_seq ?_
    refine t_reg ?_
    refine to_ixa rfl rfl rfl (by omega) (by assumption) rfl ?_
    refine to_as rfl rfl ?_
    refine to_nil ?_
    refine tn_code ?_
    refine t_reg ?_
    refine to_mv rfl rfl ?_
    refine to_mv rfl rfl ?_
    refine to_mv rfl rfl ?_
    refine to_call0 rfl rfl (fun w s => hcall w (s.below0 (List.mem_cons_of_mem _ (List.mem_cons_self ..)))) rfl ?_
    refine to_add rfl rfl (by omega) rfl ?_
    refine to_as rfl rfl ?_
    refine to_nil ?_
    refine tn_blk ?_
    refine tn_code ?_
    refine t_reg ?_
    refine to_add rfl rfl (by omega) rfl ?_
    refine to_mv rfl rfl ?_
    refine to_nil ?_
    exact tn_loop2 (j + 1) [.own b2 (isC (acC b a c t ta tc) 85), .snap 0 w.heap.size w] (rfl) (by omega) (by omega) (⟨rfl, rfl, rfl, rfl, trivial⟩)
  · try simp only [decide_eq_true_eq, decide_eq_false_iff_not, Bool.not_eq_true', Bool.not_eq_false', Int.not_lt, Int.not_le, ne_eq, Decidable.not_not] at h1
    try have h1b := inB_iff.1 h1
    have hj3 : j = 3 := by omega
    subst hj3
    refine t_exit ?_
    refine tx_code ?_
    refine tx_inv ?_
    refine tx_blk ?_
    refine tn_code ?_
    refine t_seq ?_
    refine t_reg ?_
    refine to_mv rfl rfl ?_
    refine to_as rfl rfl ?_
    refine to_nil ?_
    refine tn_code ?_
    refine t_ret1 rfl rfl (res_tmp rfl) (fun w' s => ?_)
    rw [← owK3]

end Go.Proofs


namespace Go.Proofs
open Go Go.Sx Go.RowKit

set_option maxRecDepth 20000 in
theorem ac_pays (b : Bk) (a : Option Addr) (c : Nat) (t : List Int) (ta : Option Addr) (tc : Nat) (w : World) (hr : Ro w 0 w.heap.size a b.lines.length c 10 (b.lines.map linC)) (ht : Ro w 0 w.heap.size ta t.length tc 1 (ints t)) (hb : isBk b = true) (htr : truOk b.lines t = true) : Calls Tryz.prog 79 #[acV b a c t ta tc] w (Ret w (fun lo w1 v => ∃ a1 c1 r, v = .tuple #[.slice a1 (paysL b t).length c1, .map (some r)] ∧ Ro w1 lo w1.heap.size a1 (paysL b t).length c1 1 (ints (paysL b t)) ∧ Mb w1 lo w1.heap.size r (restF b t))) := by
  have hlen := (truOk_iff.1 htr).1
  have hbb := isBk_b hb
  refine calls_T (av := [_]) Tryz.func79 rfl rfl rfl ?_
  refine t_seq ?_
  refine t_reg ?_
  refine to_box rfl rfl (fun b1 => ?_)
  refine to_as rfl rfl ?_
  refine to_as rfl rfl ?_
  refine to_nil ?_
  refine tn_code ?_
  refine t_seq ?_
  refine t_reg ?_
  refine to_mkm rfl (fun r9 => ?_)
  refine to_as rfl rfl ?_
  refine to_nil ?_
  refine tn_code ?_
  refine t_seq ?_
  refine t_reg ?_
  refine to_as rfl rfl ?_
  refine to_nil ?_
  refine tn_code ?_
  refine t_seq ?_
  refine t_seq ?_
  refine t_reg ?_
  first | refine to_fa rfl rfl rfl (by simp only [Nat.reduceAdd]; rfl) rfl ?_ | refine to_fae rfl rfl rfl (by simp only [Nat.reduceAdd]; rfl) rfl ?_
  first | refine to_fa rfl rfl rfl (by simp only [Nat.reduceAdd]; rfl) rfl ?_ | refine to_fae rfl rfl rfl (by simp only [Nat.reduceAdd]; rfl) rfl ?_
  first | refine to_lds rfl rfl rfl ?_ | refine to_ldes rfl (by assumption) rfl rfl ?_
  refine to_lenS rfl rfl ?_
  refine to_mv rfl rfl ?_
  refine to_nil ?_
  refine tn_code ?_
  refine t_blk ?_
  refine t_nilrow 3 1 ?_
  refine t_loop2 (ι := Nat × Option Addr × Nat) (fun ((k, a', c') : Nat × Option Addr × Nat) => k ≤ b.lines.length) (fun ((k, a', c') : Nat × Option Addr × Nat) => [(1, .pointer (some ⟨b1, 0, none⟩)), (4, .map (some r9)), (5, .slice a' k c'), (12, .slice a b.lines.length c), (13, .int .i64 (b.lines.length : Int)), (14, .int .i64 (k : Int))]) (fun ((k, a', c') : Nat × Option Addr × Nat) => [.row a' k c' 3 1 (ints (payK b t k).1), .own r9 (isM (payK b t k).2), .own b1 (isC (acC b a c t ta tc) 85), .snap 0 w.heap.size w]) (fun ((k, a', c') : Nat × Option Addr × Nat) => b.lines.length - k) ((0, none, 0)) [.row none 0 0 3 1 [], .own r9 (isM fun _ => 0), .own b1 (isC (acC b a c t ta tc) 85), .snap 0 w.heap.size w] (rfl) (Nat.zero_le _) (⟨rfl, rfl, rfl, rfl, rfl, rfl, trivial⟩) ?_
  rintro ⟨k, a', c'⟩ hk
  try dsimp only at hk
  show T _ _ _ ⟨_, [(1, .pointer (some ⟨b1, 0, none⟩)), (4, .map (some r9)), (5, .slice a' k c'), (12, .slice a b.lines.length c), (13, .int .i64 (b.lines.length : Int)), (14, .int .i64 (k : Int))], _⟩ [.row a' k c' 3 1 (ints (payK b t k).1), .own r9 (isM (payK b t k).2), .own b1 (isC (acC b a c t ta tc) 85), .snap 0 w.heap.size w]
  refine t_seq ?_
  refine t_reg ?_
  refine to_lss rfl rfl rfl ?_
  refine to_nil ?_
  refine tn_code ?_
  refine t_seq ?_
  refine t_if rfl (fun h1 => ?_) (fun h1 => ?_)
  · try simp only [decide_eq_true_eq, decide_eq_false_iff_not, Bool.not_eq_true', Bool.not_eq_false', Int.not_lt, Int.not_le, ne_eq, Decidable.not_not] at h1
    try have h1b := inB_iff.1 h1
    obtain ⟨l, hl⟩ := some_get (xs := b.lines) (k := k) (by omega)
    obtain ⟨e, he⟩ := some_get (xs := t) (k := k) (by omega)
    have hx := map_get (f := linC) hl
    have hin := (truOk_e hb htr hl he).2
    have hob := owesL_b hb (List.mem_of_getElem? hl) hin
    have hkb := payK_b (t := t) hb k l.hand
    have hmd := emod_bd (owesL b l e + (payK b t k).2 l.hand) (b := b.unit) (by omega)
    refine t_skip ?_
    refine tn_code ?_
    refine t_seq ?_
    refine t_blk ?_
    refine t_seq ?_
    refine t_reg ?_
    refine to_mv rfl rfl ?_
    first | refine to_ix rfl rfl rfl (by first | omega | decide) (by first | omega | decide) rfl ?_ | refine to_ixi rfl rfl rfl (by omega) (by omega) (by omega) rfl ?_
    first | refine to_lda rfl rfl rfl ?_ | refine to_ldea rfl (by assumption) rfl rfl ?_
    refine to_alloc rfl (fun b7 => ?_)
    refine to_as rfl rfl ?_
    first | refine to_st rfl rfl rfl rfl ?_ | refine to_ste rfl rfl (by assumption) rfl rfl ?_
    refine to_nil ?_
    refine tn_code ?_
    refine t_seq ?_
    refine t_regD rfl (by kernel_rfl) (by kernel_rfl) ?_
    first | refine to_lda rfl rfl rfl ?_ | refine to_ldea rfl (by assumption) rfl rfl ?_
    refine to_mv rfl rfl ?_
    refine to_call0 rfl rfl (fun w s => ac_owed b a c t ta tc k l e w (rdw s) (rdw s) hb hl he hin) rfl ?_
    refine to_mv rfl rfl ?_
    first | refine to_fa rfl rfl rfl (by simp only [Nat.reduceAdd]; rfl) rfl ?_ | refine to_fae rfl rfl rfl (by simp only [Nat.reduceAdd]; rfl) rfl ?_
    first | refine to_lds rfl rfl rfl ?_ | refine to_ldes rfl (by assumption) rfl rfl ?_
    refine to_lku rfl rfl rfl ?_
    refine to_add rfl rfl (by omega) rfl ?_
    refine to_as rfl rfl ?_
    refine to_nil ?_
    refine tn_code ?_
    refine t_seq ?_
    refine t_regM [8] [.row a' k c' 3 1 (ints (payK b t k).1), .own b7 (isC (linC l) 52), .own b1 (isC (acC b a c t ta tc) 85), .snap 0 w.heap.size w] rfl (by kernel_rfl) (by kernel_rfl) ?_
    refine tm_q ?e1 rfl ?q1 ?r1
    case q1 =>
      refine to_mv rfl rfl ?_
      exact tmq_end
    refine tm_q ?e2 rfl ?q2 ?r2
    case q2 =>
      first | refine to_fa rfl rfl rfl (by simp only [Nat.reduceAdd]; rfl) rfl ?_ | refine to_fae rfl rfl rfl (by simp only [Nat.reduceAdd]; rfl) rfl ?_
      exact tmq_end
    refine tm_q ?e3 rfl ?q3 ?r3
    case q3 =>
      first | refine to_lds rfl rfl rfl ?_ | refine to_ldes rfl (by assumption) rfl rfl ?_
      exact tmq_end
    refine tm_q ?e4 rfl ?q4 ?r4
    case q4 =>
      refine to_mv rfl rfl ?_
      exact tmq_end
    refine tm_q ?e5 rfl ?q5 ?r5
    case q5 =>
      first | refine to_fa rfl rfl rfl (by simp only [Nat.reduceAdd]; rfl) rfl ?_ | refine to_fae rfl rfl rfl (by simp only [Nat.reduceAdd]; rfl) rfl ?_
      exact tmq_end
    refine tm_q ?e6 rfl ?q6 ?r6
    case q6 =>
      first | refine to_fa rfl rfl rfl (by simp only [Nat.reduceAdd]; rfl) rfl ?_ | refine to_fae rfl rfl rfl (by simp only [Nat.reduceAdd]; rfl) rfl ?_
      exact tmq_end
    refine tm_q ?e7 rfl ?q7 ?r7
    case q7 =>
      first | refine to_lds rfl rfl rfl ?_ | refine to_ldes rfl (by assumption) rfl rfl ?_
      exact tmq_end
    refine tm_q ?e8 rfl ?q8 ?r8
    case q8 =>
      refine to_rem rfl rfl (by omega) (by omega) rfl ?_
      exact tmq_end
    refine tm_s rfl ?_ (fun _ h => by cases h) rfl
    refine to_mup rfl rfl rfl ?_
    refine tm_se rfl ?_
    refine tm_nil ?_
    refine tn_code ?_
    refine t_reg ?_
    refine to_mv rfl rfl ?_
    refine to_mv rfl rfl ?_
    refine to_mv rfl rfl ?_
    first | refine to_fa rfl rfl rfl (by simp only [Nat.reduceAdd]; rfl) rfl ?_ | refine to_fae rfl rfl rfl (by simp only [Nat.reduceAdd]; rfl) rfl ?_
    first | refine to_fa rfl rfl rfl (by simp only [Nat.reduceAdd]; rfl) rfl ?_ | refine to_fae rfl rfl rfl (by simp only [Nat.reduceAdd]; rfl) rfl ?_
    first | refine to_lds rfl rfl rfl ?_ | refine to_ldes rfl (by assumption) rfl rfl ?_
    refine to_rem rfl rfl (by omega) (by omega) rfl ?_
    refine to_sub rfl rfl (by omega) rfl ?_
    refine to_bsl rfl rfl rfl rfl (fun a43 => ?_)
    refine to_app rfl rfl rfl (by simp [scals, scal]) (by decide) (by omega) (by decide) rfl (fun a44 c44 => ?_)
    refine to_as rfl rfl ?_
    refine to_nil ?_
    refine tn_blk ?_
    refine tn_code ?_
    refine t_reg ?_
    refine to_add rfl rfl (by omega) rfl ?_
    refine to_mv rfl rfl ?_
    refine to_nil ?_
    exact tn_loop2 ((k + 1, a44, c44)) [.row a44 (k + 1) c44 3 1 (ints (payK b t k).1 ++ [[.int .i64 ((owesL b l e + (payK b t k).2 l.hand) - (owesL b l e + (payK b t k).2 l.hand) % b.unit)]]), .own r9 (isM (upd (payK b t k).2 l.hand ((owesL b l e + (payK b t k).2 l.hand) % b.unit))), .own b1 (isC (acC b a c t ta tc) 85), .snap 0 w.heap.size w] (by dsimp only; rw [payK_succ hl he, ints_snoc]) (by dsimp only; omega) (by dsimp only; omega) (⟨rfl, rfl, rfl, rfl, rfl, rfl, trivial⟩)
  · try simp only [decide_eq_true_eq, decide_eq_false_iff_not, Bool.not_eq_true', Bool.not_eq_false', Int.not_lt, Int.not_le, ne_eq, Decidable.not_not] at h1
    try have h1b := inB_iff.1 h1
    have hk2 : k = b.lines.length := by omega
    subst hk2
    refine t_exit ?_
    refine tx_code ?_
    refine tx_inv ?_
    refine tx_blk ?_
    refine tn_code ?_
    refine t_seq ?_
    refine t_reg ?_
    refine to_mv rfl rfl ?_
    refine to_mv rfl rfl ?_
    refine to_as rfl rfl ?_
    refine to_as rfl rfl ?_
    refine to_nil ?_
    refine tn_code ?_
    refine t_ret2 rfl rfl (res_tmp rfl) (res_tmp rfl) (fun w' s => ?_)
    rw [paysL_len hlen]
    exact ⟨_, _, _, rfl, ro_row s, mb_own s⟩

end Go.Proofs


namespace Go.Proofs
open Go Go.Sx Go.RowKit

set_option maxRecDepth 20000 in
theorem ac_paid (b : Bk) (a : Option Addr) (c : Nat) (t : List Int) (ta : Option Addr) (tc : Nat) (h : Int) (w : World) (hr : Ro w 0 w.heap.size a b.lines.length c 10 (b.lines.map linC)) (ht : Ro w 0 w.heap.size ta t.length tc 1 (ints t)) (hb : isBk b = true) (htr : truOk b.lines t = true) : Calls Tryz.prog 58 #[acV b a c t ta tc, (.int .i64 h)] w (RetV w (.int .i64 (toL b t h))) := by
  have hlen := (truOk_iff.1 htr).1
  have hbb := isBk_b hb
  have hpl := paysL_len hlen
  refine calls_T0 (av := [_, _]) Tryz.func58 rfl rfl rfl ?_
  refine t_seq ?_
  refine t_reg ?_
  refine to_box rfl rfl (fun b2 => ?_)
  refine to_as rfl rfl ?_
  refine to_nil ?_
  refine tn_code ?_
  refine t_seq ?_
  refine t_reg ?_
  first | refine to_lda rfl rfl rfl ?_ | refine to_ldea rfl (by assumption) rfl rfl ?_
  refine to_callR rfl rfl (fun w s => ac_pays b a c t ta tc w (rdw s) (rdw s) hb htr) rfl (fun v12 lo12 w12 hlo12 hR12 => ?_)
  obtain ⟨pa12, pc12, pr12, rfl, hro12, hmb12⟩ := hR12
  refine to_mv rfl rfl ?_
  refine to_ex rfl rfl rfl ?_
  refine to_ex rfl rfl rfl ?_
  refine to_as rfl rfl ?_
  refine to_as rfl rfl ?_
  refine to_nil ?_
  refine tn_code ?_
  refine t_seq ?_
  refine t_reg ?_
  refine to_as rfl rfl ?_
  refine to_nil ?_
  refine tn_code ?_
  refine t_seq ?_
  refine t_seq ?_
  refine t_reg ?_
  refine to_mv rfl rfl ?_
  refine to_lenS rfl rfl ?_
  refine to_mv rfl rfl ?_
  refine to_nil ?_
  refine tn_code ?_
  refine t_blk ?_
  refine t_loop2 (ι := Nat) (fun k => k ≤ (paysL b t).length) (fun k => [(1, .int .i64 h), (2, .pointer (some ⟨b2, 0, none⟩)), (7, .int .i64 (toK b t h k)), (15, .slice pa12 (paysL b t).length pc12), (16, .int .i64 ((paysL b t).length : Int)), (17, .int .i64 (k : Int))]) (fun k => [.snap lo12 w12.heap.size w12, .own b2 (isC (acC b a c t ta tc) 85), .snap 0 w.heap.size w]) (fun k => (paysL b t).length - k) (0) [.snap lo12 w12.heap.size w12, .own b2 (isC (acC b a c t ta tc) 85), .snap 0 w.heap.size w] (rfl) (Nat.zero_le _) (⟨rfl, rfl, rfl, rfl, rfl, rfl, trivial⟩) ?_
  rintro k hk
  show T _ _ _ ⟨_, [(1, .int .i64 h), (2, .pointer (some ⟨b2, 0, none⟩)), (7, .int .i64 (toK b t h k)), (15, .slice pa12 (paysL b t).length pc12), (16, .int .i64 ((paysL b t).length : Int)), (17, .int .i64 (k : Int))], _⟩ [.snap lo12 w12.heap.size w12, .own b2 (isC (acC b a c t ta tc) 85), .snap 0 w.heap.size w]
  refine t_seq ?_
  refine t_reg ?_
  refine to_lss rfl rfl rfl ?_
  refine to_nil ?_
  refine tn_code ?_
  refine t_seq ?_
  refine t_if rfl (fun h1 => ?_) (fun h1 => ?_)
  · try simp only [decide_eq_true_eq, decide_eq_false_iff_not, Bool.not_eq_true', Bool.not_eq_false', Int.not_lt, Int.not_le, ne_eq, Decidable.not_not] at h1
    try have h1b := inB_iff.1 h1
    obtain ⟨y, hy⟩ := some_get (xs := paysL b t) (k := k) (by omega)
    obtain ⟨l, hl⟩ := some_get (xs := b.lines) (k := k) (by omega)
    have hx := map_get (f := intC) hy
    have hx2 := map_get (f := linC) hl
    have hyb := paysL_xb hb htr y (List.mem_of_getElem? hy)
    have htb := toK_b (h := h) hb htr k
    refine t_skip ?_
    refine tn_code ?_
    refine t_seq ?_
    refine t_blk ?_
    refine t_seq ?_
    refine t_reg ?_
    refine to_mv rfl rfl ?_
    first | refine to_ix rfl rfl rfl (by first | omega | decide) (by first | omega | decide) rfl ?_ | refine to_ixi rfl rfl rfl (by omega) (by omega) (by omega) rfl ?_
    first | refine to_lds rfl rfl rfl ?_ | refine to_ldes rfl (by assumption) rfl rfl ?_
    refine to_as rfl rfl ?_
    refine to_as rfl rfl ?_
    refine to_nil ?_
    refine tn_code ?_
    refine t_seq ?_
    refine t_reg ?_
    first | refine to_fa rfl rfl rfl (by simp only [Nat.reduceAdd]; rfl) rfl ?_ | refine to_fae rfl rfl rfl (by simp only [Nat.reduceAdd]; rfl) rfl ?_
    first | refine to_fa rfl rfl rfl (by simp only [Nat.reduceAdd]; rfl) rfl ?_ | refine to_fae rfl rfl rfl (by simp only [Nat.reduceAdd]; rfl) rfl ?_
    first | refine to_lds rfl rfl rfl ?_ | refine to_ldes rfl (by assumption) rfl rfl ?_
    refine to_mv rfl rfl ?_
    first | refine to_ix rfl rfl rfl (by first | omega | decide) (by first | omega | decide) rfl ?_ | refine to_ixi rfl rfl rfl (by omega) (by omega) (by omega) rfl ?_
    first | refine to_fa rfl rfl rfl (by simp only [Nat.reduceAdd]; rfl) rfl ?_ | refine to_fae rfl rfl rfl (by simp only [Nat.reduceAdd]; rfl) rfl ?_
    first | refine to_lds rfl rfl rfl ?_ | refine to_ldes rfl (by assumption) rfl rfl ?_
    refine to_mv rfl rfl ?_
    refine to_eql rfl rfl rfl ?_
    refine to_nil ?_
    refine tn_code ?_
    refine t_if rfl (fun h2 => ?_) (fun h2 => ?_)
    · try simp only [decide_eq_true_eq, decide_eq_false_iff_not, Bool.not_eq_true', Bool.not_eq_false', Int.not_lt, Int.not_le, ne_eq, Decidable.not_not] at h2
      try have h2b := inB_iff.1 h2
      refine t_reg ?_
      refine to_mv rfl rfl ?_
      refine to_mv rfl rfl ?_
      refine to_add rfl rfl (by omega) rfl ?_
      refine to_as rfl rfl ?_
      refine to_nil ?_
      refine tn_blk ?_
      refine tn_code ?_
      refine t_reg ?_
      refine to_add rfl rfl (by omega) rfl ?_
      refine to_mv rfl rfl ?_
      refine to_nil ?_
      exact tn_loop2 (k + 1) [.snap lo12 w12.heap.size w12, .own b2 (isC (acC b a c t ta tc) 85), .snap 0 w.heap.size w] (rfl) (by omega) (by omega) (⟨rfl, rfl, congrArg (fun z => some (Value.int .i64 z)) ((toK_succ hl hy).trans (if_pos h2)).symm, rfl, rfl, rfl, trivial⟩)
    · try simp only [decide_eq_true_eq, decide_eq_false_iff_not, Bool.not_eq_true', Bool.not_eq_false', Int.not_lt, Int.not_le, ne_eq, Decidable.not_not] at h2
      try have h2b := inB_iff.1 h2
      refine t_skip ?_
      refine tn_blk ?_
      refine tn_code ?_
      refine t_reg ?_
      refine to_add rfl rfl (by omega) rfl ?_
      refine to_mv rfl rfl ?_
      refine to_nil ?_
      exact tn_loop2 (k + 1) [.snap lo12 w12.heap.size w12, .own b2 (isC (acC b a c t ta tc) 85), .snap 0 w.heap.size w] (rfl) (by omega) (by omega) (⟨rfl, rfl, congrArg (fun z => some (Value.int .i64 z)) ((toK_succ hl hy).trans (if_neg h2)).symm, rfl, rfl, rfl, trivial⟩)
  · try simp only [decide_eq_true_eq, decide_eq_false_iff_not, Bool.not_eq_true', Bool.not_eq_false', Int.not_lt, Int.not_le, ne_eq, Decidable.not_not] at h1
    try have h1b := inB_iff.1 h1
    have hk2 : k = b.lines.length := by omega
    subst hk2
    refine t_exit ?_
    refine tx_code ?_
    refine tx_inv ?_
    refine tx_blk ?_
    refine tn_code ?_
    refine t_seq ?_
    refine t_reg ?_
    refine to_mv rfl rfl ?_
    refine to_as rfl rfl ?_
    refine to_nil ?_
    refine tn_code ?_
    refine t_ret1 rfl rfl (res_tmp rfl) (fun w' s => ?_)
    rfl

set_option maxRecDepth 20000 in
theorem pay_Pays (b : Bk) (a : Option Addr) (c : Nat) (t : List Int) (ta : Option Addr) (tc : Nat) (w : World) (hr : Ro w 0 w.heap.size a b.lines.length c 10 (b.lines.map linC)) (ht : Ro w 0 w.heap.size ta t.length tc 1 (ints t)) : Calls Tryz.prog 40 #[bkV b a c, .slice ta t.length tc] w (Ret w (RSlE (payPays b t).1 (payPays b t).2)) := by
  refine calls_T (av := [_, _]) Tryz.func40 rfl rfl rfl ?_
  refine t_seq ?_
  refine t_reg ?_
  refine to_box rfl rfl (fun b2 => ?_)
  refine to_as rfl rfl ?_
  refine to_as rfl rfl ?_
  refine to_nil ?_
  refine tn_code ?_
  refine t_seq ?_
  refine t_seq ?_
  refine t_reg ?_
  first | refine to_lda rfl rfl rfl ?_ | refine to_ldea rfl (by assumption) rfl rfl ?_
  refine to_call0 rfl rfl (fun w s => pay_isBook b a c w (rdw s)) rfl ?_
  refine to_not rfl rfl ?_
  refine to_mv rfl rfl ?_
  refine to_gs rfl rfl rfl (fun h1 => ?_) (fun h1 => ?_)
  · try simp only [decide_eq_true_eq, decide_eq_false_iff_not, Bool.not_eq_true', Bool.not_eq_false', Int.not_lt, Int.not_le, ne_eq, Decidable.not_not] at h1
    try have h1b := inB_iff.1 h1
    refine to_gf rfl rfl rfl rfl ?_
    refine to_gf rfl rfl rfl rfl ?_
    refine to_gf rfl rfl rfl rfl ?_
    refine to_gf rfl rfl rfl rfl ?_
    refine to_pkT rfl rfl rfl ?_
    refine to_nil ?_
    refine tn_code ?_
    refine t_ifT rfl ?_
    refine t_seq ?_
    refine t_reg ?_
    refine to_as rfl rfl ?_
    refine to_as rfl rfl ?_
    refine to_nil ?_
    refine tn_code ?_
    refine t_ret2 rfl rfl (res_tmp rfl) (res_tmp rfl) (fun w' s => ?_)
    first | (rw [show payPays b t = ([], 2) from by simp_all [payPays]]; exact ⟨_, _, rfl, Ro.nil _ _ _ _⟩) | (rw [show payPays b t = (paysL b t, 0) from by simp_all [payPays]]; exact ⟨_, _, rfl, ro_snap s hlo21⟩)
  · try simp only [decide_eq_true_eq, decide_eq_false_iff_not, Bool.not_eq_true', Bool.not_eq_false', Int.not_lt, Int.not_le, ne_eq, Decidable.not_not] at h1
    try have h1b := inB_iff.1 h1
    have hb := h1
    have hbb := isBk_b hb
    refine to_gt rfl rfl ?_
    first | refine to_lda rfl rfl rfl ?_ | refine to_ldea rfl (by assumption) rfl rfl ?_
    refine to_gt rfl rfl ?_
    refine to_mv rfl rfl ?_
    refine to_gt rfl rfl ?_
    refine to_call0 rfl rfl (fun w s => pay_isTruth b a c _ _ _ w (rdw s) (rdw s) (by omega)) rfl ?_
    refine to_gt rfl rfl ?_
    refine to_not rfl rfl ?_
    refine to_pkF rfl rfl rfl ?_
    refine to_nil ?_
    refine tn_code ?_
    refine t_if rfl (fun h2 => ?_) (fun h2 => ?_)
    · try simp only [decide_eq_true_eq, decide_eq_false_iff_not, Bool.not_eq_true', Bool.not_eq_false', Int.not_lt, Int.not_le, ne_eq, Decidable.not_not] at h2
      try have h2b := inB_iff.1 h2
      refine t_seq ?_
      refine t_reg ?_
      refine to_as rfl rfl ?_
      refine to_as rfl rfl ?_
      refine to_nil ?_
      refine tn_code ?_
      refine t_ret2 rfl rfl (res_tmp rfl) (res_tmp rfl) (fun w' s => ?_)
      first | (rw [show payPays b t = ([], 2) from by simp_all [payPays]]; exact ⟨_, _, rfl, Ro.nil _ _ _ _⟩) | (rw [show payPays b t = (paysL b t, 0) from by simp_all [payPays]]; exact ⟨_, _, rfl, ro_snap s hlo21⟩)
    · try simp only [decide_eq_true_eq, decide_eq_false_iff_not, Bool.not_eq_true', Bool.not_eq_false', Int.not_lt, Int.not_le, ne_eq, Decidable.not_not] at h2
      try have h2b := inB_iff.1 h2
      have htr := h2
      refine t_skip ?_
      refine tn_code ?_
      refine t_seq ?_
      refine t_reg ?_
      first | refine to_lda rfl rfl rfl ?_ | refine to_ldea rfl (by assumption) rfl rfl ?_
      refine to_mv rfl rfl ?_
      refine to_bs rfl rfl ?_
      refine to_callR rfl rfl (fun w s => ac_pays b a c t ta tc w (rdw s) (rdw s) hb htr) rfl (fun v21 lo21 w21 hlo21 hR21 => ?_)
      obtain ⟨pa21, pc21, pr21, rfl, hro21, hmb21⟩ := hR21
      refine to_mv rfl rfl ?_
      refine to_ex rfl rfl rfl ?_
      refine to_ex rfl rfl rfl ?_
      refine to_as rfl rfl ?_
      refine to_as rfl rfl ?_
      refine to_nil ?_
      refine tn_code ?_
      refine t_seq ?_
      refine t_reg ?_
      refine to_mv rfl rfl ?_
      refine to_as rfl rfl ?_
      refine to_as rfl rfl ?_
      refine to_nil ?_
      refine tn_code ?_
      refine t_ret2 rfl rfl (res_tmp rfl) (res_tmp rfl) (fun w' s => ?_)
      first | (rw [show payPays b t = ([], 2) from by simp_all [payPays]]; exact ⟨_, _, rfl, Ro.nil _ _ _ _⟩) | (rw [show payPays b t = (paysL b t, 0) from by simp_all [payPays]]; exact ⟨_, _, rfl, ro_snap s hlo21⟩)

set_option maxRecDepth 20000 in
theorem pay_Rest (b : Bk) (a : Option Addr) (c : Nat) (t : List Int) (ta : Option Addr) (tc : Nat) (h : Int) (w : World) (hr : Ro w 0 w.heap.size a b.lines.length c 10 (b.lines.map linC)) (ht : Ro w 0 w.heap.size ta t.length tc 1 (ints t)) : Calls Tryz.prog 41 #[bkV b a c, .slice ta t.length tc, (.int .i64 h)] w (RetV w (.tuple #[.int .i64 (payRest b t h).1, .int .i64 (payRest b t h).2])) := by
  refine calls_T0 (av := [_, _, _]) Tryz.func41 rfl rfl rfl ?_
  refine t_seq ?_
  refine t_reg ?_
  refine to_box rfl rfl (fun b3 => ?_)
  refine to_as rfl rfl ?_
  refine to_as rfl rfl ?_
  refine to_nil ?_
  refine tn_code ?_
  refine t_seq ?_
  refine t_seq ?_
  refine t_reg ?_
  first | refine to_lda rfl rfl rfl ?_ | refine to_ldea rfl (by assumption) rfl rfl ?_
  refine to_call0 rfl rfl (fun w s => pay_isBook b a c w (rdw s)) rfl ?_
  refine to_not rfl rfl ?_
  refine to_mv rfl rfl ?_
  refine to_gs rfl rfl rfl (fun h1 => ?_) (fun h1 => ?_)
  · try simp only [decide_eq_true_eq, decide_eq_false_iff_not, Bool.not_eq_true', Bool.not_eq_false', Int.not_lt, Int.not_le, ne_eq, Decidable.not_not] at h1
    try have h1b := inB_iff.1 h1
    refine to_gf rfl rfl rfl rfl ?_
    refine to_gf rfl rfl rfl rfl ?_
    refine to_gf rfl rfl rfl rfl ?_
    refine to_gf rfl rfl rfl rfl ?_
    refine to_pkT rfl rfl rfl ?_
    refine to_mv rfl rfl ?_
    refine to_gf rfl rfl rfl rfl ?_
    refine to_gf rfl rfl rfl rfl ?_
    refine to_gf rfl rfl rfl rfl ?_
    refine to_gf rfl rfl rfl rfl ?_
    refine to_gf rfl rfl rfl rfl ?_
    refine to_gf rfl rfl rfl rfl ?_
    refine to_pkT rfl rfl rfl ?_
    refine to_nil ?_
    refine tn_code ?_
    refine t_ifT rfl ?_
    refine t_seq ?_
    refine t_reg ?_
    refine to_as rfl rfl ?_
    refine to_as rfl rfl ?_
    refine to_nil ?_
    refine tn_code ?_
    refine t_ret2 rfl rfl (res_tmp rfl) (res_tmp rfl) (fun w' s => ?_)
    simp_all [payRest]
  · try simp only [decide_eq_true_eq, decide_eq_false_iff_not, Bool.not_eq_true', Bool.not_eq_false', Int.not_lt, Int.not_le, ne_eq, Decidable.not_not] at h1
    try have h1b := inB_iff.1 h1
    have hb := h1
    have hbb := isBk_b hb
    refine to_gt rfl rfl ?_
    first | refine to_lda rfl rfl rfl ?_ | refine to_ldea rfl (by assumption) rfl rfl ?_
    refine to_gt rfl rfl ?_
    refine to_mv rfl rfl ?_
    refine to_gt rfl rfl ?_
    refine to_call0 rfl rfl (fun w s => pay_isTruth b a c _ _ _ w (rdw s) (rdw s) (by omega)) rfl ?_
    refine to_gt rfl rfl ?_
    refine to_not rfl rfl ?_
    refine to_pkF rfl rfl rfl ?_
    refine to_mv rfl rfl ?_
    refine to_gs rfl rfl rfl (fun h2 => ?_) (fun h2 => ?_)
    · try simp only [decide_eq_true_eq, decide_eq_false_iff_not, Bool.not_eq_true', Bool.not_eq_false', Int.not_lt, Int.not_le, ne_eq, Decidable.not_not] at h2
      try have h2b := inB_iff.1 h2
      refine to_gf rfl rfl rfl rfl ?_
      refine to_gf rfl rfl rfl rfl ?_
      refine to_gf rfl rfl rfl rfl ?_
      refine to_gf rfl rfl rfl rfl ?_
      refine to_gf rfl rfl rfl rfl ?_
      refine to_gf rfl rfl rfl rfl ?_
      refine to_pkT rfl rfl rfl ?_
      refine to_nil ?_
      refine tn_code ?_
      refine t_ifT rfl ?_
      refine t_seq ?_
      refine t_reg ?_
      refine to_as rfl rfl ?_
      refine to_as rfl rfl ?_
      refine to_nil ?_
      refine tn_code ?_
      refine t_ret2 rfl rfl (res_tmp rfl) (res_tmp rfl) (fun w' s => ?_)
      simp_all [payRest]
    · try simp only [decide_eq_true_eq, decide_eq_false_iff_not, Bool.not_eq_true', Bool.not_eq_false', Int.not_lt, Int.not_le, ne_eq, Decidable.not_not] at h2
      try have h2b := inB_iff.1 h2
      have htr := h2
      refine to_gt rfl rfl ?_
      refine to_mv rfl rfl ?_
      refine to_gt rfl rfl ?_
      first | refine to_fa rfl rfl rfl (by simp only [Nat.reduceAdd]; rfl) rfl ?_ | refine to_fae rfl rfl rfl (by simp only [Nat.reduceAdd]; rfl) rfl ?_
      refine to_gt rfl rfl ?_
      first | refine to_lds rfl rfl rfl ?_ | refine to_ldes rfl (by assumption) rfl rfl ?_
      refine to_gt rfl rfl ?_
      refine to_sub rfl rfl (by omega) rfl ?_
      refine to_gt rfl rfl ?_
      refine to_call0 rfl rfl (fun w s => pay_in _ _ _ w) rfl ?_
      refine to_gt rfl rfl ?_
      refine to_not rfl rfl ?_
      refine to_pkF rfl rfl rfl ?_
      refine to_nil ?_
      refine tn_code ?_
      refine t_if rfl (fun h3 => ?_) (fun h3 => ?_)
      · try simp only [decide_eq_true_eq, decide_eq_false_iff_not, Bool.not_eq_true', Bool.not_eq_false', Int.not_lt, Int.not_le, ne_eq, Decidable.not_not] at h3
        try have h3b := inB_iff.1 h3
        refine t_seq ?_
        refine t_reg ?_
        refine to_as rfl rfl ?_
        refine to_as rfl rfl ?_
        refine to_nil ?_
        refine tn_code ?_
        refine t_ret2 rfl rfl (res_tmp rfl) (res_tmp rfl) (fun w' s => ?_)
        simp_all [payRest]
      · try simp only [decide_eq_true_eq, decide_eq_false_iff_not, Bool.not_eq_true', Bool.not_eq_false', Int.not_lt, Int.not_le, ne_eq, Decidable.not_not] at h3
        try have h3b := inB_iff.1 h3
        have hhb := h3
        refine t_skip ?_
        refine tn_code ?_
        refine t_seq ?_
        refine t_reg ?_
        first | refine to_lda rfl rfl rfl ?_ | refine to_ldea rfl (by assumption) rfl rfl ?_
        refine to_mv rfl rfl ?_
        refine to_bs rfl rfl ?_
        refine to_callR rfl rfl (fun w s => ac_pays b a c t ta tc w (rdw s) (rdw s) hb htr) rfl (fun v31 lo31 w31 hlo31 hR31 => ?_)
        obtain ⟨pa31, pc31, pr31, rfl, hro31, hmb31⟩ := hR31
        refine to_mv rfl rfl ?_
        refine to_ex rfl rfl rfl ?_
        refine to_ex rfl rfl rfl ?_
        refine to_as rfl rfl ?_
        refine to_as rfl rfl ?_
        refine to_nil ?_
        refine tn_code ?_
        refine t_seq ?_
        refine t_reg ?_
        refine to_mv rfl rfl ?_
        refine to_mv rfl rfl ?_
        refine to_lku rfl rfl rfl ?_
        refine to_as rfl rfl ?_
        refine to_as rfl rfl ?_
        refine to_nil ?_
        refine tn_code ?_
        refine t_ret2 rfl rfl (res_tmp rfl) (res_tmp rfl) (fun w' s => ?_)
        simp_all [payRest]

end Go.Proofs


namespace Go.Proofs
open Go Go.Sx Go.RowKit

/-- What keeps the steps of a range from overflowing. -/
def isBkd (b : Bk) : Prop := b.lines.length ≤ 1000 ∧ ∀ l ∈ b.lines, -1000 ≤ l.lo ∧ l.lo ≤ 1000 ∧ -1000 ≤ l.hi ∧ l.hi ≤ 1000
theorem isBkd_of {b : Bk} (h : isBk b = true) : isBkd b := by
  have h1 := isBk_b h
  refine ⟨by omega, fun l hl => ?_⟩
  have := isLin_b (isBk_l h hl)
  omega

set_option maxRecDepth 20000 in
theorem tru_from (b : Bk) (a : Option Addr) (c bb b2 b3 B y : Nat) (I : List (List Int) → World → Prop) (F : World → Prop) (hIc : ∀ L, Cong B (I L)) (hFc : CongS F) (hIb : ∀ L, RbP (I L) 0 B bb (bkC b a c)) (hIr : ∀ L, RoP (I L) 0 B a b.lines.length c 10 (b.lines.map linC)) (hbk : isBkd b) (hY : ∀ t C w ta tc, t.length = b.lines.length → I (t :: C) w → B ≤ w.heap.size → Ro w B w.heap.size ta t.length tc 1 (ints t) → YC Tryz.prog y #[acV b a c t ta tc] w (ItPost B (I C) F w)) : ∀ (rem : Nat) (pre : List Int) (pa : Option Addr) (pc : Nat) (C : List (List Int)) (w : World), pre.length + rem = b.lines.length → I (extL (b.lines.drop pre.length) pre ++ C) w → B ≤ w.heap.size → Ro w B w.heap.size pa pre.length pc 1 (ints pre) → Rb w B w.heap.size b2 [.func (.yield y) #[] #[]] → Rb w B w.heap.size b3 [.func (.func 108) #[] #[(.pointer (some ⟨bb, 0, none⟩)), (.pointer (some ⟨b2, 0, none⟩)), (.pointer (some ⟨b3, 0, none⟩))]] → Calls Tryz.prog 108 #[.slice pa pre.length pc, (.pointer (some ⟨bb, 0, none⟩)), (.pointer (some ⟨b2, 0, none⟩)), (.pointer (some ⟨b3, 0, none⟩))] w (ItPost B (I C) F w) := by
  intro rem
  induction rem using Nat.strongRecOn with
  | _ rem ih =>
  intro pre pa pc C w hlen hI0 hB hpre hb2 hb3
  refine calls_TG (av := [_, _, _, _]) Tryz.func108 rfl rfl rfl (St.startB hB hI0) ?_
  refine t_seq ?_
  refine t_reg ?_
  refine to_as rfl rfl ?_
  refine to_nil ?_
  refine tn_code ?_
  refine t_seq ?_
  refine t_seq ?_
  refine t_reg ?_
  refine to_mv rfl rfl ?_
  refine to_lenS rfl rfl ?_
  first | refine to_fa rfl rfl rfl (by simp only [Nat.reduceAdd]; rfl) rfl ?_ | refine to_fae rfl rfl rfl (by simp only [Nat.reduceAdd]; rfl) rfl ?_
  first | refine to_lds rfl rfl rfl ?_ | refine to_ldes rfl (by assumption) rfl rfl ?_
  refine to_lenS rfl rfl ?_
  refine to_eql rfl rfl rfl ?_
  refine to_nil ?_
  refine tn_code ?_
  refine t_if rfl (fun h1 => ?_) (fun h1 => ?_)
  · try simp only [decide_eq_true_eq, decide_eq_false_iff_not, Bool.not_eq_true', Bool.not_eq_false', Int.not_lt, Int.not_le, ne_eq, Decidable.not_not] at h1
    try have h1b := inB_iff.1 h1
    have hn2 : pre.length = b.lines.length := by omega
    refine t_seq ?_
    refine t_reg ?_
    first | refine to_lds rfl rfl rfl ?_ | refine to_ldes rfl (by assumption) rfl rfl ?_
    first | refine to_lda rfl rfl rfl ?_ | refine to_ldea rfl (by assumption) rfl rfl ?_
    refine to_mv rfl rfl ?_
    refine to_bs rfl rfl ?_
    refine to_callY rfl rfl rfl (p1 := I C) (q := F) (fun w2 s => hY pre C w2 pa pc hn2 (by have := s.regp (hIc _); rwa [extL_nil (by omega)] at this) (Nat.le_trans hB s.ge) (ro_snapB s)) rfl ?_ (fun wF hF hK => ?_)
    · skip
      refine to_as rfl rfl ?_
      refine to_nil ?_
      refine tn_code ?_
      refine t_ret1G rfl rfl (res_tmp rfl) (fun w' s => ?_)
      first | exact itp true s (hIc _) rfl | exact itpF s hF hK hFc | exact itp true s (hIc _) (congrArg I (by rw [hiN]; exact remX_done))
    · skip
      refine to_as rfl rfl ?_
      refine to_nil ?_
      refine tn_code ?_
      refine t_ret1G rfl rfl (res_tmp rfl) (fun w' s => ?_)
      first | exact itp true s (hIc _) rfl | exact itpF s hF hK hFc | exact itp true s (hIc _) (congrArg I (by rw [hiN]; exact remX_done))
  · try simp only [decide_eq_true_eq, decide_eq_false_iff_not, Bool.not_eq_true', Bool.not_eq_false', Int.not_lt, Int.not_le, ne_eq, Decidable.not_not] at h1
    try have h1b := inB_iff.1 h1
    obtain ⟨l, hl⟩ := some_get (xs := b.lines) (k := pre.length) (by omega)
    have hx := map_get (f := linC) hl
    have hlb := hbk.2 l (List.mem_of_getElem? hl)
    have hlb1 := hbk.1
    have hple := hpre.le
    refine t_skip ?_
    refine tn_code ?_
    refine t_seq ?_
    refine t_reg ?_
    first | refine to_fa rfl rfl rfl (by simp only [Nat.reduceAdd]; rfl) rfl ?_ | refine to_fae rfl rfl rfl (by simp only [Nat.reduceAdd]; rfl) rfl ?_
    first | refine to_lds rfl rfl rfl ?_ | refine to_ldes rfl (by assumption) rfl rfl ?_
    refine to_mv rfl rfl ?_
    refine to_lenS rfl rfl ?_
    first | refine to_ix rfl rfl rfl (by first | omega | decide) (by first | omega | decide) rfl ?_ | refine to_ixi rfl rfl rfl (by omega) (by omega) (by omega) rfl ?_
    first | refine to_fa rfl rfl rfl (by simp only [Nat.reduceAdd]; rfl) rfl ?_ | refine to_fae rfl rfl rfl (by simp only [Nat.reduceAdd]; rfl) rfl ?_
    first | refine to_lda rfl rfl rfl ?_ | refine to_ldea rfl (by assumption) rfl rfl ?_
    refine to_alloc rfl (fun b6 => ?_)
    first | refine to_st rfl rfl rfl rfl ?_ | refine to_ste rfl rfl (by assumption) rfl rfl ?_
    refine to_nil ?_
    refine tn_code ?_
    refine t_seq ?_
    refine t_seq ?_
    refine t_reg ?_
    first | refine to_fa rfl rfl rfl (by simp only [Nat.reduceAdd]; rfl) rfl ?_ | refine to_fae rfl rfl rfl (by simp only [Nat.reduceAdd]; rfl) rfl ?_
    first | refine to_lds rfl rfl rfl ?_ | refine to_ldes rfl (by assumption) rfl rfl ?_
    refine to_as rfl rfl ?_
    refine to_nil ?_
    refine tn_code ?_
    refine t_blk ?_
    refine t_loop2 (ι := Nat) (fun i => i ≤ (l.hi - l.lo + 1).toNat) (fun i => [(0, .slice pa pre.length pc), (1, (.pointer (some ⟨bb, 0, none⟩))), (2, (.pointer (some ⟨b2, 0, none⟩))), (3, (.pointer (some ⟨b3, 0, none⟩))), (6, (.pointer (some ⟨b6, 0, none⟩))), (7, .int .i64 (l.lo + (i : Int)))]) (fun i => [.own b6 (isC [.int .i64 l.lo, .int .i64 l.hi] 44), .reg 0 B (I (remX (b.lines.drop (pre.length + 1)) pre (l.lo + (i : Int)) ((l.hi - l.lo + 1).toNat - i) C)), .snap B w.heap.size w]) (fun i => (l.hi - l.lo + 1).toNat - i) (0) [.own b6 (isC [.int .i64 l.lo, .int .i64 l.hi] 44), .reg 0 B (I (extL (b.lines.drop pre.length) pre ++ C)), .snap B w.heap.size w] (by rw [extL_cons hl]; simp) (Nat.zero_le _) (⟨rfl, rfl, rfl, rfl, rfl, congrArg (fun z => some (Value.int .i64 z)) (Int.add_zero l.lo).symm, trivial⟩) ?_
    rintro i hk
    show T _ _ _ ⟨_, [(0, .slice pa pre.length pc), (1, (.pointer (some ⟨bb, 0, none⟩))), (2, (.pointer (some ⟨b2, 0, none⟩))), (3, (.pointer (some ⟨b3, 0, none⟩))), (6, (.pointer (some ⟨b6, 0, none⟩))), (7, .int .i64 (l.lo + (i : Int)))], _⟩ [.own b6 (isC [.int .i64 l.lo, .int .i64 l.hi] 44), .reg 0 B (I (remX (b.lines.drop (pre.length + 1)) pre (l.lo + (i : Int)) ((l.hi - l.lo + 1).toNat - i) C)), .snap B w.heap.size w]
    refine t_seq ?_
    refine t_seq ?_
    refine t_reg ?_
    refine to_mv rfl rfl ?_
    first | refine to_fa rfl rfl rfl (by simp only [Nat.reduceAdd]; rfl) rfl ?_ | refine to_fae rfl rfl rfl (by simp only [Nat.reduceAdd]; rfl) rfl ?_
    first | refine to_lds rfl rfl rfl ?_ | refine to_ldes rfl (by assumption) rfl rfl ?_
    refine to_leq rfl rfl rfl ?_
    refine to_nil ?_
    refine tn_code ?_
    refine t_if rfl (fun h2 => ?_) (fun h2 => ?_)
    · try simp only [decide_eq_true_eq, decide_eq_false_iff_not, Bool.not_eq_true', Bool.not_eq_false', Int.not_lt, Int.not_le, ne_eq, Decidable.not_not] at h2
      try have h2b := inB_iff.1 h2
      have hiN : i < (l.hi - l.lo + 1).toNat := by omega
      refine t_skip ?_
      refine tn_code ?_
      refine t_seq ?_
      refine t_blk ?_
      refine t_seq ?_
      refine t_regM [8, 9, 10] [.snap B w.heap.size w] rfl (by kernel_rfl) (by kernel_rfl) ?_
      refine tm_q ?e1 rfl ?q1 ?r1
      case q1 =>
        first | refine to_lds rfl rfl rfl ?_ | refine to_ldes rfl (by assumption) rfl rfl ?_
        exact tmq_end
      refine tm_q ?e2 rfl ?q2 ?r2
      case q2 =>
        refine to_mv rfl rfl ?_
        exact tmq_end
      refine tm_q ?e3 rfl ?q3 ?r3
      case q3 =>
        refine to_mv rfl rfl ?_
        exact tmq_end
      refine tm_q ?e4 rfl ?q4 ?r4
      case q4 =>
        refine to_lenS rfl rfl ?_
        exact tmq_end
      refine tm_q ?e5 rfl ?q5 ?r5
      case q5 =>
        refine to_mv rfl rfl ?_
        exact tmq_end
      refine tm_q ?e6 rfl ?q6 ?r6
      case q6 =>
        refine to_lenS rfl rfl ?_
        exact tmq_end
      refine tm_q ?e7 rfl ?q7 ?r7
      case q7 =>
        refine to_slM rfl rfl rfl (by omega) (by omega) rfl ?_
        exact tmq_end
      refine tm_q ?e8 rfl ?q8 ?r8
      case q8 =>
        refine to_mv rfl rfl ?_
        exact tmq_end
      refine tm_s rfl ?_ (fun _ h => by cases h) rfl
      refine to_bsl rfl rfl rfl rfl (fun a42 => ?_)
      refine tm_se rfl ?_
      refine tm_s rfl ?_ (fun _ h => by cases h) rfl
      refine to_appF rfl rfl rfl rfl (by decide) (by decide) (by omega) (by decide) rfl (fun a43 c43 => ?_)
      refine tm_se rfl ?_
      refine tm_s rfl ?_ (fun _ h => by cases h) rfl
      refine to_callI rfl rfl (p1 := I (remX (b.lines.drop (pre.length + 1)) pre (l.lo + (i + 1 : Nat)) ((l.hi - l.lo + 1).toNat - (i + 1)) C)) (q := F) (fun w2 s => ?_) rfl ?_ (fun wF hF hK => ?_)
      · have hI2 := s.regp (hIc _)
        rw [remX_succ hiN] at hI2
        have hr2 := ro_rowB s (a := a43)
        have := ih (rem - 1) (by omega) (pre ++ [l.lo + i]) a43 c43 (remX (b.lines.drop (pre.length + 1)) pre (l.lo + (i + 1 : Nat)) ((l.hi - l.lo + 1).toNat - (i + 1)) C) w2 (by rw [List.length_append, List.length_singleton]; omega) (by rw [List.length_append, List.length_singleton]; exact hI2) (Nat.le_trans hB s.ge) (by rw [List.length_append, List.length_singleton, ints_snoc]; exact hr2) (rb_snap s) (rb_snap s)
        rw [List.length_append, List.length_singleton] at this
        exact this
      · skip
        refine tm_se rfl ?_
        refine tm_q ?e9 rfl ?q9 ?r9
        case q9 =>
          refine to_not rfl rfl ?_
          exact tmq_end
        refine tm_nil ?_
        refine tn_code ?_
        refine t_ifF rfl ?_
        refine t_skip ?_
        refine tn_blk ?_
        refine tn_code ?_
        refine t_reg ?_
        refine to_mv rfl rfl ?_
        refine to_add rfl rfl (by omega) rfl ?_
        refine to_as rfl rfl ?_
        refine to_nil ?_
        exact tn_loop2 (i + 1) [.own b6 (isC [.int .i64 l.lo, .int .i64 l.hi] 44), .reg 0 B (I (remX (b.lines.drop (pre.length + 1)) pre (l.lo + (i + 1 : Nat)) ((l.hi - l.lo + 1).toNat - (i + 1)) C)), .snap B w.heap.size w] (rfl) (by omega) (by omega) (⟨rfl, rfl, rfl, rfl, rfl, congrArg (fun z => some (Value.int .i64 z)) (Int.add_assoc l.lo i 1), trivial⟩)
      · skip
        refine tm_se2 (fun w2 s2 => sub_all hK s2) rfl ?_
        refine tm_q ?e10 rfl ?q10 ?r10
        case q10 =>
          refine to_not rfl rfl ?_
          exact tmq_end
        refine tm_nil ?_
        refine tn_code ?_
        refine t_ifT rfl ?_
        refine t_seq ?_
        refine t_reg ?_
        refine to_as rfl rfl ?_
        refine to_nil ?_
        refine tn_code ?_
        refine t_ret1G rfl rfl (res_tmp rfl) (fun w' s => ?_)
        first | exact itp true s (hIc _) rfl | exact itpF s hF hK hFc | exact itp true s (hIc _) (congrArg I (by rw [hiN]; exact remX_done))
    · try simp only [decide_eq_true_eq, decide_eq_false_iff_not, Bool.not_eq_true', Bool.not_eq_false', Int.not_lt, Int.not_le, ne_eq, Decidable.not_not] at h2
      try have h2b := inB_iff.1 h2
      have hiN : (l.hi - l.lo + 1).toNat - i = 0 := by omega
      refine t_exit ?_
      refine tx_code ?_
      refine tx_inv ?_
      refine tx_blk ?_
      refine tn_code ?_
      refine t_seq ?_
      refine t_reg ?_
      refine to_as rfl rfl ?_
      refine to_nil ?_
      refine tn_code ?_
      refine t_ret1G rfl rfl (res_tmp rfl) (fun w' s => ?_)
      first | exact itp true s (hIc _) rfl | exact itpF s hF hK hFc | exact itp true s (hIc _) (congrArg I (by rw [hiN]; exact remX_done))

end Go.Proofs


namespace Go.Proofs
open Go Go.Sx Go.RowKit

set_option maxRecDepth 20000 in
theorem pay_truths (b : Bk) (a : Option Addr) (c : Nat) (w : World)  : Calls Tryz.prog 92 #[bkV b a c] w (Ret w (fun lo w1 v => ∃ bb, v = .func (.func 107) #[] #[.pointer (some ⟨bb, 0, none⟩)] ∧ Rb w1 lo w1.heap.size bb (bkC b a c))) := by
  refine calls_T (av := [_]) Tryz.func92 rfl rfl rfl ?_
  refine t_seq ?_
  refine t_reg ?_
  refine to_box rfl rfl (fun b1 => ?_)
  refine to_as rfl rfl ?_
  refine to_nil ?_
  refine tn_code ?_
  refine t_seq ?_
  refine t_reg ?_
  refine to_mf rfl rfl rfl ?_
  refine to_as rfl rfl ?_
  refine to_nil ?_
  refine tn_code ?_
  refine t_ret1 rfl rfl (res_tmp rfl) (fun w' s => ?_)
  exact ⟨_, rfl, rb_own0 s⟩

set_option maxRecDepth 20000 in
theorem tru_seq (b : Bk) (a : Option Addr) (c bb y : Nat) (w : World) (I : List (List Int) → World → Prop) (F : World → Prop) (hIc : ∀ L, Cong w.heap.size (I L)) (hFc : CongS F) (hIb : ∀ L, RbP (I L) 0 w.heap.size bb (bkC b a c)) (hIr : ∀ L, RoP (I L) 0 w.heap.size a b.lines.length c 10 (b.lines.map linC)) (hbk : isBkd b) (hY : ∀ t C w' ta tc, t.length = b.lines.length → I (t :: C) w' → w.heap.size ≤ w'.heap.size → Ro w' w.heap.size w'.heap.size ta t.length tc 1 (ints t) → YC Tryz.prog y #[acV b a c t ta tc] w' (ItPost w.heap.size (I C) F w')) (hI0 : I (truL b) w) : Calls Tryz.prog 107 #[.func (.yield y) #[] #[], (.pointer (some ⟨bb, 0, none⟩))] w (fun e w' => e = .returned (.tuple #[]) ∧ Keep w.heap.size w w' ∧ (I [] w' ∨ F w')) := by
  refine calls_TG (av := [_, _]) Tryz.func107 rfl rfl rfl (St.startB (Nat.le_refl _) hI0) ?_
  refine t_seq ?_
  refine t_reg ?_
  refine to_box rfl rfl (fun b2 => ?_)
  refine to_nil ?_
  refine tn_code ?_
  refine t_seq ?_
  refine t_reg ?_
  refine to_alloc rfl (fun b3 => ?_)
  refine to_nil ?_
  refine tn_code ?_
  refine t_seq ?_
  refine t_reg ?_
  refine to_mf rfl rfl rfl ?_
  first | refine to_st rfl rfl rfl rfl ?_ | refine to_ste rfl rfl (by assumption) rfl rfl ?_
  refine to_nil ?_
  refine tn_code ?_
  refine t_reg ?_
  first | refine to_lds rfl rfl rfl ?_ | refine to_ldes rfl (by assumption) rfl rfl ?_
  refine to_callI rfl rfl (p1 := I []) (q := F) (fun w2 s => tru_from b a c bb b2 b3 w.heap.size y I F hIc hFc hIb hIr hbk hY b.lines.length [] none 0 [] w2 (by simp) (by have := s.regp (hIc _); simpa [truL] using this) s.ge (Ro.nil _ _ _ _) (rb_ownB s) (rb_ownB s)) rfl ?_ (fun wF hF hK => ?_)
  · skip
    refine to_nil ?_
    first | exact t_end0G rfl rfl (fun w' s => ⟨rfl, keep_of s, .inl (s.regp (hIc _))⟩) | exact t_end0G rfl rfl (fun w' s => ⟨rfl, keep_all s hK, .inr (q_all s hF hFc)⟩)
  · skip
    refine to_nil ?_
    first | exact t_end0G rfl rfl (fun w' s => ⟨rfl, keep_of s, .inl (s.regp (hIc _))⟩) | exact t_end0G rfl rfl (fun w' s => ⟨rfl, keep_all s hK, .inr (q_all s hF hFc)⟩)

end Go.Proofs


namespace Go.Proofs
open Go Go.Sx Go.RowKit

set_option maxRecDepth 20000 in
theorem pay_ends (b : Bk) (a : Option Addr) (c : Nat) (ofq : Nat) (ofc : List Value) (isq : Nat) (isc : List Value) (ofF : List Int → Int) (isF : List Int → Bool) (w : World) (hr : Ro w 0 w.heap.size a b.lines.length c 10 (b.lines.map linC)) (hbk : isBkd b) [hfo : FnOk Tryz.prog ofq] [hfi : FnOk Tryz.prog isq] (hOf : ∀ w', BelowH w w' → ∀ t ta tc, t ∈ truL b → Ro w' 0 w'.heap.size ta t.length tc 1 (ints t) → Ro w' 0 w'.heap.size a b.lines.length c 10 (b.lines.map linC) → Calls Tryz.prog ofq ([] ++ ([acV b a c t ta tc] ++ ofc)).toArray w' (RetV w' (.int .i64 (ofF t)))) (hIs : ∀ w', BelowH w w' → ∀ t ta tc, t ∈ truL b → Ro w' 0 w'.heap.size ta t.length tc 1 (ints t) → Ro w' 0 w'.heap.size a b.lines.length c 10 (b.lines.map linC) → Calls Tryz.prog isq ([] ++ ([acV b a c t ta tc] ++ isc)).toArray w' (RetV w' (.bool (isF t)))) : Calls Tryz.prog 61 #[bkV b a c, .func (.func ofq) ([] : List Value).toArray ofc.toArray, .func (.func isq) ([] : List Value).toArray isc.toArray] w (RetV w (.tuple #[spanV (endsV (spF ofF isF (truL b))).1, .int .i64 (endsV (spF ofF isF (truL b))).2])) := by
  refine calls_TM0 (av := [_, _, _]) Tryz.func61 rfl rfl rfl ?_
  refine t_seq ?_
  refine t_reg ?_
  refine to_box rfl rfl (fun b3 => ?_)
  refine to_box rfl rfl (fun b4 => ?_)
  refine to_box rfl rfl (fun b5 => ?_)
  refine to_alloc rfl (fun b6 => ?_)
  refine to_as rfl rfl ?_
  refine to_nil ?_
  refine tn_code ?_
  refine t_seq ?_
  refine t_reg ?_
  refine to_alloc rfl (fun b8 => ?_)
  refine to_nil ?_
  refine tn_code ?_
  refine t_seq ?_
  refine t_reg ?_
  refine to_alloc rfl (fun b9 => ?_)
  first | refine to_st rfl rfl rfl rfl ?_ | refine to_ste rfl rfl (by assumption) rfl rfl ?_
  refine to_nil ?_
  refine tn_code ?_
  refine t_seq ?_
  refine t_seq ?_
  refine t_reg ?_
  first | refine to_lda rfl rfl rfl ?_ | refine to_ldea rfl (by assumption) rfl rfl ?_
  refine to_callR rfl rfl (fun w s => pay_truths b a c w) rfl (fun v13 lo13 w13 hlo13 hR13 => ?_)
  obtain ⟨bb13, rfl, hrb13⟩ := hR13
  refine to_nil ?_
  refine tn_code ?_
  refine t_blk ?_
  refine t_fact (p := truL b <:+ truL b) List.suffix_rfl ?_
  have hst0 : stE ofF isF b (truL b) = none := by simp [stE, pfx_all, spF]
  refine t_rf rfl rfl (fun L => [.reg 0 0 (fun _ => L <:+ truL b), .own b8 (isC (spanC ((stE ofF isF b L).getD (0, 0))) 44), .own b9 (isC [.bool (stE ofF isF b L).isSome] 4), .own b3 (isC (bkC b a c) 24), .own b4 (isC [.func (.func ofq) ([] : List Value).toArray ofc.toArray] 90), .own b5 (isC [.func (.func isq) ([] : List Value).toArray isc.toArray] 91), .own b6 (isC [.int .i64 0, .int .i64 0] 44), .snap lo13 w13.heap.size w13, .snap 0 w.heap.size w]) (truL b) .skip (H0 := [.reg 0 0 (fun _ => (truL b) <:+ truL b), .own b8 (isC ([.int .i64 0, .int .i64 0]) 44), .own b9 (isC [.bool false] 4), .own b3 (isC (bkC b a c) 24), .own b4 (isC [.func (.func ofq) ([] : List Value).toArray ofc.toArray] 90), .own b5 (isC [.func (.func isq) ([] : List Value).toArray isc.toArray] 91), .own b6 (isC [.int .i64 0, .int .i64 0] 44), .snap lo13 w13.heap.size w13, .snap 0 w.heap.size w]) (by rw [hst0]; rfl) (fun _ _ _ _ _ => False) ?_ ?_ ?_
  · intro K l D w₂ hK s₂
    refine tru_seq b a c bb13 l w₂ (fun L => StB w₂.heap.size (.own l (isLp K .ready none) :: .own D isDf :: [.reg 0 0 (fun _ => L <:+ truL b), .own b8 (isC (spanC ((stE ofF isF b L).getD (0, 0))) 44), .own b9 (isC [.bool (stE ofF isF b L).isSome] 4), .own b3 (isC (bkC b a c) 24), .own b4 (isC [.func (.func ofq) ([] : List Value).toArray ofc.toArray] 90), .own b5 (isC [.func (.func isq) ([] : List Value).toArray isc.toArray] 91), .own b6 (isC [.int .i64 0, .int .i64 0] 44), .snap lo13 w13.heap.size w13, .snap 0 w.heap.size w])) (fun _ => False) (fun L => stB_cong) (fun _ _ h _ _ => h.elim) (fun L => ⟨fun w' h => stb_rb h⟩) (fun L => ⟨fun w' h => stb_ro h⟩) hbk ?_ s₂.stB
    intro t C wr ta tc htl hI hB hro
    have hfact : t :: C <:+ truL b := stb_fact hI (by simp)
    have htm := sfx_mem hfact
    refine yc_round hK hI hB rfl ?_
    refine t_reg ?_
    refine to_alloc rfl (fun b10 => ?_)
    first | refine to_st rfl rfl rfl rfl ?_ | refine to_ste rfl rfl (by assumption) rfl rfl ?_
    refine to_nil ?_
    refine t_begin ?_
    refine t_blk ?_
    refine t_seq ?_
    refine t_seq ?_
    refine t_reg ?_
    first | refine to_lds rfl rfl rfl ?_ | refine to_ldes rfl (by assumption) rfl rfl ?_
    first | refine to_lda rfl rfl rfl ?_ | refine to_ldea rfl (by assumption) rfl rfl ?_
    refine to_call0 rfl rfl (fun w s => hIs w (belowH_of s) t ta tc htm (rdw s) (rdw s)) rfl ?_
    refine to_not rfl rfl ?_
    refine to_nil ?_
    refine tn_code ?_
    refine t_if rfl (fun h1 => ?_) (fun h1 => ?_)
    · try simp only [decide_eq_true_eq, decide_eq_false_iff_not, Bool.not_eq_true', Bool.not_eq_false', Int.not_lt, Int.not_le, ne_eq, Decidable.not_not] at h1
      try have h1b := inB_iff.1 h1
      have hst := stE_no (of := ofF) hfact h1
      refine t_exit ?_
      refine tx_code ?_
      refine tx_blk ?_
      refine tx_fact (p := C <:+ truL b) (sfx_tail hfact) ?_
      exact t_rend2 (.own D isDf :: [.reg 0 0 (fun _ => C <:+ truL b), .own b8 (isC (spanC ((stE ofF isF b (t :: C)).getD (0, 0))) 44), .own b9 (isC [.bool (stE ofF isF b (t :: C)).isSome] 4), .own b3 (isC (bkC b a c) 24), .own b4 (isC [.func (.func ofq) ([] : List Value).toArray ofc.toArray] 90), .own b5 (isC [.func (.func isq) ([] : List Value).toArray isc.toArray] 91), .own b6 (isC [.int .i64 0, .int .i64 0] 44), .snap lo13 w13.heap.size w13, .snap 0 w.heap.size w]) (by rw [hst]; try rfl) (hi_of_rng (H := .own D isDf :: [.reg 0 0 (fun _ => (truL b) <:+ truL b), .own b8 (isC (spanC ((stE ofF isF b (truL b)).getD (0, 0))) 44), .own b9 (isC [.bool (stE ofF isF b (truL b)).isSome] 4), .own b3 (isC (bkC b a c) 24), .own b4 (isC [.func (.func ofq) ([] : List Value).toArray ofc.toArray] 90), .own b5 (isC [.func (.func isq) ([] : List Value).toArray isc.toArray] 91), .own b6 (isC [.int .i64 0, .int .i64 0] 44), .snap lo13 w13.heap.size w13, .snap 0 w.heap.size w]) rfl (fun s hs => s₂.le s (List.mem_cons_of_mem _ hs))) (s₂.le (.own l (isLp K .ready none)) (List.mem_cons_self ..))
    · try simp only [decide_eq_true_eq, decide_eq_false_iff_not, Bool.not_eq_true', Bool.not_eq_false', Int.not_lt, Int.not_le, ne_eq, Decidable.not_not] at h1
      try have h1b := inB_iff.1 h1
      have his := h1
      refine t_skip ?_
      refine tn_code ?_
      refine t_seq ?_
      refine t_reg ?_
      first | refine to_lds rfl rfl rfl ?_ | refine to_ldes rfl (by assumption) rfl rfl ?_
      first | refine to_lda rfl rfl rfl ?_ | refine to_ldea rfl (by assumption) rfl rfl ?_
      refine to_call0 rfl rfl (fun w s => hOf w (belowH_of s) t ta tc htm (rdw s) (rdw s)) rfl ?_
      refine to_as rfl rfl ?_
      refine to_nil ?_
      refine tn_code ?_
      refine t_seq ?_
      refine t_seq ?_
      refine t_reg ?_
      first | refine to_lds rfl rfl rfl ?_ | refine to_ldes rfl (by assumption) rfl rfl ?_
      refine to_not rfl rfl ?_
      refine to_nil ?_
      refine tn_code ?_
      refine t_if rfl (fun h2 => ?_) (fun h2 => ?_)
      · try simp only [decide_eq_true_eq, decide_eq_false_iff_not, Bool.not_eq_true', Bool.not_eq_false', Int.not_lt, Int.not_le, ne_eq, Decidable.not_not] at h2
        try have h2b := inB_iff.1 h2
        have hst := stE_new hfact his h2
        refine t_reg ?_
        refine to_mv rfl rfl ?_
        refine to_mv rfl rfl ?_
        refine to_bs rfl rfl ?_
        first | refine to_st rfl rfl rfl rfl ?_ | refine to_ste rfl rfl (by assumption) rfl rfl ?_
        refine to_nil ?_
        refine tn_code ?_
        refine t_reg ?_
        first | refine to_fa rfl rfl rfl (by simp only [Nat.reduceAdd]; rfl) rfl ?_ | refine to_fae rfl rfl rfl (by simp only [Nat.reduceAdd]; rfl) rfl ?_
        first | refine to_lds rfl rfl rfl ?_ | refine to_ldes rfl (by assumption) rfl rfl ?_
        refine to_mv rfl rfl ?_
        refine to_min rfl rfl rfl ?_
        first | refine to_fa rfl rfl rfl (by simp only [Nat.reduceAdd]; rfl) rfl ?_ | refine to_fae rfl rfl rfl (by simp only [Nat.reduceAdd]; rfl) rfl ?_
        first | refine to_lds rfl rfl rfl ?_ | refine to_ldes rfl (by assumption) rfl rfl ?_
        refine to_mv rfl rfl ?_
        refine to_max rfl rfl rfl ?_
        refine to_bs rfl rfl ?_
        first | refine to_st rfl rfl rfl rfl ?_ | refine to_ste rfl rfl (by assumption) rfl rfl ?_
        first | refine to_st rfl rfl rfl rfl ?_ | refine to_ste rfl rfl (by assumption) rfl rfl ?_
        refine to_nil ?_
        refine tn_blk ?_
        refine tx_fact (p := C <:+ truL b) (sfx_tail hfact) ?_
        exact t_rend2 (.own D isDf :: [.reg 0 0 (fun _ => C <:+ truL b), .own b8 (isC ([.int .i64 (min (ofF t) (ofF t)), .int .i64 (max (ofF t) (ofF t))]) 44), .own b9 (isC [.bool true] 4), .own b3 (isC (bkC b a c) 24), .own b4 (isC [.func (.func ofq) ([] : List Value).toArray ofc.toArray] 90), .own b5 (isC [.func (.func isq) ([] : List Value).toArray isc.toArray] 91), .own b6 (isC [.int .i64 0, .int .i64 0] 44), .snap lo13 w13.heap.size w13, .snap 0 w.heap.size w]) (by rw [hst]; try rfl) (hi_of_rng (H := .own D isDf :: [.reg 0 0 (fun _ => (truL b) <:+ truL b), .own b8 (isC (spanC ((stE ofF isF b (truL b)).getD (0, 0))) 44), .own b9 (isC [.bool (stE ofF isF b (truL b)).isSome] 4), .own b3 (isC (bkC b a c) 24), .own b4 (isC [.func (.func ofq) ([] : List Value).toArray ofc.toArray] 90), .own b5 (isC [.func (.func isq) ([] : List Value).toArray isc.toArray] 91), .own b6 (isC [.int .i64 0, .int .i64 0] 44), .snap lo13 w13.heap.size w13, .snap 0 w.heap.size w]) rfl (fun s hs => s₂.le s (List.mem_cons_of_mem _ hs))) (s₂.le (.own l (isLp K .ready none)) (List.mem_cons_self ..))
      · try simp only [decide_eq_true_eq, decide_eq_false_iff_not, Bool.not_eq_true', Bool.not_eq_false', Int.not_lt, Int.not_le, ne_eq, Decidable.not_not] at h2
        try have h2b := inB_iff.1 h2
        have hst := stE_old hfact his h2
        refine t_skip ?_
        refine tn_code ?_
        refine t_reg ?_
        first | refine to_fa rfl rfl rfl (by simp only [Nat.reduceAdd]; rfl) rfl ?_ | refine to_fae rfl rfl rfl (by simp only [Nat.reduceAdd]; rfl) rfl ?_
        first | refine to_lds rfl rfl rfl ?_ | refine to_ldes rfl (by assumption) rfl rfl ?_
        refine to_mv rfl rfl ?_
        refine to_min rfl rfl rfl ?_
        first | refine to_fa rfl rfl rfl (by simp only [Nat.reduceAdd]; rfl) rfl ?_ | refine to_fae rfl rfl rfl (by simp only [Nat.reduceAdd]; rfl) rfl ?_
        first | refine to_lds rfl rfl rfl ?_ | refine to_ldes rfl (by assumption) rfl rfl ?_
        refine to_mv rfl rfl ?_
        refine to_max rfl rfl rfl ?_
        refine to_bs rfl rfl ?_
        first | refine to_st rfl rfl rfl rfl ?_ | refine to_ste rfl rfl (by assumption) rfl rfl ?_
        first | refine to_st rfl rfl rfl rfl ?_ | refine to_ste rfl rfl (by assumption) rfl rfl ?_
        refine to_nil ?_
        refine tn_blk ?_
        refine tx_fact (p := C <:+ truL b) (sfx_tail hfact) ?_
        exact t_rend2 (.own D isDf :: [.reg 0 0 (fun _ => C <:+ truL b), .own b8 (isC ([.int .i64 (min ((stE ofF isF b (t :: C)).getD (0, 0)).1 (ofF t)), .int .i64 (max ((stE ofF isF b (t :: C)).getD (0, 0)).2 (ofF t))]) 44), .own b9 (isC [.bool true] 4), .own b3 (isC (bkC b a c) 24), .own b4 (isC [.func (.func ofq) ([] : List Value).toArray ofc.toArray] 90), .own b5 (isC [.func (.func isq) ([] : List Value).toArray isc.toArray] 91), .own b6 (isC [.int .i64 0, .int .i64 0] 44), .snap lo13 w13.heap.size w13, .snap 0 w.heap.size w]) (by rw [hst]; try rfl) (hi_of_rng (H := .own D isDf :: [.reg 0 0 (fun _ => (truL b) <:+ truL b), .own b8 (isC (spanC ((stE ofF isF b (truL b)).getD (0, 0))) 44), .own b9 (isC [.bool (stE ofF isF b (truL b)).isSome] 4), .own b3 (isC (bkC b a c) 24), .own b4 (isC [.func (.func ofq) ([] : List Value).toArray ofc.toArray] 90), .own b5 (isC [.func (.func isq) ([] : List Value).toArray isc.toArray] 91), .own b6 (isC [.int .i64 0, .int .i64 0] 44), .snap lo13 w13.heap.size w13, .snap 0 w.heap.size w]) rfl (fun s hs => s₂.le s (List.mem_cons_of_mem _ hs))) (s₂.le (.own l (isLp K .ready none)) (List.mem_cons_self ..))
  · intro D
    show TX _ _ _ _ (.own D isDf :: [.reg 0 0 (fun _ => [] <:+ truL b), .own b8 (isC (spanC ((stE ofF isF b []).getD (0, 0))) 44), .own b9 (isC [.bool (stE ofF isF b []).isSome] 4), .own b3 (isC (bkC b a c) 24), .own b4 (isC [.func (.func ofq) ([] : List Value).toArray ofc.toArray] 90), .own b5 (isC [.func (.func isq) ([] : List Value).toArray isc.toArray] 91), .own b6 (isC [.int .i64 0, .int .i64 0] 44), .snap lo13 w13.heap.size w13, .snap 0 w.heap.size w])
    refine tn_blk ?_
    refine tn_code ?_
    refine t_seq ?_
    refine t_seq ?_
    refine t_reg ?_
    first | refine to_lds rfl rfl rfl ?_ | refine to_ldes rfl (by assumption) rfl rfl ?_
    refine to_not rfl rfl ?_
    refine to_nil ?_
    refine tn_code ?_
    refine t_if rfl (fun h3 => ?_) (fun h3 => ?_)
    · try simp only [decide_eq_true_eq, decide_eq_false_iff_not, Bool.not_eq_true', Bool.not_eq_false', Int.not_lt, Int.not_le, ne_eq, Decidable.not_not] at h3
      try have h3b := inB_iff.1 h3
      have hq : spF ofF isF (truL b) = none := by
        have h0 := h3
        rw [stE, pfx_nil] at h0
        cases hq : spF ofF isF (truL b) with
        | none => rfl
        | some s => rw [hq] at h0; cases h0
      refine t_seq ?_
      refine t_reg ?_
      refine to_bs rfl rfl ?_
      first | refine to_st rfl rfl rfl rfl ?_ | refine to_ste rfl rfl (by assumption) rfl rfl ?_
      refine to_as rfl rfl ?_
      refine to_nil ?_
      refine tn_code ?_
      refine t_ret2M rfl (res_cellA rfl rfl) (res_tmp rfl) (fun w' s => ?_)
      first | (rw [hq]; rfl) | (rw [stE, pfx_nil, hq]; rfl)
    · try simp only [decide_eq_true_eq, decide_eq_false_iff_not, Bool.not_eq_true', Bool.not_eq_false', Int.not_lt, Int.not_le, ne_eq, Decidable.not_not] at h3
      try have h3b := inB_iff.1 h3
      obtain ⟨sp, hq⟩ : ∃ s, spF ofF isF (truL b) = some s := by
        have h0 := h3
        rw [stE, pfx_nil] at h0
        cases hq : spF ofF isF (truL b) with
        | none => rw [hq] at h0; cases h0
        | some s => exact ⟨s, rfl⟩
      refine t_skip ?_
      refine tn_code ?_
      refine t_seq ?_
      refine t_reg ?_
      first | refine to_lda rfl rfl rfl ?_ | refine to_ldea rfl (by assumption) rfl rfl ?_
      first | refine to_st rfl rfl rfl rfl ?_ | refine to_ste rfl rfl (by assumption) rfl rfl ?_
      refine to_as rfl rfl ?_
      refine to_nil ?_
      refine tn_code ?_
      refine t_ret2M rfl (res_cellA rfl rfl) (res_tmp rfl) (fun w' s => ?_)
      first | (rw [hq]; rfl) | (rw [stE, pfx_nil, hq]; rfl)
  · intro _ _ _ _ _ h; exact h.elim

end Go.Proofs


namespace Go.Proofs
open Go Go.Sx Go.RowKit

set_option maxRecDepth 20000 in
theorem c_always (b : Bk) (a : Option Addr) (c : Nat) (t : List Int) (ta : Option Addr) (tc : Nat) (w : World)  : Calls Tryz.prog 63 #[acV b a c t ta tc] w (RetV w (.bool true)) := by
  refine calls_T0 (av := [_]) Tryz.func63 rfl rfl rfl ?_
  refine t_seq ?_
  refine t_reg ?_
  refine to_box rfl rfl (fun b1 => ?_)
  refine to_as rfl rfl ?_
  refine to_nil ?_
  refine tn_code ?_
  refine t_seq ?_
  refine t_reg ?_
  refine to_as rfl rfl ?_
  refine to_nil ?_
  refine tn_code ?_
  refine t_ret1 rfl rfl (res_tmp rfl) (fun w' s => ?_)
  rfl

set_option maxRecDepth 20000 in
theorem c_Owed1 (b : Bk) (a : Option Addr) (c : Nat) (t : List Int) (ta : Option Addr) (tc : Nat) (bb k : Nat) (w : World) (hr : Ro w 0 w.heap.size a b.lines.length c 10 (b.lines.map linC)) (ht : Ro w 0 w.heap.size ta t.length tc 1 (ints t)) (hb : isBk b = true) (htr : truOk b.lines t = true) (hk : k < b.lines.length) (hbb : Rb w 0 w.heap.size bb [(.int .i64 (k : Int))]) : Calls Tryz.prog 64 #[acV b a c t ta tc, (.pointer (some ⟨bb, 0, none⟩))] w (RetV w (.int .i64 (owesAt b t k))) := by
  have hlen := (truOk_iff.1 htr).1
  obtain ⟨l, hl⟩ := some_get (xs := b.lines) (k := k) hk
  obtain ⟨e, he⟩ := some_get (xs := t) (k := k) (by omega)
  have hin := (truOk_e hb htr hl he).2
  refine calls_T0 (av := [_, _]) Tryz.func64 rfl rfl rfl ?_
  refine t_seq ?_
  refine t_reg ?_
  refine to_box rfl rfl (fun b2 => ?_)
  refine to_as rfl rfl ?_
  refine to_nil ?_
  refine tn_code ?_
  refine t_seq ?_
  refine t_reg ?_
  first | refine to_lda rfl rfl rfl ?_ | refine to_ldea rfl (by assumption) rfl rfl ?_
  first | refine to_lds rfl rfl rfl ?_ | refine to_ldes rfl (by assumption) rfl rfl ?_
  refine to_call0 rfl rfl (fun w s => ac_owed b a c t ta tc k l e w (rdw s) (rdw s) hb hl he hin) rfl ?_
  refine to_as rfl rfl ?_
  refine to_nil ?_
  refine tn_code ?_
  refine t_ret1 rfl rfl (res_tmp rfl) (fun w' s => ?_)
  simp [owesAt, hl, he]

set_option maxRecDepth 20000 in
theorem c_Total1 (b : Bk) (a : Option Addr) (c : Nat) (t : List Int) (ta : Option Addr) (tc : Nat) (bb : Nat) (h : Int) (w : World) (hr : Ro w 0 w.heap.size a b.lines.length c 10 (b.lines.map linC)) (ht : Ro w 0 w.heap.size ta t.length tc 1 (ints t)) (hb : isBk b = true) (htr : truOk b.lines t = true) (hbb : Rb w 0 w.heap.size bb [(.int .i64 h)]) : Calls Tryz.prog 62 #[acV b a c t ta tc, (.pointer (some ⟨bb, 0, none⟩))] w (RetV w (.int .i64 (toL b t h))) := by
  refine calls_T0 (av := [_, _]) Tryz.func62 rfl rfl rfl ?_
  refine t_seq ?_
  refine t_reg ?_
  refine to_box rfl rfl (fun b2 => ?_)
  refine to_as rfl rfl ?_
  refine to_nil ?_
  refine tn_code ?_
  refine t_seq ?_
  refine t_reg ?_
  first | refine to_lda rfl rfl rfl ?_ | refine to_ldea rfl (by assumption) rfl rfl ?_
  first | refine to_lds rfl rfl rfl ?_ | refine to_ldes rfl (by assumption) rfl rfl ?_
  refine to_call0 rfl rfl (fun w s => ac_paid b a c t ta tc h w (rdw s) (rdw s) hb htr) rfl ?_
  refine to_as rfl rfl ?_
  refine to_nil ?_
  refine tn_code ?_
  refine t_ret1 rfl rfl (res_tmp rfl) (fun w' s => ?_)
  rfl

set_option maxRecDepth 20000 in
theorem c_Bounds1 (b : Bk) (a : Option Addr) (c : Nat) (t : List Int) (ta : Option Addr) (tc : Nat) (bb k : Nat) (w : World) (hr : Ro w 0 w.heap.size a b.lines.length c 10 (b.lines.map linC)) (ht : Ro w 0 w.heap.size ta t.length tc 1 (ints t)) (hb : isBk b = true) (htr : truOk b.lines t = true) (hk : k < b.lines.length) (hbb : Rb w 0 w.heap.size bb [(.int .i64 (k : Int))]) : Calls Tryz.prog 80 #[acV b a c t ta tc, (.pointer (some ⟨bb, 0, none⟩))] w (RetV w (.int .i64 ((paysL b t).getD k 0))) := by
  have hlen := (truOk_iff.1 htr).1
  have hpl := paysL_len hlen
  obtain ⟨y, hy⟩ := some_get (xs := paysL b t) (k := k) (by omega)
  have hx := map_get (f := intC) hy
  refine calls_T0 (av := [_, _]) Tryz.func80 rfl rfl rfl ?_
  refine t_seq ?_
  refine t_reg ?_
  refine to_box rfl rfl (fun b2 => ?_)
  refine to_as rfl rfl ?_
  refine to_nil ?_
  refine tn_code ?_
  refine t_seq ?_
  refine t_reg ?_
  first | refine to_lda rfl rfl rfl ?_ | refine to_ldea rfl (by assumption) rfl rfl ?_
  refine to_callR rfl rfl (fun w s => ac_pays b a c t ta tc w (rdw s) (rdw s) hb htr) rfl (fun v8 lo8 w8 hlo8 hR8 => ?_)
  obtain ⟨pa8, pc8, pr8, rfl, hro8, hmb8⟩ := hR8
  refine to_mv rfl rfl ?_
  refine to_ex rfl rfl rfl ?_
  refine to_ex rfl rfl rfl ?_
  refine to_as rfl rfl ?_
  refine to_as rfl rfl ?_
  refine to_nil ?_
  refine tn_code ?_
  refine t_seq ?_
  refine t_reg ?_
  refine to_mv rfl rfl ?_
  first | refine to_lds rfl rfl rfl ?_ | refine to_ldes rfl (by assumption) rfl rfl ?_
  first | refine to_ix rfl rfl rfl (by first | omega | decide) (by first | omega | decide) rfl ?_ | refine to_ixi rfl rfl rfl (by omega) (by omega) (by omega) rfl ?_
  first | refine to_lds rfl rfl rfl ?_ | refine to_ldes rfl (by assumption) rfl rfl ?_
  refine to_as rfl rfl ?_
  refine to_nil ?_
  refine tn_code ?_
  refine t_ret1 rfl rfl (res_tmp rfl) (fun w' s => ?_)
  simp [List.getD, hy]

set_option maxRecDepth 20000 in
theorem c_Errors1 (b : Bk) (a : Option Addr) (c : Nat) (t : List Int) (ta : Option Addr) (tc : Nat) (bb k : Nat) (w : World) (hr : Ro w 0 w.heap.size a b.lines.length c 10 (b.lines.map linC)) (ht : Ro w 0 w.heap.size ta t.length tc 1 (ints t)) (hk : k < t.length) (hbb : Rb w 0 w.heap.size bb [(.int .i64 (k : Int))]) : Calls Tryz.prog 82 #[acV b a c t ta tc, (.pointer (some ⟨bb, 0, none⟩))] w (RetV w (.int .i64 (t.getD k 0))) := by
  obtain ⟨y, hy⟩ := some_get (xs := t) (k := k) hk
  have hx := map_get (f := intC) hy
  refine calls_T0 (av := [_, _]) Tryz.func82 rfl rfl rfl ?_
  refine t_seq ?_
  refine t_reg ?_
  refine to_box rfl rfl (fun b2 => ?_)
  refine to_as rfl rfl ?_
  refine to_nil ?_
  refine tn_code ?_
  refine t_seq ?_
  refine t_reg ?_
  first | refine to_fa rfl rfl rfl (by simp only [Nat.reduceAdd]; rfl) rfl ?_ | refine to_fae rfl rfl rfl (by simp only [Nat.reduceAdd]; rfl) rfl ?_
  first | refine to_lds rfl rfl rfl ?_ | refine to_ldes rfl (by assumption) rfl rfl ?_
  first | refine to_lds rfl rfl rfl ?_ | refine to_ldes rfl (by assumption) rfl rfl ?_
  first | refine to_ix rfl rfl rfl (by first | omega | decide) (by first | omega | decide) rfl ?_ | refine to_ixi rfl rfl rfl (by omega) (by omega) (by omega) rfl ?_
  first | refine to_lds rfl rfl rfl ?_ | refine to_ldes rfl (by assumption) rfl rfl ?_
  refine to_as rfl rfl ?_
  refine to_nil ?_
  refine tn_code ?_
  refine t_ret1 rfl rfl (res_tmp rfl) (fun w' s => ?_)
  simp [List.getD, hy]

set_option maxRecDepth 20000 in
theorem pay_Owed (b : Bk) (a : Option Addr) (c : Nat) (line : Int) (w : World) (hr : Ro w 0 w.heap.size a b.lines.length c 10 (b.lines.map linC)) : Calls Tryz.prog 29 #[bkV b a c, (.int .i64 line)] w (RetV w (.tuple #[spanV (payOwed b line).1, .int .i64 (payOwed b line).2])) := by
  refine calls_T0 (av := [_, _]) Tryz.func29 rfl rfl rfl ?_
  refine t_seq ?_
  refine t_reg ?_
  refine to_box rfl rfl (fun b2 => ?_)
  refine to_box rfl rfl (fun b3 => ?_)
  refine to_alloc rfl (fun b4 => ?_)
  refine to_as rfl rfl ?_
  refine to_nil ?_
  refine tn_code ?_
  refine t_seq ?_
  refine t_seq ?_
  refine t_reg ?_
  first | refine to_lda rfl rfl rfl ?_ | refine to_ldea rfl (by assumption) rfl rfl ?_
  refine to_call0 rfl rfl (fun w s => pay_isBook b a c w (rdw s)) rfl ?_
  refine to_not rfl rfl ?_
  refine to_mv rfl rfl ?_
  refine to_gs rfl rfl rfl (fun h1 => ?_) (fun h1 => ?_)
  · try simp only [decide_eq_true_eq, decide_eq_false_iff_not, Bool.not_eq_true', Bool.not_eq_false', Int.not_lt, Int.not_le, ne_eq, Decidable.not_not] at h1
    try have h1b := inB_iff.1 h1
    refine to_gf rfl rfl rfl rfl ?_
    refine to_gf rfl rfl rfl rfl ?_
    refine to_gf rfl rfl rfl rfl ?_
    refine to_gf rfl rfl rfl rfl ?_
    refine to_gf rfl rfl rfl rfl ?_
    refine to_gf rfl rfl rfl rfl ?_
    refine to_gf rfl rfl rfl rfl ?_
    refine to_pkT rfl rfl rfl ?_
    refine to_nil ?_
    refine tn_code ?_
    refine t_ifT rfl ?_
    refine t_seq ?_
    refine t_reg ?_
    refine to_bs rfl rfl ?_
    first | refine to_st rfl rfl rfl rfl ?_ | refine to_ste rfl rfl (by assumption) rfl rfl ?_
    refine to_as rfl rfl ?_
    refine to_nil ?_
    refine tn_code ?_
    refine t_ret2 rfl rfl (res_cellA rfl rfl) (res_tmp rfl) (fun w' s => ?_)
    simp_all [payOwed]
  · try simp only [decide_eq_true_eq, decide_eq_false_iff_not, Bool.not_eq_true', Bool.not_eq_false', Int.not_lt, Int.not_le, ne_eq, Decidable.not_not] at h1
    try have h1b := inB_iff.1 h1
    have hb := h1
    have hbb := isBk_b hb
    refine to_gt rfl rfl ?_
    first | refine to_lds rfl rfl rfl ?_ | refine to_ldes rfl (by assumption) rfl rfl ?_
    refine to_gt rfl rfl ?_
    first | refine to_fa rfl rfl rfl (by simp only [Nat.reduceAdd]; rfl) rfl ?_ | refine to_fae rfl rfl rfl (by simp only [Nat.reduceAdd]; rfl) rfl ?_
    refine to_gt rfl rfl ?_
    first | refine to_lds rfl rfl rfl ?_ | refine to_ldes rfl (by assumption) rfl rfl ?_
    refine to_gt rfl rfl ?_
    refine to_lenS rfl rfl ?_
    refine to_gt rfl rfl ?_
    refine to_sub rfl rfl (by omega) rfl ?_
    refine to_gt rfl rfl ?_
    refine to_call0 rfl rfl (fun w s => pay_in _ _ _ w) rfl ?_
    refine to_gt rfl rfl ?_
    refine to_not rfl rfl ?_
    refine to_pkF rfl rfl rfl ?_
    refine to_nil ?_
    refine tn_code ?_
    refine t_if rfl (fun h2 => ?_) (fun h2 => ?_)
    · try simp only [decide_eq_true_eq, decide_eq_false_iff_not, Bool.not_eq_true', Bool.not_eq_false', Int.not_lt, Int.not_le, ne_eq, Decidable.not_not] at h2
      try have h2b := inB_iff.1 h2
      refine t_seq ?_
      refine t_reg ?_
      refine to_bs rfl rfl ?_
      first | refine to_st rfl rfl rfl rfl ?_ | refine to_ste rfl rfl (by assumption) rfl rfl ?_
      refine to_as rfl rfl ?_
      refine to_nil ?_
      refine tn_code ?_
      refine t_ret2 rfl rfl (res_cellA rfl rfl) (res_tmp rfl) (fun w' s => ?_)
      simp_all [payOwed]
    · try simp only [decide_eq_true_eq, decide_eq_false_iff_not, Bool.not_eq_true', Bool.not_eq_false', Int.not_lt, Int.not_le, ne_eq, Decidable.not_not] at h2
      try have h2b := inB_iff.1 h2
      have hlb := inB_iff.1 h2
      obtain ⟨k, rfl⟩ := Int.eq_ofNat_of_zero_le hlb.1
      refine t_skip ?_
      refine tn_code ?_
      refine t_seq ?_
      refine t_reg ?_
      first | refine to_lda rfl rfl rfl ?_ | refine to_ldea rfl (by assumption) rfl rfl ?_
      refine to_mf rfl rfl rfl ?_
      refine to_call0 rfl rfl (fun w s => pay_ends b a c 64 [(.pointer (some ⟨b3, 0, none⟩))] 63 [] (fun t => owesAt b t k) (fun _ => true) w (rdw s) (isBkd_of hb) (fun w' hw t ta tc htm hrt hrl => c_Owed1 b a c t ta tc b3 k w' hrl hrt hb (mem_truL.1 htm) (by omega) (rb_up (rbw s) hw)) (fun w' hw t ta tc htm hrt hrl => c_always b a c t ta tc w')) rfl ?_
      refine to_ex rfl rfl rfl ?_
      refine to_ex rfl rfl rfl ?_
      first | refine to_st rfl rfl rfl rfl ?_ | refine to_ste rfl rfl (by assumption) rfl rfl ?_
      refine to_as rfl rfl ?_
      refine to_nil ?_
      refine tn_code ?_
      refine t_ret2 rfl rfl (res_cellA rfl rfl) (res_tmp rfl) (fun w' s => ?_)
      simp_all [payOwed]

set_option maxRecDepth 20000 in
theorem pay_Total (b : Bk) (a : Option Addr) (c : Nat) (h : Int) (w : World) (hr : Ro w 0 w.heap.size a b.lines.length c 10 (b.lines.map linC)) : Calls Tryz.prog 25 #[bkV b a c, (.int .i64 h)] w (RetV w (.tuple #[spanV (payTotal b h).1, .int .i64 (payTotal b h).2])) := by
  refine calls_T0 (av := [_, _]) Tryz.func25 rfl rfl rfl ?_
  refine t_seq ?_
  refine t_reg ?_
  refine to_box rfl rfl (fun b2 => ?_)
  refine to_box rfl rfl (fun b3 => ?_)
  refine to_alloc rfl (fun b4 => ?_)
  refine to_as rfl rfl ?_
  refine to_nil ?_
  refine tn_code ?_
  refine t_seq ?_
  refine t_seq ?_
  refine t_reg ?_
  first | refine to_lda rfl rfl rfl ?_ | refine to_ldea rfl (by assumption) rfl rfl ?_
  refine to_call0 rfl rfl (fun w s => pay_isBook b a c w (rdw s)) rfl ?_
  refine to_not rfl rfl ?_
  refine to_mv rfl rfl ?_
  refine to_gs rfl rfl rfl (fun h1 => ?_) (fun h1 => ?_)
  · try simp only [decide_eq_true_eq, decide_eq_false_iff_not, Bool.not_eq_true', Bool.not_eq_false', Int.not_lt, Int.not_le, ne_eq, Decidable.not_not] at h1
    try have h1b := inB_iff.1 h1
    refine to_gf rfl rfl rfl rfl ?_
    refine to_gf rfl rfl rfl rfl ?_
    refine to_gf rfl rfl rfl rfl ?_
    refine to_gf rfl rfl rfl rfl ?_
    refine to_gf rfl rfl rfl rfl ?_
    refine to_gf rfl rfl rfl rfl ?_
    refine to_pkT rfl rfl rfl ?_
    refine to_nil ?_
    refine tn_code ?_
    refine t_ifT rfl ?_
    refine t_seq ?_
    refine t_reg ?_
    refine to_bs rfl rfl ?_
    first | refine to_st rfl rfl rfl rfl ?_ | refine to_ste rfl rfl (by assumption) rfl rfl ?_
    refine to_as rfl rfl ?_
    refine to_nil ?_
    refine tn_code ?_
    refine t_ret2 rfl rfl (res_cellA rfl rfl) (res_tmp rfl) (fun w' s => ?_)
    simp_all [payTotal]
  · try simp only [decide_eq_true_eq, decide_eq_false_iff_not, Bool.not_eq_true', Bool.not_eq_false', Int.not_lt, Int.not_le, ne_eq, Decidable.not_not] at h1
    try have h1b := inB_iff.1 h1
    have hb := h1
    have hbb := isBk_b hb
    refine to_gt rfl rfl ?_
    first | refine to_lds rfl rfl rfl ?_ | refine to_ldes rfl (by assumption) rfl rfl ?_
    refine to_gt rfl rfl ?_
    first | refine to_fa rfl rfl rfl (by simp only [Nat.reduceAdd]; rfl) rfl ?_ | refine to_fae rfl rfl rfl (by simp only [Nat.reduceAdd]; rfl) rfl ?_
    refine to_gt rfl rfl ?_
    first | refine to_lds rfl rfl rfl ?_ | refine to_ldes rfl (by assumption) rfl rfl ?_
    refine to_gt rfl rfl ?_
    refine to_sub rfl rfl (by omega) rfl ?_
    refine to_gt rfl rfl ?_
    refine to_call0 rfl rfl (fun w s => pay_in _ _ _ w) rfl ?_
    refine to_gt rfl rfl ?_
    refine to_not rfl rfl ?_
    refine to_pkF rfl rfl rfl ?_
    refine to_nil ?_
    refine tn_code ?_
    refine t_if rfl (fun h2 => ?_) (fun h2 => ?_)
    · try simp only [decide_eq_true_eq, decide_eq_false_iff_not, Bool.not_eq_true', Bool.not_eq_false', Int.not_lt, Int.not_le, ne_eq, Decidable.not_not] at h2
      try have h2b := inB_iff.1 h2
      refine t_seq ?_
      refine t_reg ?_
      refine to_bs rfl rfl ?_
      first | refine to_st rfl rfl rfl rfl ?_ | refine to_ste rfl rfl (by assumption) rfl rfl ?_
      refine to_as rfl rfl ?_
      refine to_nil ?_
      refine tn_code ?_
      refine t_ret2 rfl rfl (res_cellA rfl rfl) (res_tmp rfl) (fun w' s => ?_)
      simp_all [payTotal]
    · try simp only [decide_eq_true_eq, decide_eq_false_iff_not, Bool.not_eq_true', Bool.not_eq_false', Int.not_lt, Int.not_le, ne_eq, Decidable.not_not] at h2
      try have h2b := inB_iff.1 h2
      refine t_skip ?_
      refine tn_code ?_
      refine t_seq ?_
      refine t_reg ?_
      first | refine to_lda rfl rfl rfl ?_ | refine to_ldea rfl (by assumption) rfl rfl ?_
      refine to_mf rfl rfl rfl ?_
      refine to_call0 rfl rfl (fun w s => pay_ends b a c 62 [(.pointer (some ⟨b3, 0, none⟩))] 63 [] (fun t => toL b t h) (fun _ => true) w (rdw s) (isBkd_of hb) (fun w' hw t ta tc htm hrt hrl => c_Total1 b a c t ta tc b3 h w' hrl hrt hb (mem_truL.1 htm) (rb_up (rbw s) hw)) (fun w' hw t ta tc htm hrt hrl => c_always b a c t ta tc w')) rfl ?_
      refine to_ex rfl rfl rfl ?_
      refine to_ex rfl rfl rfl ?_
      first | refine to_st rfl rfl rfl rfl ?_ | refine to_ste rfl rfl (by assumption) rfl rfl ?_
      refine to_as rfl rfl ?_
      refine to_nil ?_
      refine tn_code ?_
      refine t_ret2 rfl rfl (res_cellA rfl rfl) (res_tmp rfl) (fun w' s => ?_)
      simp_all [payTotal]

end Go.Proofs


namespace Go.Proofs
open Go Go.Sx Go.RowKit

def RSpE (xs : List (Int × Int)) (er : Int) : Nat → World → Value → Prop := fun lo w1 v => ∃ a1 c1, v = .tuple #[.slice a1 xs.length c1, .int .i64 er] ∧ Ro w1 lo w1.heap.size a1 xs.length c1 2 (spans xs)
theorem rspe_of {xs : List (Int × Int)} {er : Int} {n c lo : Nat} {a : Option Addr} {w : World} (hn : xs.length = n) (h : Ro w lo w.heap.size a n c 2 (spans xs)) : RSpE xs er lo w (.tuple #[.slice a n c, .int .i64 er]) := by
  subst hn; exact ⟨_, _, rfl, h⟩
def bdL (b : Bk) (k : Nat) : List (Int × Int) := (List.range k).map (payAt b)
theorem bdL_succ (b : Bk) (k : Nat) : spans (bdL b (k + 1)) = spans (bdL b k) ++ [spanC (payAt b k)] := by simp [bdL, List.range_succ]
theorem bdL_len (b : Bk) (k : Nat) : (bdL b k).length = k := by simp [bdL]
theorem payBounds_t {b : Bk} (h : isBk b = true) : payBounds b = (bdL b b.lines.length, 0) := by simp [payBounds, h, bdL]
theorem payBounds_f {b : Bk} (h : isBk b = false) : payBounds b = ([], 2) := by simp [payBounds, h]

set_option maxRecDepth 20000 in
theorem pay_Bounds (b : Bk) (a : Option Addr) (c : Nat) (w : World) (hr : Ro w 0 w.heap.size a b.lines.length c 10 (b.lines.map linC)) : Calls Tryz.prog 42 #[bkV b a c] w (Ret w (RSpE (payBounds b).1 (payBounds b).2)) := by
  refine calls_T (av := [_]) Tryz.func42 rfl rfl rfl ?_
  refine t_seq ?_
  refine t_reg ?_
  refine to_box rfl rfl (fun b1 => ?_)
  refine to_as rfl rfl ?_
  refine to_as rfl rfl ?_
  refine to_nil ?_
  refine tn_code ?_
  refine t_seq ?_
  refine t_seq ?_
  refine t_reg ?_
  first | refine to_lda rfl rfl rfl ?_ | refine to_ldea rfl (by assumption) rfl rfl ?_
  refine to_call0 rfl rfl (fun w s => pay_isBook b a c w (rdw s)) rfl ?_
  refine to_not rfl rfl ?_
  refine to_nil ?_
  refine tn_code ?_
  refine t_if rfl (fun h1 => ?_) (fun h1 => ?_)
  · try simp only [decide_eq_true_eq, decide_eq_false_iff_not, Bool.not_eq_true', Bool.not_eq_false', Int.not_lt, Int.not_le, ne_eq, Decidable.not_not] at h1
    try have h1b := inB_iff.1 h1
    refine t_seq ?_
    refine t_reg ?_
    refine to_as rfl rfl ?_
    refine to_as rfl rfl ?_
    refine to_nil ?_
    refine tn_code ?_
    refine t_ret2 rfl rfl (res_tmp rfl) (res_tmp rfl) (fun w' s => ?_)
    first | (rw [payBounds_f (by assumption)]; exact ⟨_, _, rfl, Ro.nil _ _ _ _⟩) | (rw [payBounds_t hb]; exact rspe_of (bdL_len _ _) (ro_row s))
  · try simp only [decide_eq_true_eq, decide_eq_false_iff_not, Bool.not_eq_true', Bool.not_eq_false', Int.not_lt, Int.not_le, ne_eq, Decidable.not_not] at h1
    try have h1b := inB_iff.1 h1
    have hb := h1
    have hbb := isBk_b hb
    refine t_skip ?_
    refine tn_code ?_
    refine t_seq ?_
    refine t_reg ?_
    refine to_as rfl rfl ?_
    refine to_nil ?_
    refine tn_code ?_
    refine t_seq ?_
    refine t_seq ?_
    refine t_reg ?_
    first | refine to_fa rfl rfl rfl (by simp only [Nat.reduceAdd]; rfl) rfl ?_ | refine to_fae rfl rfl rfl (by simp only [Nat.reduceAdd]; rfl) rfl ?_
    first | refine to_lds rfl rfl rfl ?_ | refine to_ldes rfl (by assumption) rfl rfl ?_
    refine to_lenS rfl rfl ?_
    refine to_mv rfl rfl ?_
    refine to_nil ?_
    refine tn_code ?_
    refine t_blk ?_
    refine t_nilrow 44 2 ?_
    refine t_loop2 (ι := Nat × Option Addr × Nat) (fun ((k, a', c') : Nat × Option Addr × Nat) => k ≤ b.lines.length) (fun ((k, a', c') : Nat × Option Addr × Nat) => [(1, (.pointer (some ⟨b1, 0, none⟩))), (4, .slice a' k c'), (12, .slice a b.lines.length c), (13, .int .i64 (b.lines.length : Int)), (14, .int .i64 (k : Int))]) (fun ((k, a', c') : Nat × Option Addr × Nat) => [.row a' k c' 44 2 (spans (bdL b k)), .own b1 (isC (bkC b a c) 24), .snap 0 w.heap.size w]) (fun ((k, a', c') : Nat × Option Addr × Nat) => b.lines.length - k) ((0, none, 0)) [.row none 0 0 44 2 [], .own b1 (isC (bkC b a c) 24), .snap 0 w.heap.size w] (rfl) (Nat.zero_le _) (⟨rfl, rfl, rfl, rfl, rfl, trivial⟩) ?_
    rintro ⟨k, a', c'⟩ hk
    try dsimp only at hk
    show T _ _ _ ⟨_, [(1, (.pointer (some ⟨b1, 0, none⟩))), (4, .slice a' k c'), (12, .slice a b.lines.length c), (13, .int .i64 (b.lines.length : Int)), (14, .int .i64 (k : Int))], _⟩ [.row a' k c' 44 2 (spans (bdL b k)), .own b1 (isC (bkC b a c) 24), .snap 0 w.heap.size w]
    refine t_seq ?_
    refine t_reg ?_
    refine to_lss rfl rfl rfl ?_
    refine to_nil ?_
    refine tn_code ?_
    refine t_seq ?_
    refine t_if rfl (fun h2 => ?_) (fun h2 => ?_)
    · try simp only [decide_eq_true_eq, decide_eq_false_iff_not, Bool.not_eq_true', Bool.not_eq_false', Int.not_lt, Int.not_le, ne_eq, Decidable.not_not] at h2
      try have h2b := inB_iff.1 h2
      refine t_skip ?_
      refine tn_code ?_
      refine t_seq ?_
      refine t_blk ?_
      refine t_seq ?_
      refine t_reg ?_
      refine to_mv rfl rfl ?_
      refine to_alloc rfl (fun b5 => ?_)
      first | refine to_st rfl rfl rfl rfl ?_ | refine to_ste rfl rfl (by assumption) rfl rfl ?_
      refine to_nil ?_
      refine tn_code ?_
      refine t_seq ?_
      refine t_reg ?_
      first | refine to_lda rfl rfl rfl ?_ | refine to_ldea rfl (by assumption) rfl rfl ?_
      refine to_mf rfl rfl rfl ?_
      refine to_call0 rfl rfl (fun w s => pay_ends b a c 80 [(.pointer (some ⟨b5, 0, none⟩))] 63 [] (fun t => (paysL b t).getD k 0) (fun _ => true) w (rdw s) (isBkd_of hb) (fun w' hw t ta tc htm hrt hrl => c_Bounds1 b a c t ta tc b5 k w' hrl hrt hb (mem_truL.1 htm) (by omega) (rb_up (rbw s) hw)) (fun w' hw t ta tc htm hrt hrl => c_always b a c t ta tc w')) rfl ?_
      refine to_mv rfl rfl ?_
      refine to_ex rfl rfl rfl ?_
      refine to_ex rfl rfl rfl ?_
      refine to_alloc rfl (fun b6 => ?_)
      first | refine to_st rfl rfl rfl rfl ?_ | refine to_ste rfl rfl (by assumption) rfl rfl ?_
      refine to_as rfl rfl ?_
      refine to_nil ?_
      refine tn_code ?_
      refine t_reg ?_
      refine to_mv rfl rfl ?_
      first | refine to_lda rfl rfl rfl ?_ | refine to_ldea rfl (by assumption) rfl rfl ?_
      refine to_bsl rfl rfl rfl rfl (fun a25 => ?_)
      refine to_app rfl rfl rfl (by simp [scals, scal]) (by decide) (by omega) (by decide) rfl (fun a26 c26 => ?_)
      refine to_as rfl rfl ?_
      refine to_nil ?_
      refine tn_blk ?_
      refine tn_code ?_
      refine t_reg ?_
      refine to_add rfl rfl (by omega) rfl ?_
      refine to_mv rfl rfl ?_
      refine to_nil ?_
      exact tn_loop2 ((k + 1, a26, c26)) [.row a26 (k + 1) c26 44 2 (spans (bdL b k) ++ [[Value.int .i64 (endsV (spF (fun t => (paysL b t).getD k 0) (fun _ => true) (truL b))).fst.fst, Value.int .i64 (endsV (spF (fun t => (paysL b t).getD k 0) (fun _ => true) (truL b))).fst.snd]]), .own b1 (isC (bkC b a c) 24), .snap 0 w.heap.size w] (by dsimp only; rw [bdL_succ]; rfl) (by dsimp only; omega) (by dsimp only; omega) (⟨rfl, rfl, rfl, rfl, rfl, trivial⟩)
    · try simp only [decide_eq_true_eq, decide_eq_false_iff_not, Bool.not_eq_true', Bool.not_eq_false', Int.not_lt, Int.not_le, ne_eq, Decidable.not_not] at h2
      try have h2b := inB_iff.1 h2
      have hk2 : k = b.lines.length := by omega
      subst hk2
      refine t_exit ?_
      refine tx_code ?_
      refine tx_inv ?_
      refine tx_blk ?_
      refine tn_code ?_
      refine t_seq ?_
      refine t_reg ?_
      refine to_mv rfl rfl ?_
      refine to_as rfl rfl ?_
      refine to_as rfl rfl ?_
      refine to_nil ?_
      refine tn_code ?_
      refine t_ret2 rfl rfl (res_tmp rfl) (res_tmp rfl) (fun w' s => ?_)
      first | (rw [payBounds_f (by assumption)]; exact ⟨_, _, rfl, Ro.nil _ _ _ _⟩) | (rw [payBounds_t hb]; exact rspe_of (bdL_len _ _) (ro_row s))

end Go.Proofs


namespace Go.Proofs
open Go Go.Sx Go.RowKit

set_option maxRecDepth 20000 in
theorem c_att_ok (w0 : World) (H : List Seg) (bb : Nat) (w : World) (hs : St w0 (.own bb (isC [.int .i64 0] 28) :: H) w) : CallsD Tryz.prog 98 #[(.pointer (some ⟨bb, 0, none⟩))] (Out.mode 128 130 .ok) w (fun e u' w' => e = .returned (.tuple #[]) ∧ settle u' = .returning ∧ St w0 (.own bb (isC [.int .i64 (Out.er .ok)] 28) :: H) w') := by
  refine callsD_rec (av := [_]) Tryz.func98 rfl rfl rfl rfl hs (.inl ⟨rfl, rfl, rfl⟩) ?_
  refine t_blk ?_
  refine t_seq ?_
  refine t_reg ?_
  refine to_eqiN rfl rfl ?_
  refine to_nil ?_
  refine tn_code ?_
  refine t_ifT rfl ?_
  refine t_reg ?_
  refine to_as rfl rfl ?_
  refine to_nil ?_
  refine tn_blk ?_
  exact t_endQ rfl rfl (fun w' s => ⟨rfl, rfl, s⟩)

set_option maxRecDepth 20000 in
theorem c_att_un (k : Int) (w0 : World) (H : List Seg) (bb : Nat) (w : World) (hs : St w0 (.own bb (isC [.int .i64 0] 28) :: H) w) : CallsD Tryz.prog 98 #[(.pointer (some ⟨bb, 0, none⟩))] (Out.mode 128 130 (.un k)) w (fun e u' w' => e = .returned (.tuple #[]) ∧ settle u' = .returning ∧ St w0 (.own bb (isC [.int .i64 (Out.er (.un k))] 28) :: H) w') := by
  refine callsD_rec (av := [_]) Tryz.func98 rfl rfl rfl rfl hs (.inr ⟨_, _, rfl, rfl, rfl⟩) ?_
  refine t_blk ?_
  refine t_seq ?_
  refine t_reg ?_
  refine to_eqiF rfl rfl ?_
  refine to_nil ?_
  refine tn_code ?_
  refine t_ifF rfl ?_
  refine t_seq ?_
  refine t_reg ?_
  refine to_taT rfl rfl rfl ?_
  refine to_ex rfl rfl rfl ?_
  refine to_ex rfl rfl rfl ?_
  refine to_nil ?_
  refine tn_code ?_
  refine t_ifT rfl ?_
  refine t_seq ?_
  refine t_reg ?_
  refine to_alloc rfl (fun b2 => ?_)
  first | refine to_st rfl rfl rfl rfl ?_ | refine to_ste rfl rfl (by assumption) rfl rfl ?_
  refine to_nil ?_
  refine tn_code ?_
  refine t_reg ?_
  first | refine to_st rfl rfl rfl rfl ?_ | refine to_ste rfl rfl (by assumption) rfl rfl ?_
  refine to_nil ?_
  refine tn_blk ?_
  exact t_endQ rfl rfl (fun w' s => ⟨rfl, rfl, s.drop2⟩)

set_option maxRecDepth 20000 in
theorem c_att_no (z : ByteArray) (w0 : World) (H : List Seg) (bb : Nat) (w : World) (hs : St w0 (.own bb (isC [.int .i64 0] 28) :: H) w) : CallsD Tryz.prog 98 #[(.pointer (some ⟨bb, 0, none⟩))] (Out.mode 128 130 (.no z)) w (fun e u' w' => e = .returned (.tuple #[]) ∧ settle u' = .returning ∧ St w0 (.own bb (isC [.int .i64 (Out.er (.no z))] 28) :: H) w') := by
  refine callsD_rec (av := [_]) Tryz.func98 rfl rfl rfl rfl hs (.inr ⟨_, _, rfl, rfl, rfl⟩) ?_
  refine t_blk ?_
  refine t_seq ?_
  refine t_reg ?_
  refine to_eqiF rfl rfl ?_
  refine to_nil ?_
  refine tn_code ?_
  refine t_ifF rfl ?_
  refine t_seq ?_
  refine t_reg ?_
  refine to_taF rfl rfl rfl rfl rfl ?_
  refine to_ex rfl rfl rfl ?_
  refine to_ex rfl rfl rfl ?_
  refine to_nil ?_
  refine tn_code ?_
  refine t_ifF rfl ?_
  refine t_seq ?_
  refine t_reg ?_
  refine to_taT rfl rfl rfl ?_
  refine to_ex rfl rfl rfl ?_
  refine to_ex rfl rfl rfl ?_
  refine to_nil ?_
  refine tn_code ?_
  refine t_ifT rfl ?_
  refine t_seq ?_
  refine t_reg ?_
  refine to_alloc rfl (fun b3 => ?_)
  first | refine to_st rfl rfl rfl rfl ?_ | refine to_ste rfl rfl (by assumption) rfl rfl ?_
  refine to_nil ?_
  refine tn_code ?_
  refine t_reg ?_
  first | refine to_st rfl rfl rfl rfl ?_ | refine to_ste rfl rfl (by assumption) rfl rfl ?_
  refine to_nil ?_
  refine tn_blk ?_
  exact t_endQ rfl rfl (fun w' s => ⟨rfl, rfl, s.drop2⟩)

theorem c_att (o : Out) (w0 : World) (H : List Seg) (bb : Nat) (w : World) (hs : St w0 (.own bb (isC [.int .i64 0] 28) :: H) w) : CallsD Tryz.prog 98 #[(.pointer (some ⟨bb, 0, none⟩))] (Out.mode 128 130 o) w (fun e u' w' => e = .returned (.tuple #[]) ∧ settle u' = .returning ∧ St w0 (.own bb (isC [.int .i64 (Out.er o)] 28) :: H) w') := by
  cases o with
  | ok => exact c_att_ok w0 H bb w hs
  | un k => exact c_att_un k w0 H bb w hs
  | no z => exact c_att_no z w0 H bb w hs

end Go.Proofs


namespace Go.Proofs
open Go Go.Sx Go.RowKit

/-- What comes of an attempt. -/
def AttPost (B : Nat) (p : Out → World → Prop) (w : World) : Ending → World → Prop := fun e w' => ∃ o : Out, e = .returned (.int .i64 o.er) ∧ Keep B w w' ∧ p o w'

theorem att_leave (o : Out) (w w3 : World) (b2 : Nat) (p : Out → World → Prop) (hc : Cong w.heap.size (p o)) (s3 : St w [.own b2 (isC [.int .i64 0] 28), .reg 0 w.heap.size (p o), .snap w.heap.size w.heap.size w] w3) (m : List (Nat × Value)) (a : Act) (ea : Env.ok ⟨Tryz.f68.ntmps, m, [{ target := .fn (.func 98) [(.pointer (some ⟨b2, 0, none⟩))].toArray, args := #[] }]⟩ a) (hm : lk m 2 = some (.pointer (some ⟨b2, 0, none⟩))) :
    Leaves Tryz.prog Tryz.f68 a.tmps (AttPost w.heap.size p w) a.defers (Out.mode 128 130 o) w3 := by
  refine leave1 ea.ds (by cases o <;> simp [Out.mode]) (c_att o w _ b2 w3 s3) ?_
  rintro e u' w' ⟨rfl, h2, h3⟩
  refine ⟨rfl, h2, .int .i64 o.er, ?_, o, rfl, keep_of h3, h3.regp hc⟩
  have hres : ResOk Tryz.prog w ⟨Tryz.f68.ntmps, m, [{ target := .fn (.func 98) [(.pointer (some ⟨b2, 0, none⟩))].toArray, args := #[] }]⟩ [.own b2 (isC [.int .i64 o.er] 28), .reg 0 w.heap.size (p o), .snap w.heap.size w.heap.size w] (.cell 2 28) (.int .i64 o.er) := res_cellS (ht := Tryz.ty28) hm rfl
  exact run_results (l := [.cell 2 28]) (vs := [.int .i64 o.er]) rfl rfl (fun i r v h h' => by
    match i with
    | 0 => cases h; cases h'; exact hres a w' ea h3
    | i + 1 => simp at h)

set_option maxRecDepth 20000 in
theorem c_attempt (q : Nat) (cp : List Value) (w : World) (p : Out → World → Prop) (I : World → Prop) (hIc : Cong w.heap.size I) (hpc : ∀ o, Cong w.heap.size (p o)) [hfq : FnOk Tryz.prog q] (hI : I w) (hdo : ∀ w', I w' → w.heap.size ≤ w'.heap.size → Calls Tryz.prog q ([] ++ ([] ++ cp)).toArray w' (DoPost 128 130 w.heap.size p w')) : Calls Tryz.prog 68 #[.func (.func q) ([] : List Value).toArray cp.toArray] w (AttPost w.heap.size p w) := by
  refine calls_TD (av := [_]) Tryz.func68 rfl rfl rfl (St.startB (Nat.le_refl _) hI) ?_
  refine t_seq ?_
  refine t_reg ?_
  refine to_alloc rfl (fun b2 => ?_)
  refine to_nil ?_
  refine tn_code ?_
  refine t_seq ?_
  refine t_reg ?_
  refine to_mf rfl rfl rfl ?_
  refine to_defer rfl rfl ?_
  refine to_nil ?_
  refine tn_code ?_
  refine t_seq ?_
  refine t_reg ?_
  refine to_mv rfl rfl ?_
  refine to_callP (R := DoPost 128 130 w.heap.size p) rfl rfl (fun w2 s => hdo w2 (s.regp hIc) s.ge) rfl (fun w2 s e w3 hd => ?_)
  obtain ⟨o, ho, hk, hp⟩ := hd
  have s3 := ((s.perm (List.Perm.swap ..)).turn hk hp).perm (List.Perm.swap ..)
  rcases o with _ | k | z
  rotate_left
  · exact .inr ⟨_, ho, fun a ea => att_leave (.un k) w w3 b2 p (hpc _) s3 _ a ea rfl⟩
  · exact .inr ⟨_, ho, fun a ea => att_leave (.no z) w w3 b2 p (hpc _) s3 _ a ea rfl⟩
  refine .inl ⟨_, _, ho, s3, ?_⟩
  · skip
    refine to_nil ?_
    refine tn_code ?_
    refine t_seq ?_
    refine t_reg ?_
    first | refine to_st rfl rfl rfl rfl ?_ | refine to_ste rfl rfl (by assumption) rfl rfl ?_
    refine to_nil ?_
    refine tn_code ?_
    exact t_ret (fun a w' ea s => att_leave .ok w w' b2 p (hpc _) s _ a ea rfl)

end Go.Proofs


namespace Go.Proofs
open Go Go.Sx Go.RowKit

def AgP (b : Bk) (t : List Int) (w : World) : Ending → World → Prop := fun e w' => Below w.heap.size w w' ∧ ((rigB b t = true ∧ e = .returned (.tuple #[])) ∨ ∃ k : Int, rigB b t = false ∧ e = .panicked (pan 128 (.agg [.int .i64 k].toArray)))

set_option maxRecDepth 20000 in
theorem c_agrees1 (b : Bk) (a : Option Addr) (c : Nat) (t : List Int) (ta : Option Addr) (tc : Nat) (bb : Nat) (w : World) (hr : Ro w 0 w.heap.size a b.lines.length c 10 (b.lines.map linC)) (ht : Ro w 0 w.heap.size ta t.length tc 1 (ints t)) (hb : isBk b = true) (htr : truOk b.lines t = true) (hbb : Rb w 0 w.heap.size bb (acC b a c t ta tc)) : Calls Tryz.prog 104 #[(.pointer (some ⟨bb, 0, none⟩))] w (AgP b t w) := by
  have hlen := (truOk_iff.1 htr).1
  have hpl := paysL_len hlen
  refine calls_TG (av := [_]) Tryz.func104 rfl rfl rfl (St.start w) ?_
  refine t_seq ?_
  refine t_reg ?_
  first | refine to_lda rfl rfl rfl ?_ | refine to_ldea rfl (by assumption) rfl rfl ?_
  refine to_callR rfl rfl (fun w s => ac_pays b a c t ta tc w (rdw s) (rdw s) hb htr) rfl (fun v7 lo7 w7 hlo7 hR7 => ?_)
  obtain ⟨pa7, pc7, pr7, rfl, hro7, hmb7⟩ := hR7
  refine to_mv rfl rfl ?_
  refine to_ex rfl rfl rfl ?_
  refine to_ex rfl rfl rfl ?_
  refine to_as rfl rfl ?_
  refine to_as rfl rfl ?_
  refine to_nil ?_
  refine tn_code ?_
  refine t_seq ?_
  refine t_reg ?_
  refine to_mv rfl rfl ?_
  refine to_lenS rfl rfl ?_
  refine to_mv rfl rfl ?_
  refine to_nil ?_
  refine tn_code ?_
  refine t_blk ?_
  refine t_loop2 (ι := Nat) (fun k => k ≤ (paysL b t).length ∧ ∀ j, j < k → ∀ l x, b.lines[j]? = some l → (paysL b t)[j]? = some x → x = monN l.paid) (fun k => [(0, (.pointer (some ⟨bb, 0, none⟩))), (10, .slice pa7 (paysL b t).length pc7), (11, .int .i64 ((paysL b t).length : Int)), (12, .int .i64 (k : Int))]) (fun k => [.snap lo7 w7.heap.size w7, .snap 0 w.heap.size w]) (fun k => (paysL b t).length - k) (0) [.snap lo7 w7.heap.size w7, .snap 0 w.heap.size w] (rfl) (⟨Nat.zero_le _, fun j hj => absurd hj (Nat.not_lt_zero _)⟩) (⟨rfl, rfl, rfl, rfl, trivial⟩) ?_
  rintro k ⟨hk, hall⟩
  show T _ _ _ ⟨_, [(0, (.pointer (some ⟨bb, 0, none⟩))), (10, .slice pa7 (paysL b t).length pc7), (11, .int .i64 ((paysL b t).length : Int)), (12, .int .i64 (k : Int))], _⟩ [.snap lo7 w7.heap.size w7, .snap 0 w.heap.size w]
  refine t_seq ?_
  refine t_reg ?_
  refine to_lss rfl rfl rfl ?_
  refine to_nil ?_
  refine tn_code ?_
  refine t_seq ?_
  refine t_if rfl (fun h1 => ?_) (fun h1 => ?_)
  · try simp only [decide_eq_true_eq, decide_eq_false_iff_not, Bool.not_eq_true', Bool.not_eq_false', Int.not_lt, Int.not_le, ne_eq, Decidable.not_not] at h1
    try have h1b := inB_iff.1 h1
    have hbbk := isBk_b hb
    obtain ⟨y, hy⟩ := some_get (xs := paysL b t) (k := k) (by omega)
    obtain ⟨l, hl⟩ := some_get (xs := b.lines) (k := k) (by omega)
    have hx := map_get (f := intC) hy
    have hx2 := map_get (f := linC) hl
    have hm := (isLin_b (isBk_l hb (List.mem_of_getElem? hl))).2.2.2.2.2.2
    refine t_skip ?_
    refine tn_code ?_
    refine t_seq ?_
    refine t_blk ?_
    refine t_seq ?_
    refine t_reg ?_
    refine to_mv rfl rfl ?_
    first | refine to_ix rfl rfl rfl (by first | omega | decide) (by first | omega | decide) rfl ?_ | refine to_ixi rfl rfl rfl (by omega) (by omega) (by omega) rfl ?_
    first | refine to_lds rfl rfl rfl ?_ | refine to_ldes rfl (by assumption) rfl rfl ?_
    refine to_as rfl rfl ?_
    refine to_as rfl rfl ?_
    refine to_nil ?_
    refine tn_code ?_
    refine t_seq ?_
    refine t_reg ?_
    refine to_mv rfl rfl ?_
    first | refine to_fa rfl rfl rfl (by simp only [Nat.reduceAdd]; rfl) rfl ?_ | refine to_fae rfl rfl rfl (by simp only [Nat.reduceAdd]; rfl) rfl ?_
    first | refine to_fa rfl rfl rfl (by simp only [Nat.reduceAdd]; rfl) rfl ?_ | refine to_fae rfl rfl rfl (by simp only [Nat.reduceAdd]; rfl) rfl ?_
    first | refine to_lds rfl rfl rfl ?_ | refine to_ldes rfl (by assumption) rfl rfl ?_
    refine to_mv rfl rfl ?_
    first | refine to_ix rfl rfl rfl (by first | omega | decide) (by first | omega | decide) rfl ?_ | refine to_ixi rfl rfl rfl (by omega) (by omega) (by omega) rfl ?_
    first | refine to_fa rfl rfl rfl (by simp only [Nat.reduceAdd]; rfl) rfl ?_ | refine to_fae rfl rfl rfl (by simp only [Nat.reduceAdd]; rfl) rfl ?_
    first | refine to_lda rfl rfl rfl ?_ | refine to_ldea rfl (by assumption) rfl rfl ?_
    refine to_call0 rfl rfl (fun w s => pay_counted l.paid w hm) rfl ?_
    refine to_neq rfl rfl rfl ?_
    refine to_nil ?_
    refine tn_code ?_
    refine t_if rfl (fun h2 => ?_) (fun h2 => ?_)
    · try simp only [decide_eq_true_eq, decide_eq_false_iff_not, Bool.not_eq_true', Bool.not_eq_false', Int.not_lt, Int.not_le, ne_eq, Decidable.not_not] at h2
      try have h2b := inB_iff.1 h2
      refine t_reg ?_
      refine to_mv rfl rfl ?_
      refine to_bs rfl rfl ?_
      refine to_mi rfl rfl rfl ?_
      exact to_panic rfl (fun a w' e s => ⟨e.ds, below_of s, .inr ⟨_, rigB_f hl hy (by assumption), rfl⟩⟩)
    · try simp only [decide_eq_true_eq, decide_eq_false_iff_not, Bool.not_eq_true', Bool.not_eq_false', Int.not_lt, Int.not_le, ne_eq, Decidable.not_not] at h2
      try have h2b := inB_iff.1 h2
      refine t_skip ?_
      refine tn_blk ?_
      refine tn_code ?_
      refine t_reg ?_
      refine to_add rfl rfl (by omega) rfl ?_
      refine to_mv rfl rfl ?_
      refine to_nil ?_
      exact tn_loop2 (k + 1) [.snap lo7 w7.heap.size w7, .snap 0 w.heap.size w] (rfl) (⟨by omega, all_succ hall (fun l' x' h1 h2 => by rw [hl] at h1; rw [hy] at h2; cases h1; cases h2; assumption)⟩) (by omega) (⟨rfl, rfl, rfl, rfl, trivial⟩)
  · try simp only [decide_eq_true_eq, decide_eq_false_iff_not, Bool.not_eq_true', Bool.not_eq_false', Int.not_lt, Int.not_le, ne_eq, Decidable.not_not] at h1
    try have h1b := inB_iff.1 h1
    refine t_exit ?_
    refine tx_code ?_
    refine tx_inv ?_
    refine tx_blk ?_
    exact t_end0G rfl rfl (fun w' s => ⟨below_of s, .inl ⟨rigB_t (fun j hj => hall j (by omega)), rfl⟩⟩)

theorem c_att_agrees (b : Bk) (a : Option Addr) (c : Nat) (t : List Int) (ta : Option Addr) (tc : Nat) (bb : Nat) (w : World) (hr : Ro w 0 w.heap.size a b.lines.length c 10 (b.lines.map linC)) (ht : Ro w 0 w.heap.size ta t.length tc 1 (ints t)) (hb : isBk b = true) (htr : truOk b.lines t = true) (hbb : Rb w 0 w.heap.size bb (acC b a c t ta tc)) : Calls Tryz.prog 68 #[.func (.func 104) #[] #[(.pointer (some ⟨bb, 0, none⟩))]] w (RetV w (.int .i64 (if rigB b t then 0 else 5))) := by
  refine (c_attempt 104 [(.pointer (some ⟨bb, 0, none⟩))] w (fun o w' => (∀ k, k < w.heap.size → w'.heap[k]? = w.heap[k]?) ∧ (match o with | .ok => rigB b t = true | .un _ => rigB b t = false | .no _ => False)) (fun w' => ∀ k, k < w.heap.size → w'.heap[k]? = w.heap[k]?) ?_ ?_ (fun _ _ => rfl) ?_).mono ?_
  · exact fun w1 w2 h hk k hlt => (hk k hlt).trans (h k hlt)
  · exact fun o w1 w2 h hk => ⟨fun k hlt => (hk k hlt).trans (h.1 k hlt), h.2⟩
  · intro w' hI hB
    have hw : BelowH w w' := ⟨hB, hI⟩
    refine (c_agrees1 b a c t ta tc bb w' (hr.mono (Nat.le_refl _) hB (fun k _ hk => hI k hk)) (ht.mono (Nat.le_refl _) hB (fun k _ hk => hI k hk)) hb htr (rb_up hbb hw)).mono ?_
    rintro e w2 ⟨hbl, h⟩
    have hk2 : Keep w.heap.size w' w2 := ⟨hbl.os, hbl.tape, hbl.output, hbl.size, fun k _ h2 => hbl.block k h2⟩
    have hs : ∀ k, k < w.heap.size → w2.heap[k]? = w.heap[k]? := fun k hlt => (hbl.block k (Nat.lt_of_lt_of_le hlt hB)).trans (hI k hlt)
    rcases h with ⟨h1, rfl⟩ | ⟨k, h1, rfl⟩
    · exact ⟨.ok, rfl, hk2, hs, h1⟩
    · exact ⟨.un k, rfl, hk2, hs, h1⟩
  · rintro e w' ⟨o, rfl, hk, hs, h⟩
    refine ⟨?_, hk.os, hk.tape, hk.output, hk.size, hs⟩
    cases o with
    | ok => simp only [Out.er, h, if_true]
    | un k => simp [Out.er, h]
    | no z => exact h.elim

set_option maxRecDepth 20000 in
theorem c_agrees (b : Bk) (a : Option Addr) (c : Nat) (t : List Int) (ta : Option Addr) (tc : Nat) (w : World) (hr : Ro w 0 w.heap.size a b.lines.length c 10 (b.lines.map linC)) (ht : Ro w 0 w.heap.size ta t.length tc 1 (ints t)) (hb : isBk b = true) (htr : truOk b.lines t = true) : Calls Tryz.prog 83 #[acV b a c t ta tc] w (RetV w (.bool (rigB b t))) := by
  refine calls_T0 (av := [_]) Tryz.func83 rfl rfl rfl ?_
  refine t_seq ?_
  refine t_reg ?_
  refine to_box rfl rfl (fun b1 => ?_)
  refine to_as rfl rfl ?_
  refine to_nil ?_
  refine tn_code ?_
  refine t_seq ?_
  refine t_reg ?_
  refine to_mf rfl rfl rfl ?_
  refine to_call0 rfl rfl (fun w s => c_att_agrees b a c t ta tc b1 w (rdw s) (rdw s) hb htr (rbw s)) rfl ?_
  refine to_eql rfl rfl rfl ?_
  refine to_as rfl rfl ?_
  refine to_nil ?_
  refine tn_code ?_
  refine t_ret1 rfl rfl (res_tmp rfl) (fun w' s => ?_)
  cases rigB b t <;> rfl

def payErrors (b : Bk) (line : Int) : (Int × Int) × Int := if isBk b && inB line 0 (b.lines.length - 1) then endsV (spF (fun t => t.getD line.toNat 0) (rigB b) (truL b)) else ((0, 0), 2)

set_option maxRecDepth 20000 in
theorem pay_Errors (b : Bk) (a : Option Addr) (c : Nat) (line : Int) (w : World) (hr : Ro w 0 w.heap.size a b.lines.length c 10 (b.lines.map linC)) : Calls Tryz.prog 46 #[bkV b a c, (.int .i64 line)] w (RetV w (.tuple #[spanV (payErrors b line).1, .int .i64 (payErrors b line).2])) := by
  refine calls_T0 (av := [_, _]) Tryz.func46 rfl rfl rfl ?_
  refine t_seq ?_
  refine t_reg ?_
  refine to_box rfl rfl (fun b2 => ?_)
  refine to_box rfl rfl (fun b3 => ?_)
  refine to_alloc rfl (fun b4 => ?_)
  refine to_as rfl rfl ?_
  refine to_nil ?_
  refine tn_code ?_
  refine t_seq ?_
  refine t_seq ?_
  refine t_reg ?_
  first | refine to_lda rfl rfl rfl ?_ | refine to_ldea rfl (by assumption) rfl rfl ?_
  refine to_call0 rfl rfl (fun w s => pay_isBook b a c w (rdw s)) rfl ?_
  refine to_not rfl rfl ?_
  refine to_mv rfl rfl ?_
  refine to_gs rfl rfl rfl (fun h1 => ?_) (fun h1 => ?_)
  · try simp only [decide_eq_true_eq, decide_eq_false_iff_not, Bool.not_eq_true', Bool.not_eq_false', Int.not_lt, Int.not_le, ne_eq, Decidable.not_not] at h1
    try have h1b := inB_iff.1 h1
    refine to_gf rfl rfl rfl rfl ?_
    refine to_gf rfl rfl rfl rfl ?_
    refine to_gf rfl rfl rfl rfl ?_
    refine to_gf rfl rfl rfl rfl ?_
    refine to_gf rfl rfl rfl rfl ?_
    refine to_gf rfl rfl rfl rfl ?_
    refine to_gf rfl rfl rfl rfl ?_
    refine to_pkT rfl rfl rfl ?_
    refine to_nil ?_
    refine tn_code ?_
    refine t_ifT rfl ?_
    refine t_seq ?_
    refine t_reg ?_
    refine to_bs rfl rfl ?_
    first | refine to_st rfl rfl rfl rfl ?_ | refine to_ste rfl rfl (by assumption) rfl rfl ?_
    refine to_as rfl rfl ?_
    refine to_nil ?_
    refine tn_code ?_
    refine t_ret2 rfl rfl (res_cellA rfl rfl) (res_tmp rfl) (fun w' s => ?_)
    simp_all [payErrors]
  · try simp only [decide_eq_true_eq, decide_eq_false_iff_not, Bool.not_eq_true', Bool.not_eq_false', Int.not_lt, Int.not_le, ne_eq, Decidable.not_not] at h1
    try have h1b := inB_iff.1 h1
    have hb := h1
    have hbb := isBk_b hb
    refine to_gt rfl rfl ?_
    first | refine to_lds rfl rfl rfl ?_ | refine to_ldes rfl (by assumption) rfl rfl ?_
    refine to_gt rfl rfl ?_
    first | refine to_fa rfl rfl rfl (by simp only [Nat.reduceAdd]; rfl) rfl ?_ | refine to_fae rfl rfl rfl (by simp only [Nat.reduceAdd]; rfl) rfl ?_
    refine to_gt rfl rfl ?_
    first | refine to_lds rfl rfl rfl ?_ | refine to_ldes rfl (by assumption) rfl rfl ?_
    refine to_gt rfl rfl ?_
    refine to_lenS rfl rfl ?_
    refine to_gt rfl rfl ?_
    refine to_sub rfl rfl (by omega) rfl ?_
    refine to_gt rfl rfl ?_
    refine to_call0 rfl rfl (fun w s => pay_in _ _ _ w) rfl ?_
    refine to_gt rfl rfl ?_
    refine to_not rfl rfl ?_
    refine to_pkF rfl rfl rfl ?_
    refine to_nil ?_
    refine tn_code ?_
    refine t_if rfl (fun h2 => ?_) (fun h2 => ?_)
    · try simp only [decide_eq_true_eq, decide_eq_false_iff_not, Bool.not_eq_true', Bool.not_eq_false', Int.not_lt, Int.not_le, ne_eq, Decidable.not_not] at h2
      try have h2b := inB_iff.1 h2
      refine t_seq ?_
      refine t_reg ?_
      refine to_bs rfl rfl ?_
      first | refine to_st rfl rfl rfl rfl ?_ | refine to_ste rfl rfl (by assumption) rfl rfl ?_
      refine to_as rfl rfl ?_
      refine to_nil ?_
      refine tn_code ?_
      refine t_ret2 rfl rfl (res_cellA rfl rfl) (res_tmp rfl) (fun w' s => ?_)
      simp_all [payErrors]
    · try simp only [decide_eq_true_eq, decide_eq_false_iff_not, Bool.not_eq_true', Bool.not_eq_false', Int.not_lt, Int.not_le, ne_eq, Decidable.not_not] at h2
      try have h2b := inB_iff.1 h2
      have hlb := inB_iff.1 h2
      obtain ⟨k, rfl⟩ := Int.eq_ofNat_of_zero_le hlb.1
      refine t_skip ?_
      refine tn_code ?_
      refine t_seq ?_
      refine t_reg ?_
      first | refine to_lda rfl rfl rfl ?_ | refine to_ldea rfl (by assumption) rfl rfl ?_
      refine to_mf rfl rfl rfl ?_
      refine to_call0 rfl rfl (fun w s => pay_ends b a c 82 [(.pointer (some ⟨b3, 0, none⟩))] 83 [] (fun t => t.getD k 0) (rigB b) w (rdw s) (isBkd_of hb) (fun w' hw t ta tc htm hrt hrl => c_Errors1 b a c t ta tc b3 k w' hrl hrt (by have := (truOk_iff.1 (mem_truL.1 htm)).1; omega) (rb_up (rbw s) hw)) (fun w' hw t ta tc htm hrt hrl => c_agrees b a c t ta tc w' hrl hrt hb (mem_truL.1 htm))) rfl ?_
      refine to_ex rfl rfl rfl ?_
      refine to_ex rfl rfl rfl ?_
      first | refine to_st rfl rfl rfl rfl ?_ | refine to_ste rfl rfl (by assumption) rfl rfl ?_
      refine to_as rfl rfl ?_
      refine to_nil ?_
      refine tn_code ?_
      refine t_ret2 rfl rfl (res_cellA rfl rfl) (res_tmp rfl) (fun w' s => ?_)
      simp_all [payErrors]

end Go.Proofs


namespace Go.Proofs
open Go Go.Sx Go.RowKit

set_option maxRecDepth 20000 in
theorem pay_first (b : Bk) (a : Option Addr) (c : Nat) (w : World) (hr : Ro w 0 w.heap.size a b.lines.length c 10 (b.lines.map linC)) (hb : isBk b = true) : Calls Tryz.prog 81 #[bkV b a c] w (Ret w (RSlB ((firL b).getD []) (firL b).isSome)) := by
  refine calls_TM (av := [_]) Tryz.func81 rfl rfl rfl ?_
  refine t_seq ?_
  refine t_reg ?_
  refine to_box rfl rfl (fun b1 => ?_)
  refine to_as rfl rfl ?_
  refine to_as rfl rfl ?_
  refine to_nil ?_
  refine tn_code ?_
  refine t_scope rfl ?_
  refine t_seq ?_
  refine t_reg ?_
  refine to_alloc rfl (fun b4 => ?_)
  refine to_nil ?_
  refine tn_code ?_
  refine t_seq ?_
  refine t_reg ?_
  refine to_alloc rfl (fun b5 => ?_)
  first | refine to_st rfl rfl rfl rfl ?_ | refine to_ste rfl rfl (by assumption) rfl rfl ?_
  refine to_nil ?_
  refine tn_code ?_
  refine t_seq ?_
  refine t_label ?_
  refine tn_code ?_
  refine t_seq ?_
  refine t_seq ?_
  refine t_reg ?_
  first | refine to_lda rfl rfl rfl ?_ | refine to_ldea rfl (by assumption) rfl rfl ?_
  refine to_callR rfl rfl (fun w s => pay_truths b a c w) rfl (fun v8 lo8 w8 hlo8 hR8 => ?_)
  obtain ⟨bb8, rfl, hrb8⟩ := hR8
  refine to_nil ?_
  refine tn_code ?_
  refine t_blk ?_
  refine t_fact (p := truL b <:+ truL b ∧ (pfx b (truL b)).all (fun u => !rigB b u) = true) ⟨List.suffix_rfl, by rw [pfx_all]; rfl⟩ ?_
  refine t_rf rfl rfl (fun L => [.reg 0 0 (fun _ => L <:+ truL b ∧ (pfx b L).all (fun u => !rigB b u) = true), .own b4 (isC [.slice none 0 0] 27), .own b5 (isC [.bool false] 4), .own b1 (isC (bkC b a c) 24), .snap lo8 w8.heap.size w8, .snap 0 w.heap.size w]) (truL b) (.exit 0) (H0 := [.reg 0 0 (fun _ => (truL b) <:+ truL b ∧ (pfx b (truL b)).all (fun u => !rigB b u) = true), .own b4 (isC [.slice none 0 0] 27), .own b5 (isC [.bool false] 4), .own b1 (isC (bkC b a c) 24), .snap lo8 w8.heap.size w8, .snap 0 w.heap.size w]) rfl (fun K l D B w' => ∃ t ta tc, firL b = some t ∧ t.length = b.lines.length ∧ B ≤ w'.heap.size ∧ StB B (.own l (isLp K .done (some (.exit 0))) :: .own D isDf :: [.own b4 (isC [.slice ta t.length tc] 27), .own b5 (isC [.bool true] 4), .own b1 (isC (bkC b a c) 24), .snap lo8 w8.heap.size w8, .snap 0 w.heap.size w]) w' ∧ Ro w' B w'.heap.size ta t.length tc 1 (ints t)) ?_ ?_ ?_
  · intro K l D w₂ hK s₂
    refine tru_seq b a c bb8 l w₂ (fun L => StB w₂.heap.size (.own l (isLp K .ready none) :: .own D isDf :: [.reg 0 0 (fun _ => L <:+ truL b ∧ (pfx b L).all (fun u => !rigB b u) = true), .own b4 (isC [.slice none 0 0] 27), .own b5 (isC [.bool false] 4), .own b1 (isC (bkC b a c) 24), .snap lo8 w8.heap.size w8, .snap 0 w.heap.size w])) ((fun K l D B w' => ∃ t ta tc, firL b = some t ∧ t.length = b.lines.length ∧ B ≤ w'.heap.size ∧ StB B (.own l (isLp K .done (some (.exit 0))) :: .own D isDf :: [.own b4 (isC [.slice ta t.length tc] 27), .own b5 (isC [.bool true] 4), .own b1 (isC (bkC b a c) 24), .snap lo8 w8.heap.size w8, .snap 0 w.heap.size w]) w' ∧ Ro w' B w'.heap.size ta t.length tc 1 (ints t)) K l D w₂.heap.size) (fun L => stB_cong) ?_ (fun L => ⟨fun w' h => stb_rb h⟩) (fun L => ⟨fun w' h => stb_ro h⟩) (isBkd_of hb) ?_ s₂.stB
    · rintro u u' ⟨t, ta, tc, h1, h2, h3, h4, h5⟩ hsz hsame
      exact ⟨t, ta, tc, h1, h2, Nat.le_trans h3 hsz, stB_cong _ _ h4 (fun k hk => hsame k (Nat.lt_of_lt_of_le hk h3)), h5.mono (Nat.le_refl _) hsz (fun k _ hk => hsame k hk)⟩
    intro t C wr ta tc htl hI hB hro
    have hfact : t :: C <:+ truL b ∧ (pfx b (t :: C)).all (fun u => !rigB b u) = true := stb_fact hI (by simp)
    have htm := sfx_mem hfact.1
    refine yc_round hK hI hB rfl ?_
    refine t_reg ?_
    refine to_alloc rfl (fun b6 => ?_)
    first | refine to_st rfl rfl rfl rfl ?_ | refine to_ste rfl rfl (by assumption) rfl rfl ?_
    refine to_nil ?_
    refine t_begin ?_
    refine t_blk ?_
    refine t_seq ?_
    refine t_reg ?_
    first | refine to_lda rfl rfl rfl ?_ | refine to_ldea rfl (by assumption) rfl rfl ?_
    refine to_call0 rfl rfl (fun w s => c_agrees b a c t ta tc w (rdw s) (rdw s) hb (mem_truL.1 htm)) rfl ?_
    refine to_nil ?_
    refine tn_code ?_
    refine t_if rfl (fun h1 => ?_) (fun h1 => ?_)
    · try simp only [decide_eq_true_eq, decide_eq_false_iff_not, Bool.not_eq_true', Bool.not_eq_false', Int.not_lt, Int.not_le, ne_eq, Decidable.not_not] at h1
      try have h1b := inB_iff.1 h1
      refine t_seq ?_
      refine t_reg ?_
      first | refine to_fa rfl rfl rfl (by simp only [Nat.reduceAdd]; rfl) rfl ?_ | refine to_fae rfl rfl rfl (by simp only [Nat.reduceAdd]; rfl) rfl ?_
      first | refine to_lds rfl rfl rfl ?_ | refine to_ldes rfl (by assumption) rfl rfl ?_
      first | refine to_st rfl rfl rfl rfl ?_ | refine to_ste rfl rfl (by assumption) rfl rfl ?_
      first | refine to_st rfl rfl rfl rfl ?_ | refine to_ste rfl rfl (by assumption) rfl rfl ?_
      refine to_nil ?_
      refine tn_code ?_
      refine t_exit ?_
      refine tx_blk_ne rfl ?_
      exact t_rexit (.own D isDf :: [.own b4 (isC [.slice ta t.length tc] 27), .own b5 (isC [.bool true] 4), .own b1 (isC (bkC b a c) 24), .snap lo8 w8.heap.size w8, .snap 0 w.heap.size w]) (hi_of_rng (H := .own D isDf :: ([.reg 0 0 (fun _ => (truL b) <:+ truL b ∧ (pfx b (truL b)).all (fun u => !rigB b u) = true), .own b4 (isC [.slice none 0 0] 27), .own b5 (isC [.bool false] 4), .own b1 (isC (bkC b a c) 24), .snap lo8 w8.heap.size w8, .snap 0 w.heap.size w]).tail) rfl (fun s hs => s₂.le s (List.mem_cons_of_mem _ (by rcases List.mem_cons.1 hs with rfl | hs; exact List.mem_cons_self ..; exact List.mem_cons_of_mem _ (List.mem_cons_of_mem _ hs))))) (s₂.le (.own l (isLp K .ready none)) (List.mem_cons_self ..)) (fun w' s hb' => ⟨t, ta, tc, firL_some hfact.1 hfact.2 (by assumption), htl, Nat.le_trans hB s.ge, hb', ro_snapB s⟩)
    · try simp only [decide_eq_true_eq, decide_eq_false_iff_not, Bool.not_eq_true', Bool.not_eq_false', Int.not_lt, Int.not_le, ne_eq, Decidable.not_not] at h1
      try have h1b := inB_iff.1 h1
      refine t_skip ?_
      refine tn_blk ?_
      refine tx_fact (p := C <:+ truL b ∧ (pfx b C).all (fun u => !rigB b u) = true) ⟨sfx_tail hfact.1, pfx_no hfact.1 hfact.2 (by assumption)⟩ ?_
      exact t_rend2 (.own D isDf :: [.reg 0 0 (fun _ => C <:+ truL b ∧ (pfx b C).all (fun u => !rigB b u) = true), .own b4 (isC [.slice none 0 0] 27), .own b5 (isC [.bool false] 4), .own b1 (isC (bkC b a c) 24), .snap lo8 w8.heap.size w8, .snap 0 w.heap.size w]) rfl (hi_of_rng (H := .own D isDf :: [.reg 0 0 (fun _ => (truL b) <:+ truL b ∧ (pfx b (truL b)).all (fun u => !rigB b u) = true), .own b4 (isC [.slice none 0 0] 27), .own b5 (isC [.bool false] 4), .own b1 (isC (bkC b a c) 24), .snap lo8 w8.heap.size w8, .snap 0 w.heap.size w]) rfl (fun s hs => s₂.le s (List.mem_cons_of_mem _ hs))) (s₂.le (.own l (isLp K .ready none)) (List.mem_cons_self ..))
  · intro D
    show TX _ _ _ _ (.own D isDf :: [.reg 0 0 (fun _ => [] <:+ truL b ∧ (pfx b []).all (fun u => !rigB b u) = true), .own b4 (isC [.slice none 0 0] 27), .own b5 (isC [.bool false] 4), .own b1 (isC (bkC b a c) 24), .snap lo8 w8.heap.size w8, .snap 0 w.heap.size w])
    refine tx_use (p := [] <:+ truL b ∧ (pfx b []).all (fun u => !rigB b u) = true) (fun hfin => ?_)
    have hfir := firL_none hfin.2
    refine tn_blk ?_
    refine tn_code ?_
    refine t_seq ?_
    refine t_regD rfl (by kernel_rfl) (by kernel_rfl) ?_
    first | refine to_lds rfl rfl rfl ?_ | refine to_ldes rfl (by assumption) rfl rfl ?_
    first | refine to_lds rfl rfl rfl ?_ | refine to_ldes rfl (by assumption) rfl rfl ?_
    refine to_as rfl rfl ?_
    refine to_as rfl rfl ?_
    refine to_nil ?_
    refine tn_code ?_
    refine t_ret2M rfl (res_tmp rfl) (res_tmp rfl) (fun w' s => ?_)
    first | (rw [hfir]; exact ⟨_, _, rfl, Ro.nil _ _ _ _⟩) | (rw [hfir]; exact ⟨_, _, rfl, ro_snap s hB0⟩)
  · intro K l D B w₃ hF hB0
    obtain ⟨t, ta, tc, hfir, htl, hBw, hb', hro⟩ := hF
    refine ⟨[.own b4 (isC [.slice ta t.length tc] 27), .own b5 (isC [.bool true] 4), .own b1 (isC (bkC b a c) 24), .snap lo8 w8.heap.size w8, .snap 0 w.heap.size w], hb', ?_⟩
    refine t_exit ?_
    refine tx_blk ?_
    refine tn_code ?_
    refine t_seq ?_
    refine t_regD rfl (by kernel_rfl) (by kernel_rfl) ?_
    first | refine to_lds rfl rfl rfl ?_ | refine to_ldes rfl (by assumption) rfl rfl ?_
    first | refine to_lds rfl rfl rfl ?_ | refine to_ldes rfl (by assumption) rfl rfl ?_
    refine to_as rfl rfl ?_
    refine to_as rfl rfl ?_
    refine to_nil ?_
    refine tn_code ?_
    refine t_ret2M rfl (res_tmp rfl) (res_tmp rfl) (fun w' s => ?_)
    first | (rw [hfir]; exact ⟨_, _, rfl, Ro.nil _ _ _ _⟩) | (rw [hfir]; exact ⟨_, _, rfl, ro_snap s hB0⟩)

end Go.Proofs


namespace Go.Proofs
open Go Go.Sx Go.RowKit

set_option maxRecDepth 20000 in
theorem pay_Agrees (b : Bk) (a : Option Addr) (c : Nat) (w : World) (hr : Ro w 0 w.heap.size a b.lines.length c 10 (b.lines.map linC)) : Calls Tryz.prog 43 #[bkV b a c] w (Ret w (RSlE (payAgrees b).1 (payAgrees b).2)) := by
  refine calls_T (av := [_]) Tryz.func43 rfl rfl rfl ?_
  refine t_seq ?_
  refine t_reg ?_
  refine to_box rfl rfl (fun b1 => ?_)
  refine to_as rfl rfl ?_
  refine to_as rfl rfl ?_
  refine to_nil ?_
  refine tn_code ?_
  refine t_seq ?_
  refine t_seq ?_
  refine t_reg ?_
  first | refine to_lda rfl rfl rfl ?_ | refine to_ldea rfl (by assumption) rfl rfl ?_
  refine to_call0 rfl rfl (fun w s => pay_isBook b a c w (rdw s)) rfl ?_
  refine to_not rfl rfl ?_
  refine to_nil ?_
  refine tn_code ?_
  refine t_if rfl (fun h1 => ?_) (fun h1 => ?_)
  · try simp only [decide_eq_true_eq, decide_eq_false_iff_not, Bool.not_eq_true', Bool.not_eq_false', Int.not_lt, Int.not_le, ne_eq, Decidable.not_not] at h1
    try have h1b := inB_iff.1 h1
    refine t_seq ?_
    refine t_reg ?_
    refine to_as rfl rfl ?_
    refine to_as rfl rfl ?_
    refine to_nil ?_
    refine tn_code ?_
    refine t_ret2 rfl rfl (res_tmp rfl) (res_tmp rfl) (fun w' s => ?_)
    first | (rw [payAgrees_f (by assumption)]; exact ⟨_, _, rfl, Ro.nil _ _ _ _⟩) | (rw [payAgrees_none hb hsm]; exact ⟨_, _, rfl, Ro.nil _ _ _ _⟩) | (rw [payAgrees_some hb hsm]; exact ⟨_, _, rfl, ro_snap s hlo11⟩)
  · try simp only [decide_eq_true_eq, decide_eq_false_iff_not, Bool.not_eq_true', Bool.not_eq_false', Int.not_lt, Int.not_le, ne_eq, Decidable.not_not] at h1
    try have h1b := inB_iff.1 h1
    have hb := h1
    refine t_skip ?_
    refine tn_code ?_
    refine t_seq ?_
    refine t_reg ?_
    first | refine to_lda rfl rfl rfl ?_ | refine to_ldea rfl (by assumption) rfl rfl ?_
    refine to_callR rfl rfl (fun w s => pay_first b a c w (rdw s) hb) rfl (fun v11 lo11 w11 hlo11 hR11 => ?_)
    obtain ⟨pa11, pc11, rfl, hro11⟩ := hR11
    refine to_mv rfl rfl ?_
    refine to_ex rfl rfl rfl ?_
    refine to_ex rfl rfl rfl ?_
    refine to_as rfl rfl ?_
    refine to_as rfl rfl ?_
    refine to_nil ?_
    refine tn_code ?_
    refine t_seq ?_
    refine t_seq ?_
    refine t_reg ?_
    refine to_mv rfl rfl ?_
    refine to_not rfl rfl ?_
    refine to_nil ?_
    refine tn_code ?_
    refine t_if rfl (fun h2 => ?_) (fun h2 => ?_)
    · try simp only [decide_eq_true_eq, decide_eq_false_iff_not, Bool.not_eq_true', Bool.not_eq_false', Int.not_lt, Int.not_le, ne_eq, Decidable.not_not] at h2
      try have h2b := inB_iff.1 h2
      have hsm := h2
      refine t_seq ?_
      refine t_reg ?_
      refine to_as rfl rfl ?_
      refine to_as rfl rfl ?_
      refine to_nil ?_
      refine tn_code ?_
      refine t_ret2 rfl rfl (res_tmp rfl) (res_tmp rfl) (fun w' s => ?_)
      first | (rw [payAgrees_f (by assumption)]; exact ⟨_, _, rfl, Ro.nil _ _ _ _⟩) | (rw [payAgrees_none hb hsm]; exact ⟨_, _, rfl, Ro.nil _ _ _ _⟩) | (rw [payAgrees_some hb hsm]; exact ⟨_, _, rfl, ro_snap s hlo11⟩)
    · try simp only [decide_eq_true_eq, decide_eq_false_iff_not, Bool.not_eq_true', Bool.not_eq_false', Int.not_lt, Int.not_le, ne_eq, Decidable.not_not] at h2
      try have h2b := inB_iff.1 h2
      have hsm := h2
      refine t_skip ?_
      refine tn_code ?_
      refine t_seq ?_
      refine t_reg ?_
      refine to_mv rfl rfl ?_
      refine to_as rfl rfl ?_
      refine to_as rfl rfl ?_
      refine to_nil ?_
      refine tn_code ?_
      refine t_ret2 rfl rfl (res_tmp rfl) (res_tmp rfl) (fun w' s => ?_)
      first | (rw [payAgrees_f (by assumption)]; exact ⟨_, _, rfl, Ro.nil _ _ _ _⟩) | (rw [payAgrees_none hb hsm]; exact ⟨_, _, rfl, Ro.nil _ _ _ _⟩) | (rw [payAgrees_some hb hsm]; exact ⟨_, _, rfl, ro_snap s hlo11⟩)

set_option maxRecDepth 20000 in
theorem pay_First (b : Bk) (a : Option Addr) (c : Nat) (w : World) (hr : Ro w 0 w.heap.size a b.lines.length c 10 (b.lines.map linC)) : Calls Tryz.prog 44 #[bkV b a c] w (RetV w (.tuple #[.int .i64 (payFirst b).1, .int .i64 (payFirst b).2])) := by
  have hrle := hr.le
  refine calls_T0 (av := [_]) Tryz.func44 rfl rfl rfl ?_
  refine t_seq ?_
  refine t_reg ?_
  refine to_box rfl rfl (fun b1 => ?_)
  refine to_as rfl rfl ?_
  refine to_as rfl rfl ?_
  refine to_nil ?_
  refine tn_code ?_
  refine t_seq ?_
  refine t_seq ?_
  refine t_reg ?_
  first | refine to_lda rfl rfl rfl ?_ | refine to_ldea rfl (by assumption) rfl rfl ?_
  refine to_call0 rfl rfl (fun w s => pay_isBook b a c w (rdw s)) rfl ?_
  refine to_not rfl rfl ?_
  refine to_nil ?_
  refine tn_code ?_
  refine t_if rfl (fun h1 => ?_) (fun h1 => ?_)
  · try simp only [decide_eq_true_eq, decide_eq_false_iff_not, Bool.not_eq_true', Bool.not_eq_false', Int.not_lt, Int.not_le, ne_eq, Decidable.not_not] at h1
    try have h1b := inB_iff.1 h1
    refine t_seq ?_
    refine t_reg ?_
    refine to_as rfl rfl ?_
    refine to_as rfl rfl ?_
    refine to_nil ?_
    refine tn_code ?_
    refine t_ret2 rfl rfl (res_tmp rfl) (res_tmp rfl) (fun w' s => ?_)
    first | (simp_all [payFirst]; done) | (rw [payFirst_some hb hkl hall hsm]) | (rw [payFirst_none hb hall])
  · try simp only [decide_eq_true_eq, decide_eq_false_iff_not, Bool.not_eq_true', Bool.not_eq_false', Int.not_lt, Int.not_le, ne_eq, Decidable.not_not] at h1
    try have h1b := inB_iff.1 h1
    have hb := h1
    have hbb := isBk_b hb
    refine t_skip ?_
    refine tn_code ?_
    refine t_seq ?_
    refine t_seq ?_
    refine t_reg ?_
    first | refine to_fa rfl rfl rfl (by simp only [Nat.reduceAdd]; rfl) rfl ?_ | refine to_fae rfl rfl rfl (by simp only [Nat.reduceAdd]; rfl) rfl ?_
    first | refine to_lds rfl rfl rfl ?_ | refine to_ldes rfl (by assumption) rfl rfl ?_
    refine to_lenS rfl rfl ?_
    refine to_mv rfl rfl ?_
    refine to_nil ?_
    refine tn_code ?_
    refine t_blk ?_
    refine t_loop2 (ι := Nat) (fun k => k ≤ b.lines.length ∧ ∀ j, j < k → (firL (untL b j)).isSome = true) (fun k => [(1, (.pointer (some ⟨b1, 0, none⟩))), (13, .int .i64 (b.lines.length : Int)), (14, .int .i64 (k : Int))]) (fun k => [.own b1 (isC (bkC b a c) 24), .snap 0 w.heap.size w]) (fun k => b.lines.length - k) (0) [.own b1 (isC (bkC b a c) 24), .snap 0 w.heap.size w] (rfl) (⟨Nat.zero_le _, fun j hj => absurd hj (Nat.not_lt_zero _)⟩) (⟨rfl, rfl, rfl, trivial⟩) ?_
    rintro k ⟨hk, hall⟩
    show T _ _ _ ⟨_, [(1, (.pointer (some ⟨b1, 0, none⟩))), (13, .int .i64 (b.lines.length : Int)), (14, .int .i64 (k : Int))], _⟩ [.own b1 (isC (bkC b a c) 24), .snap 0 w.heap.size w]
    refine t_seq ?_
    refine t_reg ?_
    refine to_lss rfl rfl rfl ?_
    refine to_nil ?_
    refine tn_code ?_
    refine t_seq ?_
    refine t_if rfl (fun h2 => ?_) (fun h2 => ?_)
    · try simp only [decide_eq_true_eq, decide_eq_false_iff_not, Bool.not_eq_true', Bool.not_eq_false', Int.not_lt, Int.not_le, ne_eq, Decidable.not_not] at h2
      try have h2b := inB_iff.1 h2
      have hkl : k < b.lines.length := by omega
      refine t_skip ?_
      refine tn_code ?_
      refine t_seq ?_
      refine t_blk ?_
      refine t_seq ?_
      refine t_reg ?_
      refine to_mv rfl rfl ?_
      refine to_as rfl rfl ?_
      refine to_nil ?_
      refine tn_code ?_
      refine t_seq ?_
      refine t_reg ?_
      first | refine to_lda rfl rfl rfl ?_ | refine to_ldea rfl (by assumption) rfl rfl ?_
      refine to_alloc rfl (fun b5 => ?_)
      first | refine to_st rfl rfl rfl rfl ?_ | refine to_ste rfl rfl (by assumption) rfl rfl ?_
      refine to_nil ?_
      refine tn_code ?_
      refine t_seq ?_
      refine t_reg ?_
      first | refine to_fa rfl rfl rfl (by simp only [Nat.reduceAdd]; rfl) rfl ?_ | refine to_fae rfl rfl rfl (by simp only [Nat.reduceAdd]; rfl) rfl ?_
      first | refine to_lds rfl rfl rfl ?_ | refine to_ldes rfl (by assumption) rfl rfl ?_
      refine to_mv rfl rfl ?_
      refine to_add rfl rfl (by omega) rfl ?_
      refine to_slH rfl rfl (Nat.le_trans (Nat.succ_le_of_lt hkl) hrle) rfl ?_
      first | refine to_fa rfl rfl rfl (by simp only [Nat.reduceAdd]; rfl) rfl ?_ | refine to_fae rfl rfl rfl (by simp only [Nat.reduceAdd]; rfl) rfl ?_
      first | refine to_st rfl rfl rfl rfl ?_ | refine to_ste rfl rfl (by assumption) rfl rfl ?_
      refine to_nil ?_
      refine tn_code ?_
      refine t_seq ?_
      refine t_reg ?_
      first | refine to_lda rfl rfl rfl ?_ | refine to_ldea rfl (by assumption) rfl rfl ?_
      refine to_callR rfl rfl (fun w s => (by have h9 := pay_first (untL b k) a c w (by rw [untL_len hkl]; have := ro_take (rdw s (a := a) (n := b.lines.length) (xs := b.lines.map linC)) (k := k + 1) (by omega); rw [← List.map_take] at this; exact this) (untL_ok hb hkl); simp only [bkV, bkC, untL_len hkl] at h9; exact h9)) rfl (fun v26 lo26 w26 hlo26 hR26 => ?_)
      obtain ⟨pa26, pc26, rfl, hro26⟩ := hR26
      refine to_mv rfl rfl ?_
      refine to_ex rfl rfl rfl ?_
      refine to_ex rfl rfl rfl ?_
      refine to_as rfl rfl ?_
      refine to_as rfl rfl ?_
      refine to_nil ?_
      refine tn_code ?_
      refine t_seq ?_
      refine t_reg ?_
      refine to_mv rfl rfl ?_
      refine to_not rfl rfl ?_
      refine to_nil ?_
      refine tn_code ?_
      refine t_if rfl (fun h3 => ?_) (fun h3 => ?_)
      · try simp only [decide_eq_true_eq, decide_eq_false_iff_not, Bool.not_eq_true', Bool.not_eq_false', Int.not_lt, Int.not_le, ne_eq, Decidable.not_not] at h3
        try have h3b := inB_iff.1 h3
        have hsm := h3
        refine t_seq ?_
        refine t_reg ?_
        refine to_mv rfl rfl ?_
        refine to_as rfl rfl ?_
        refine to_as rfl rfl ?_
        refine to_nil ?_
        refine tn_code ?_
        refine t_ret2 rfl rfl (res_tmp rfl) (res_tmp rfl) (fun w' s => ?_)
        first | (simp_all [payFirst]; done) | (rw [payFirst_some hb hkl hall hsm]) | (rw [payFirst_none hb hall])
      · try simp only [decide_eq_true_eq, decide_eq_false_iff_not, Bool.not_eq_true', Bool.not_eq_false', Int.not_lt, Int.not_le, ne_eq, Decidable.not_not] at h3
        try have h3b := inB_iff.1 h3
        refine t_skip ?_
        refine tn_blk ?_
        refine tn_code ?_
        refine t_reg ?_
        refine to_add rfl rfl (by omega) rfl ?_
        refine to_mv rfl rfl ?_
        refine to_nil ?_
        exact tn_loop2 (k + 1) [.own b1 (isC (bkC b a c) 24), .snap 0 w.heap.size w] (rfl) (⟨by omega, all_succ hall (by assumption)⟩) (by omega) (⟨rfl, rfl, rfl, trivial⟩)
    · try simp only [decide_eq_true_eq, decide_eq_false_iff_not, Bool.not_eq_true', Bool.not_eq_false', Int.not_lt, Int.not_le, ne_eq, Decidable.not_not] at h2
      try have h2b := inB_iff.1 h2
      have hk2 : k = b.lines.length := by omega
      subst hk2
      refine t_exit ?_
      refine tx_code ?_
      refine tx_inv ?_
      refine tx_blk ?_
      refine tn_code ?_
      refine t_seq ?_
      refine t_reg ?_
      refine to_as rfl rfl ?_
      refine to_as rfl rfl ?_
      refine to_nil ?_
      refine tn_code ?_
      refine t_ret2 rfl rfl (res_tmp rfl) (res_tmp rfl) (fun w' s => ?_)
      first | (simp_all [payFirst]; done) | (rw [payFirst_some hb hkl hall hsm]) | (rw [payFirst_none hb hall])

end Go.Proofs


namespace Go.Proofs
open Go Go.Sx Go.RowKit

set_option maxRecDepth 20000 in
theorem pay_Rate (b : Bk) (a : Option Addr) (c : Nat) (h s0 : Int) (w : World) (hr : Ro w 0 w.heap.size a b.lines.length c 10 (b.lines.map linC)) : Calls Tryz.prog 22 #[bkV b a c, (.int .i64 h), (.int .i64 s0)] w (RetV w (.tuple #[.int .i64 (payRate b h s0).1, .int .i64 (payRate b h s0).2])) := by
  refine calls_T0 (av := [_, _, _]) Tryz.func22 rfl rfl rfl ?_
  refine t_seq ?_
  refine t_reg ?_
  refine to_box rfl rfl (fun b3 => ?_)
  refine to_as rfl rfl ?_
  refine to_as rfl rfl ?_
  refine to_nil ?_
  refine tn_code ?_
  refine t_seq ?_
  refine t_seq ?_
  refine t_reg ?_
  first | refine to_lda rfl rfl rfl ?_ | refine to_ldea rfl (by assumption) rfl rfl ?_
  refine to_call0 rfl rfl (fun w s => pay_isBook b a c w (rdw s)) rfl ?_
  refine to_not rfl rfl ?_
  refine to_mv rfl rfl ?_
  refine to_gs rfl rfl rfl (fun h1 => ?_) (fun h1 => ?_)
  · try simp only [decide_eq_true_eq, decide_eq_false_iff_not, Bool.not_eq_true', Bool.not_eq_false', Int.not_lt, Int.not_le, ne_eq, Decidable.not_not] at h1
    try have h1b := inB_iff.1 h1
    refine to_gf rfl rfl rfl rfl ?_
    refine to_gf rfl rfl rfl rfl ?_
    refine to_gf rfl rfl rfl rfl ?_
    refine to_gf rfl rfl rfl rfl ?_
    refine to_gf rfl rfl rfl rfl ?_
    refine to_gf rfl rfl rfl rfl ?_
    refine to_pkT rfl rfl rfl ?_
    refine to_mv rfl rfl ?_
    refine to_gf rfl rfl rfl rfl ?_
    refine to_gf rfl rfl rfl rfl ?_
    refine to_gf rfl rfl rfl rfl ?_
    refine to_pkT rfl rfl rfl ?_
    refine to_nil ?_
    refine tn_code ?_
    refine t_ifT rfl ?_
    refine t_seq ?_
    refine t_reg ?_
    refine to_as rfl rfl ?_
    refine to_as rfl rfl ?_
    refine to_nil ?_
    refine tn_code ?_
    refine t_ret2 rfl rfl (res_tmp rfl) (res_tmp rfl) (fun w' s => ?_)
    first | (simp_all [payRate]; done) | (rw [payRate_some hb hhd hsm (by omega) hall (by assumption)]) | (rw [payRate_none hb hhd hsm hall])
  · try simp only [decide_eq_true_eq, decide_eq_false_iff_not, Bool.not_eq_true', Bool.not_eq_false', Int.not_lt, Int.not_le, ne_eq, Decidable.not_not] at h1
    try have h1b := inB_iff.1 h1
    have hb := h1
    have hbb := isBk_b hb
    refine to_gt rfl rfl ?_
    refine to_mv rfl rfl ?_
    refine to_gt rfl rfl ?_
    first | refine to_fa rfl rfl rfl (by simp only [Nat.reduceAdd]; rfl) rfl ?_ | refine to_fae rfl rfl rfl (by simp only [Nat.reduceAdd]; rfl) rfl ?_
    refine to_gt rfl rfl ?_
    first | refine to_lds rfl rfl rfl ?_ | refine to_ldes rfl (by assumption) rfl rfl ?_
    refine to_gt rfl rfl ?_
    refine to_sub rfl rfl (by omega) rfl ?_
    refine to_gt rfl rfl ?_
    refine to_call0 rfl rfl (fun w s => pay_in _ _ _ w) rfl ?_
    refine to_gt rfl rfl ?_
    refine to_not rfl rfl ?_
    refine to_pkF rfl rfl rfl ?_
    refine to_mv rfl rfl ?_
    refine to_gs rfl rfl rfl (fun h2 => ?_) (fun h2 => ?_)
    · try simp only [decide_eq_true_eq, decide_eq_false_iff_not, Bool.not_eq_true', Bool.not_eq_false', Int.not_lt, Int.not_le, ne_eq, Decidable.not_not] at h2
      try have h2b := inB_iff.1 h2
      refine to_gf rfl rfl rfl rfl ?_
      refine to_gf rfl rfl rfl rfl ?_
      refine to_gf rfl rfl rfl rfl ?_
      refine to_pkT rfl rfl rfl ?_
      refine to_nil ?_
      refine tn_code ?_
      refine t_ifT rfl ?_
      refine t_seq ?_
      refine t_reg ?_
      refine to_as rfl rfl ?_
      refine to_as rfl rfl ?_
      refine to_nil ?_
      refine tn_code ?_
      refine t_ret2 rfl rfl (res_tmp rfl) (res_tmp rfl) (fun w' s => ?_)
      first | (simp_all [payRate]; done) | (rw [payRate_some hb hhd hsm (by omega) hall (by assumption)]) | (rw [payRate_none hb hhd hsm hall])
    · try simp only [decide_eq_true_eq, decide_eq_false_iff_not, Bool.not_eq_true', Bool.not_eq_false', Int.not_lt, Int.not_le, ne_eq, Decidable.not_not] at h2
      try have h2b := inB_iff.1 h2
      have hhd := h2
      refine to_gt rfl rfl ?_
      refine to_mv rfl rfl ?_
      refine to_gt rfl rfl ?_
      refine to_call0 rfl rfl (fun w s => pay_isSum _ w) rfl ?_
      refine to_gt rfl rfl ?_
      refine to_not rfl rfl ?_
      refine to_pkF rfl rfl rfl ?_
      refine to_nil ?_
      refine tn_code ?_
      refine t_if rfl (fun h3 => ?_) (fun h3 => ?_)
      · try simp only [decide_eq_true_eq, decide_eq_false_iff_not, Bool.not_eq_true', Bool.not_eq_false', Int.not_lt, Int.not_le, ne_eq, Decidable.not_not] at h3
        try have h3b := inB_iff.1 h3
        refine t_seq ?_
        refine t_reg ?_
        refine to_as rfl rfl ?_
        refine to_as rfl rfl ?_
        refine to_nil ?_
        refine tn_code ?_
        refine t_ret2 rfl rfl (res_tmp rfl) (res_tmp rfl) (fun w' s => ?_)
        first | (simp_all [payRate]; done) | (rw [payRate_some hb hhd hsm (by omega) hall (by assumption)]) | (rw [payRate_none hb hhd hsm hall])
      · try simp only [decide_eq_true_eq, decide_eq_false_iff_not, Bool.not_eq_true', Bool.not_eq_false', Int.not_lt, Int.not_le, ne_eq, Decidable.not_not] at h3
        try have h3b := inB_iff.1 h3
        have hsm := h3
        refine t_skip ?_
        refine tn_code ?_
        refine t_seq ?_
        refine t_reg ?_
        refine to_as rfl rfl ?_
        refine to_nil ?_
        refine tn_code ?_
        refine t_seq ?_
        refine t_seq ?_
        refine t_reg ?_
        first | refine to_fa rfl rfl rfl (by simp only [Nat.reduceAdd]; rfl) rfl ?_ | refine to_fae rfl rfl rfl (by simp only [Nat.reduceAdd]; rfl) rfl ?_
        first | refine to_lds rfl rfl rfl ?_ | refine to_ldes rfl (by assumption) rfl rfl ?_
        refine to_lenS rfl rfl ?_
        refine to_mv rfl rfl ?_
        refine to_nil ?_
        refine tn_code ?_
        refine t_blk ?_
        refine t_nilrow 3 1 ?_
        refine t_loop2 (ι := Nat × Option Addr × Nat) (fun ((k, a', c') : Nat × Option Addr × Nat) => k ≤ b.lines.length) (fun ((k, a', c') : Nat × Option Addr × Nat) => [(1, .int .i64 h), (2, .int .i64 s0), (3, (.pointer (some ⟨b3, 0, none⟩))), (8, .slice a' k c'), (30, .slice a b.lines.length c), (31, .int .i64 (b.lines.length : Int)), (32, .int .i64 (k : Int))]) (fun ((k, a', c') : Nat × Option Addr × Nat) => [.row a' k c' 3 1 (ints ((endL b true).take k)), .own b3 (isC (bkC b a c) 24), .snap 0 w.heap.size w]) (fun ((k, a', c') : Nat × Option Addr × Nat) => b.lines.length - k) ((0, none, 0)) [.row none 0 0 3 1 [], .own b3 (isC (bkC b a c) 24), .snap 0 w.heap.size w] (rfl) (Nat.zero_le _) (⟨rfl, rfl, rfl, rfl, rfl, rfl, rfl, trivial⟩) ?_
        rintro ⟨k, a', c'⟩ hk
        try dsimp only at hk
        show T _ _ _ ⟨_, [(1, .int .i64 h), (2, .int .i64 s0), (3, (.pointer (some ⟨b3, 0, none⟩))), (8, .slice a' k c'), (30, .slice a b.lines.length c), (31, .int .i64 (b.lines.length : Int)), (32, .int .i64 (k : Int))], _⟩ [.row a' k c' 3 1 (ints ((endL b true).take k)), .own b3 (isC (bkC b a c) 24), .snap 0 w.heap.size w]
        refine t_seq ?_
        refine t_reg ?_
        refine to_lss rfl rfl rfl ?_
        refine to_nil ?_
        refine tn_code ?_
        refine t_seq ?_
        refine t_if rfl (fun h4 => ?_) (fun h4 => ?_)
        · try simp only [decide_eq_true_eq, decide_eq_false_iff_not, Bool.not_eq_true', Bool.not_eq_false', Int.not_lt, Int.not_le, ne_eq, Decidable.not_not] at h4
          try have h4b := inB_iff.1 h4
          obtain ⟨l, hl⟩ := some_get (xs := b.lines) (k := k) (by omega)
          have hx := map_get (f := linC) hl
          refine t_skip ?_
          refine tn_code ?_
          refine t_seq ?_
          refine t_blk ?_
          refine t_seq ?_
          refine t_reg ?_
          first | refine to_ix rfl rfl rfl (by first | omega | decide) (by first | omega | decide) rfl ?_ | refine to_ixi rfl rfl rfl (by omega) (by omega) (by omega) rfl ?_
          first | refine to_lda rfl rfl rfl ?_ | refine to_ldea rfl (by assumption) rfl rfl ?_
          refine to_alloc rfl (fun b10 => ?_)
          first | refine to_st rfl rfl rfl rfl ?_ | refine to_ste rfl rfl (by assumption) rfl rfl ?_
          refine to_nil ?_
          refine tn_code ?_
          refine t_reg ?_
          refine to_mv rfl rfl ?_
          first | refine to_fa rfl rfl rfl (by simp only [Nat.reduceAdd]; rfl) rfl ?_ | refine to_fae rfl rfl rfl (by simp only [Nat.reduceAdd]; rfl) rfl ?_
          first | refine to_fa rfl rfl rfl (by simp only [Nat.reduceAdd]; rfl) rfl ?_ | refine to_fae rfl rfl rfl (by simp only [Nat.reduceAdd]; rfl) rfl ?_
          first | refine to_lds rfl rfl rfl ?_ | refine to_ldes rfl (by assumption) rfl rfl ?_
          refine to_bsl rfl rfl rfl rfl (fun a40 => ?_)
          refine to_app rfl rfl rfl (by simp [scals, scal]) (by decide) (by omega) (by decide) rfl (fun a41 c41 => ?_)
          refine to_as rfl rfl ?_
          refine to_nil ?_
          refine tn_blk ?_
          refine tn_code ?_
          refine t_reg ?_
          refine to_add rfl rfl (by omega) rfl ?_
          refine to_mv rfl rfl ?_
          refine to_nil ?_
          exact tn_loop2 ((k + 1, a41, c41)) [.row a41 (k + 1) c41 3 1 (ints ((endL b true).take k) ++ [[.int .i64 l.hi]]), .own b3 (isC (bkC b a c) 24), .snap 0 w.heap.size w] (by dsimp only; rw [take_snoc (endL_get (m := true) hl), ints_snoc]; rfl) (by dsimp only; omega) (by dsimp only; omega) (⟨rfl, rfl, rfl, rfl, rfl, rfl, rfl, trivial⟩)
        · try simp only [decide_eq_true_eq, decide_eq_false_iff_not, Bool.not_eq_true', Bool.not_eq_false', Int.not_lt, Int.not_le, ne_eq, Decidable.not_not] at h4
          try have h4b := inB_iff.1 h4
          have hk2 : k = b.lines.length := by omega
          subst hk2
          have hta : (endL b true).take b.lines.length = (endL b true) := List.take_of_length_le (by rw [endL_len]; exact Nat.le_refl _)
          refine t_exit ?_
          refine tx_code ?_
          refine tx_inv ?_
          refine tx_blk ?_
          refine tn_code ?_
          refine t_seq ?_
          refine t_seq ?_
          refine t_reg ?_
          refine to_mv rfl rfl ?_
          refine to_nil ?_
          refine tn_code ?_
          refine t_blk ?_
          refine t_loop2 (ι := Nat) (fun r => r ≤ 801 ∧ ∀ j : Nat, j < r → toL (withS b j) (endL b true) h < s0) (fun r => [(1, .int .i64 h), (2, .int .i64 s0), (3, (.pointer (some ⟨b3, 0, none⟩))), (8, .slice a' b.lines.length c'), (43, .int .i64 (r : Int))]) (fun r => [.row a' b.lines.length c' 3 1 (ints ((endL b true).take b.lines.length)), .own b3 (isC (bkC b a c) 24), .snap 0 w.heap.size w]) (fun r => 801 - r) (0) [.row a' b.lines.length c' 3 1 (ints ((endL b true).take b.lines.length)), .own b3 (isC (bkC b a c) 24), .snap 0 w.heap.size w] (rfl) (⟨Nat.zero_le _, fun j hj => absurd hj (Nat.not_lt_zero _)⟩) (⟨rfl, rfl, rfl, rfl, rfl, trivial⟩) ?_
          rintro r ⟨hrk, hall⟩
          show T _ _ _ ⟨_, [(1, .int .i64 h), (2, .int .i64 s0), (3, (.pointer (some ⟨b3, 0, none⟩))), (8, .slice a' b.lines.length c'), (43, .int .i64 (r : Int))], _⟩ [.row a' b.lines.length c' 3 1 (ints ((endL b true).take b.lines.length)), .own b3 (isC (bkC b a c) 24), .snap 0 w.heap.size w]
          refine t_seq ?_
          refine t_reg ?_
          refine to_lss rfl rfl rfl ?_
          refine to_nil ?_
          refine tn_code ?_
          refine t_seq ?_
          refine t_if rfl (fun h5 => ?_) (fun h5 => ?_)
          · try simp only [decide_eq_true_eq, decide_eq_false_iff_not, Bool.not_eq_true', Bool.not_eq_false', Int.not_lt, Int.not_le, ne_eq, Decidable.not_not] at h5
            try have h5b := inB_iff.1 h5
            refine t_skip ?_
            refine tn_code ?_
            refine t_seq ?_
            refine t_blk ?_
            refine t_seq ?_
            refine t_reg ?_
            refine to_mv rfl rfl ?_
            refine to_as rfl rfl ?_
            refine to_nil ?_
            refine tn_code ?_
            refine t_seq ?_
            refine t_reg ?_
            first | refine to_lda rfl rfl rfl ?_ | refine to_ldea rfl (by assumption) rfl rfl ?_
            refine to_mv rfl rfl ?_
            refine to_bs rfl rfl ?_
            refine to_alloc rfl (fun b12 => ?_)
            first | refine to_st rfl rfl rfl rfl ?_ | refine to_ste rfl rfl (by assumption) rfl rfl ?_
            refine to_nil ?_
            refine tn_code ?_
            refine t_seq ?_
            refine t_reg ?_
            refine to_mv rfl rfl ?_
            first | refine to_fa rfl rfl rfl (by simp only [Nat.reduceAdd]; rfl) rfl ?_ | refine to_fae rfl rfl rfl (by simp only [Nat.reduceAdd]; rfl) rfl ?_
            first | refine to_fa rfl rfl rfl (by simp only [Nat.reduceAdd]; rfl) rfl ?_ | refine to_fae rfl rfl rfl (by simp only [Nat.reduceAdd]; rfl) rfl ?_
            first | refine to_st rfl rfl rfl rfl ?_ | refine to_ste rfl rfl (by assumption) rfl rfl ?_
            refine to_nil ?_
            refine tn_code ?_
            refine t_seq ?_
            refine t_reg ?_
            first | refine to_lda rfl rfl rfl ?_ | refine to_ldea rfl (by assumption) rfl rfl ?_
            refine to_mv rfl rfl ?_
            refine to_call0 rfl rfl (fun w s => (by have h9 := ac_paid (withS b r) a c (endL b true) a' c' h w (rdw s) (by rw [endL_len]; have := rdw s (a := a') (n := b.lines.length) (xs := ints ((endL b true).take b.lines.length)); rw [hta] at this; exact this) (withS_ok hb (by omega)) (endL_ok (b := b) hb true); simp only [acV, acC, endL_len] at h9; exact h9)) rfl ?_
            refine to_mv rfl rfl ?_
            refine to_geq rfl rfl rfl ?_
            refine to_nil ?_
            refine tn_code ?_
            refine t_if rfl (fun h6 => ?_) (fun h6 => ?_)
            · try simp only [decide_eq_true_eq, decide_eq_false_iff_not, Bool.not_eq_true', Bool.not_eq_false', Int.not_lt, Int.not_le, ne_eq, Decidable.not_not] at h6
              try have h6b := inB_iff.1 h6
              refine t_seq ?_
              refine t_reg ?_
              refine to_mv rfl rfl ?_
              refine to_as rfl rfl ?_
              refine to_as rfl rfl ?_
              refine to_nil ?_
              refine tn_code ?_
              refine t_ret2 rfl rfl (res_tmp rfl) (res_tmp rfl) (fun w' s => ?_)
              first | (simp_all [payRate]; done) | (rw [payRate_some hb hhd hsm (by omega) hall (by assumption)]) | (rw [payRate_none hb hhd hsm hall])
            · try simp only [decide_eq_true_eq, decide_eq_false_iff_not, Bool.not_eq_true', Bool.not_eq_false', Int.not_lt, Int.not_le, ne_eq, Decidable.not_not] at h6
              try have h6b := inB_iff.1 h6
              refine t_skip ?_
              refine tn_blk ?_
              refine tn_code ?_
              refine t_reg ?_
              refine to_add rfl rfl (by omega) rfl ?_
              refine to_mv rfl rfl ?_
              refine to_nil ?_
              exact tn_loop2 (r + 1) [.row a' b.lines.length c' 3 1 (ints ((endL b true).take b.lines.length)), .own b3 (isC (bkC b a c) 24), .snap 0 w.heap.size w] (rfl) (⟨by omega, all_succ hall (by omega)⟩) (by omega) (⟨rfl, rfl, rfl, rfl, rfl, trivial⟩)
          · try simp only [decide_eq_true_eq, decide_eq_false_iff_not, Bool.not_eq_true', Bool.not_eq_false', Int.not_lt, Int.not_le, ne_eq, Decidable.not_not] at h5
            try have h5b := inB_iff.1 h5
            have hr8 : r = 801 := by omega
            subst hr8
            refine t_exit ?_
            refine tx_code ?_
            refine tx_inv ?_
            refine tx_blk ?_
            refine tn_code ?_
            refine t_seq ?_
            refine t_reg ?_
            refine to_as rfl rfl ?_
            refine to_as rfl rfl ?_
            refine to_nil ?_
            refine tn_code ?_
            refine t_ret2 rfl rfl (res_tmp rfl) (res_tmp rfl) (fun w' s => ?_)
            first | (simp_all [payRate]; done) | (rw [payRate_some hb hhd hsm (by omega) hall (by assumption)]) | (rw [payRate_none hb hhd hsm hall])

end Go.Proofs

