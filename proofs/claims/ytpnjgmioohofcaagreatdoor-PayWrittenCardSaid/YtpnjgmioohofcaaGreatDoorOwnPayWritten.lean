/- PayWritten: for every input the law returns true, and each argument reads behind the call as it read before. Conditions: the package-level variables that the row lists hold what the program's text lays (tied by the card). -/
import Derived.Test.YtpnjgmioohofcaaGreatDoorOwnF
import Derived.Test.YtpnjgmioohofcaaGreatDoorOwnD
import Derived.LaidOnce
import Derived.SevenTiedAt
import Derived.Test.YtpnjgmioohofcaaGreatDoorTie
import Derived.Test.YtpnjgmioohofcaaGreatDoorCards
set_option linter.unusedVariables false
set_option linter.unusedSimpArgs false
namespace Go.Proofs
open Go Go.Sx Go.RowKit

theorem ieq_refl : ∀ {vs : List Value}, isI vs → ieq vs vs = true
  | [], _ => rfl
  | v :: vs, h => by
    obtain ⟨i, rfl⟩ := h v (List.mem_cons_self ..)
    have ih := ieq_refl (vs := vs) (fun u hu => h u (List.mem_cons_of_mem _ hu))
    simp only [ieq, ih, Bool.and_true]; simp
theorem isI_mon (m : Mon) : isI (monC m) := allI_isI rfl
theorem isI_span (s : Int × Int) : isI (spanC s) := allI_isI rfl
theorem far_t {m : Mon} (h : isMon m = true) : payFar m = (monN m, 0) := by simp [payFar, h]
theorem far_f {m : Mon} (h : isMon m = false) : payFar m = (0, 2) := by simp [payFar, h]
theorem mny_t {n : Int} (h : isSum n = true) : payMoney n = (monOf n, 0) := by simp [payMoney, h]
theorem mny_f {n : Int} (h : isSum n = false) : payMoney n = (⟨0, 0, 0, 0⟩, 2) := by simp [payMoney, h]
theorem c_far_t {m : Mon} (h : isMon m = true) (w : World) : Calls Tryz.prog 15 #[monV m] w (RetV w (.tuple #[.int .i64 (monN m), .int .i64 0])) := by
  have := pay_Farthings m w
  rw [far_t h] at this; exact this
theorem c_far_f {m : Mon} (h : isMon m = false) (w : World) : Calls Tryz.prog 15 #[monV m] w (RetV w (.tuple #[.int .i64 0, .int .i64 2])) := by
  have := pay_Farthings m w
  rw [far_f h] at this; exact this
theorem c_mny_t {n : Int} (h : isSum n = true) (w : World) : Calls Tryz.prog 16 #[.int .i64 n] w (RetV w (.tuple #[monV (monOf n), .int .i64 0])) := by
  have := pay_Money n w
  rw [mny_t h] at this; exact this
theorem c_mny_f {n : Int} (h : isSum n = false) (w : World) : Calls Tryz.prog 16 #[.int .i64 n] w (RetV w (.tuple #[monV ⟨0, 0, 0, 0⟩, .int .i64 2])) := by
  have := pay_Money n w
  rw [mny_f h] at this; exact this
theorem bool_tf (b : Bool) : b = true ∨ b = false := by cases b <;> simp

end Go.Proofs


namespace Go.Proofs
open Go Go.Sx Go.RowKit

set_option maxRecDepth 20000 in
theorem ref_Owes (b : Bk) (a : Option Addr) (c : Nat) (k : Nat) (l : Lin) (e : Int) (w : World) (hr : Ro w 0 w.heap.size a b.lines.length c 10 (b.lines.map linC)) (hb : isBk b = true) (hl : b.lines[k]? = some l) (he : 0 ≤ e ∧ e ≤ 20) : Calls Tryz.prog 38 #[bkV b a c, (.int .i64 (k : Int)), (.int .i64 e)] w (RetV w (.int .i64 (owesL b l e))) := by
  have hx := map_get (f := linC) hl
  have hp := prodB hb (List.mem_of_getElem? hl) he
  have hkl := (List.getElem?_eq_some_iff.1 hl).1
  have hbb := isBk_b hb
  refine calls_T0 (av := [_, _, _]) Tryz.func38 rfl rfl rfl ?_
  refine t_seq ?_
  refine t_reg ?_
  refine to_box rfl rfl (fun b3 => ?_)
  refine to_as rfl rfl ?_
  refine to_nil ?_
  refine tn_code ?_
  refine t_seq ?_
  refine t_reg ?_
  first | refine to_fa rfl rfl rfl (by simp only [Nat.reduceAdd]; rfl) rfl ?_ | refine to_fae rfl rfl rfl (by simp only [Nat.reduceAdd]; rfl) rfl ?_
  first | refine to_lds rfl rfl rfl ?_ | refine to_ldes rfl (by assumption) rfl rfl ?_
  refine to_mv rfl rfl ?_
  first | refine to_ix rfl rfl rfl (by first | omega | decide) (by first | omega | decide) rfl ?_ | refine to_ixi rfl rfl rfl (by omega) (by omega) (by omega) rfl ?_
  first | refine to_lda rfl rfl rfl ?_ | refine to_ldea rfl (by assumption) rfl rfl ?_
  refine to_alloc rfl (fun b7 => ?_)
  first | refine to_st rfl rfl rfl rfl ?_ | refine to_ste rfl rfl (by assumption) rfl rfl ?_
  refine to_nil ?_
  refine tn_code ?_
  refine t_seq ?_
  refine t_reg ?_
  first | refine to_fa rfl rfl rfl (by simp only [Nat.reduceAdd]; rfl) rfl ?_ | refine to_fae rfl rfl rfl (by simp only [Nat.reduceAdd]; rfl) rfl ?_
  first | refine to_lds rfl rfl rfl ?_ | refine to_ldes rfl (by assumption) rfl rfl ?_
  first | refine to_fa rfl rfl rfl (by simp only [Nat.reduceAdd]; rfl) rfl ?_ | refine to_fae rfl rfl rfl (by simp only [Nat.reduceAdd]; rfl) rfl ?_
  first | refine to_lds rfl rfl rfl ?_ | refine to_ldes rfl (by assumption) rfl rfl ?_
  refine to_mul rfl rfl (by first | omega | exact mul_ok (by omega) (by omega) (by omega) (by omega)) rfl ?_
  first | refine to_fa rfl rfl rfl (by simp only [Nat.reduceAdd]; rfl) rfl ?_ | refine to_fae rfl rfl rfl (by simp only [Nat.reduceAdd]; rfl) rfl ?_
  first | refine to_lds rfl rfl rfl ?_ | refine to_ldes rfl (by assumption) rfl rfl ?_
  refine to_mv rfl rfl ?_
  refine to_mul rfl rfl (by first | omega | exact mul_ok (by omega) (by omega) (by omega) (by omega)) rfl ?_
  refine to_sub rfl rfl (by omega) rfl ?_
  refine to_max rfl rfl rfl ?_
  first | refine to_fa rfl rfl rfl (by simp only [Nat.reduceAdd]; rfl) rfl ?_ | refine to_fae rfl rfl rfl (by simp only [Nat.reduceAdd]; rfl) rfl ?_
  first | refine to_lds rfl rfl rfl ?_ | refine to_ldes rfl (by assumption) rfl rfl ?_
  first | refine to_fa rfl rfl rfl (by simp only [Nat.reduceAdd]; rfl) rfl ?_ | refine to_fae rfl rfl rfl (by simp only [Nat.reduceAdd]; rfl) rfl ?_
  first | refine to_lds rfl rfl rfl ?_ | refine to_ldes rfl (by assumption) rfl rfl ?_
  refine to_mul rfl rfl (by first | omega | exact mul_ok (by omega) (by omega) (by omega) (by omega)) rfl ?_
  refine to_add rfl rfl (by omega) rfl ?_
  first | refine to_fa rfl rfl rfl (by simp only [Nat.reduceAdd]; rfl) rfl ?_ | refine to_fae rfl rfl rfl (by simp only [Nat.reduceAdd]; rfl) rfl ?_
  first | refine to_lds rfl rfl rfl ?_ | refine to_ldes rfl (by assumption) rfl rfl ?_
  first | refine to_fa rfl rfl rfl (by simp only [Nat.reduceAdd]; rfl) rfl ?_ | refine to_fae rfl rfl rfl (by simp only [Nat.reduceAdd]; rfl) rfl ?_
  first | refine to_lds rfl rfl rfl ?_ | refine to_ldes rfl (by assumption) rfl rfl ?_
  refine to_mul rfl rfl (by first | omega | exact mul_ok (by omega) (by omega) (by omega) (by omega)) rfl ?_
  refine to_add rfl rfl (by omega) rfl ?_
  refine to_as rfl rfl ?_
  refine to_nil ?_
  refine tn_code ?_
  refine t_ret1 rfl rfl (res_tmp rfl) (fun w' s => ?_)
  rfl

def RCar (xs ys : List Int) : Nat → World → Value → Prop := fun lo w1 v => ∃ a1 c1 a2 c2, v = .tuple #[.slice a1 xs.length c1, .slice a2 ys.length c2] ∧ Ro w1 lo w1.heap.size a1 xs.length c1 1 (ints xs) ∧ Ro w1 lo w1.heap.size a2 ys.length c2 1 (ints ys)

set_option maxRecDepth 20000 in
theorem ref_carried (b : Bk) (a : Option Addr) (c : Nat) (t : List Int) (ta : Option Addr) (tc : Nat) (w : World) (hr : Ro w 0 w.heap.size a b.lines.length c 10 (b.lines.map linC)) (hrt : Ro w 0 w.heap.size ta t.length tc 1 (ints t)) (hb : isBk b = true) (htr : truOk b.lines t = true) : Calls Tryz.prog 70 #[bkV b a c, .slice ta t.length tc] w (Ret w (RCar (paysL b t) (restL (restF b t) b.hands.toNat))) := by
  have hlen := (truOk_iff.1 htr).1
  have hbb := isBk_b hb
  have hpl := paysL_len hlen
  refine calls_T (av := [_, _]) Tryz.func70 rfl rfl rfl ?_
  refine t_seq ?_
  refine t_reg ?_
  refine to_box rfl rfl (fun b2 => ?_)
  refine to_as rfl rfl ?_
  refine to_as rfl rfl ?_
  refine to_nil ?_
  refine tn_code ?_
  refine t_seq ?_
  refine t_reg ?_
  first | refine to_fa rfl rfl rfl (by simp only [Nat.reduceAdd]; rfl) rfl ?_ | refine to_fae rfl rfl rfl (by simp only [Nat.reduceAdd]; rfl) rfl ?_
  first | refine to_lds rfl rfl rfl ?_ | refine to_ldes rfl (by assumption) rfl rfl ?_
  refine to_mksi rfl rfl (by omega) (by omega) (by decide) rfl (fun a14 => ?_)
  refine to_as rfl rfl ?_
  refine to_nil ?_
  refine tn_code ?_
  refine t_seq ?_
  refine t_reg ?_
  refine to_as rfl rfl ?_
  refine to_nil ?_
  refine tn_code ?_
  refine t_seq ?_
  refine t_seq ?_
  refine t_reg ?_
  refine to_as rfl rfl ?_
  refine to_nil ?_
  refine tn_code ?_
  refine t_blk ?_
  refine t_nilrow 3 1 ?_
  refine t_loop2 (ι := Nat × Option Addr × Nat) (fun ((k, a', c') : Nat × Option Addr × Nat) => k ≤ b.lines.length) (fun ((k, a', c') : Nat × Option Addr × Nat) => [(1, .slice ta t.length tc), (2, (.pointer (some ⟨b2, 0, none⟩))), (6, .slice a14 b.hands.toNat b.hands.toNat), (7, .slice a' k c'), (8, .int .i64 (k : Int))]) (fun ((k, a', c') : Nat × Option Addr × Nat) => [.row a' k c' 3 1 (ints (payK b t k).1), .row a14 b.hands.toNat b.hands.toNat 3 1 (ints (restL (payK b t k).2 b.hands.toNat)), .own b2 (isC (bkC b a c) 40), .snap 0 w.heap.size w]) (fun ((k, a', c') : Nat × Option Addr × Nat) => b.lines.length - k) ((0, none, 0)) [.row none 0 0 3 1 [], .row a14 b.hands.toNat b.hands.toNat 3 1 (List.replicate b.hands.toNat [Value.int .i64 0]), .own b2 (isC (bkC b a c) 40), .snap 0 w.heap.size w] (by rw [restL_zero]; rfl) (Nat.zero_le _) (⟨rfl, rfl, rfl, rfl, rfl, trivial⟩) ?_
  rintro ⟨k, a', c'⟩ hk
  try dsimp only at hk
  show T _ _ _ ⟨_, [(1, .slice ta t.length tc), (2, (.pointer (some ⟨b2, 0, none⟩))), (6, .slice a14 b.hands.toNat b.hands.toNat), (7, .slice a' k c'), (8, .int .i64 (k : Int))], _⟩ [.row a' k c' 3 1 (ints (payK b t k).1), .row a14 b.hands.toNat b.hands.toNat 3 1 (ints (restL (payK b t k).2 b.hands.toNat)), .own b2 (isC (bkC b a c) 40), .snap 0 w.heap.size w]
  refine t_seq ?_
  refine t_seq ?_
  refine t_reg ?_
  refine to_mv rfl rfl ?_
  refine to_mv rfl rfl ?_
  refine to_lenS rfl rfl ?_
  refine to_lss rfl rfl rfl ?_
  refine to_nil ?_
  refine tn_code ?_
  refine t_if rfl (fun h1 => ?_) (fun h1 => ?_)
  · try simp only [decide_eq_true_eq, decide_eq_false_iff_not, Bool.not_eq_true', Bool.not_eq_false', Int.not_lt, Int.not_le, ne_eq, Decidable.not_not] at h1
    try have h1b := inB_iff.1 h1
    obtain ⟨l, hl⟩ := some_get (xs := b.lines) (k := k) (by omega)
    obtain ⟨e, he⟩ := some_get (xs := t) (k := k) (by omega)
    have hx := map_get (f := linC) hl
    have hx2 := map_get (f := intC) he
    have hin := (truOk_e hb htr hl he).2
    have hlb := isLin_b (isBk_l hb (List.mem_of_getElem? hl))
    have hq0 : 0 ≤ l.hand ∧ l.hand < (b.hands.toNat : Nat) := by omega
    have hx3 := map_get (f := intC) (restL_at (g := (payK b t k).2) hq0.1 hq0.2)
    have hob := owesL_b hb (List.mem_of_getElem? hl) hin
    have hkb := payK_b (t := t) hb k l.hand
    have hmd := emod_bd (owesL b l e + (payK b t k).2 l.hand) (b := b.unit) (by omega)
    refine t_skip ?_
    refine tn_code ?_
    refine t_seq ?_
    refine t_blk ?_
    refine t_seq ?_
    refine t_reg ?_
    first | refine to_fa rfl rfl rfl (by simp only [Nat.reduceAdd]; rfl) rfl ?_ | refine to_fae rfl rfl rfl (by simp only [Nat.reduceAdd]; rfl) rfl ?_
    first | refine to_lds rfl rfl rfl ?_ | refine to_ldes rfl (by assumption) rfl rfl ?_
    refine to_mv rfl rfl ?_
    first | refine to_ix rfl rfl rfl (by first | omega | decide) (by first | omega | decide) rfl ?_ | refine to_ixi rfl rfl rfl (by omega) (by omega) (by omega) rfl ?_
    first | refine to_fa rfl rfl rfl (by simp only [Nat.reduceAdd]; rfl) rfl ?_ | refine to_fae rfl rfl rfl (by simp only [Nat.reduceAdd]; rfl) rfl ?_
    first | refine to_lds rfl rfl rfl ?_ | refine to_ldes rfl (by assumption) rfl rfl ?_
    refine to_as rfl rfl ?_
    refine to_nil ?_
    refine tn_code ?_
    refine t_seq ?_
    refine t_regD rfl (by kernel_rfl) (by kernel_rfl) ?_
    first | refine to_lda rfl rfl rfl ?_ | refine to_ldea rfl (by assumption) rfl rfl ?_
    refine to_mv rfl rfl ?_
    refine to_mv rfl rfl ?_
    refine to_mv rfl rfl ?_
    first | refine to_ix rfl rfl rfl (by first | omega | decide) (by first | omega | decide) rfl ?_ | refine to_ixi rfl rfl rfl (by omega) (by omega) (by omega) rfl ?_
    first | refine to_lds rfl rfl rfl ?_ | refine to_ldes rfl (by assumption) rfl rfl ?_
    refine to_call0 rfl rfl (fun w s => ref_Owes b a c k l e w (rdw s) hb hl hin) rfl ?_
    refine to_mv rfl rfl ?_
    refine to_mv rfl rfl ?_
    first | refine to_ix rfl rfl rfl (by first | omega | decide) (by first | omega | decide) rfl ?_ | refine to_ixi rfl rfl rfl (by omega) (by omega) (by omega) rfl ?_
    first | refine to_lds rfl rfl rfl ?_ | refine to_ldes rfl (by assumption) rfl rfl ?_
    refine to_add rfl rfl (by omega) rfl ?_
    refine to_as rfl rfl ?_
    refine to_nil ?_
    refine tn_code ?_
    refine t_seq ?_
    refine t_reg ?_
    refine to_mv rfl rfl ?_
    first | refine to_fa rfl rfl rfl (by simp only [Nat.reduceAdd]; rfl) rfl ?_ | refine to_fae rfl rfl rfl (by simp only [Nat.reduceAdd]; rfl) rfl ?_
    first | refine to_lds rfl rfl rfl ?_ | refine to_ldes rfl (by assumption) rfl rfl ?_
    refine to_rem rfl rfl (by omega) (by omega) rfl ?_
    refine to_as rfl rfl ?_
    refine to_nil ?_
    refine tn_code ?_
    refine t_seq ?_
    refine t_reg ?_
    refine to_mv rfl rfl ?_
    refine to_mv rfl rfl ?_
    refine to_mv rfl rfl ?_
    first | refine to_ix rfl rfl rfl (by first | omega | decide) (by first | omega | decide) rfl ?_ | refine to_ixi rfl rfl rfl (by omega) (by omega) (by omega) rfl ?_
    first | refine to_st rfl rfl rfl rfl ?_ | refine to_ste rfl rfl (by assumption) rfl rfl ?_
    refine to_nil ?_
    refine tn_code ?_
    refine t_reg ?_
    refine to_mv rfl rfl ?_
    refine to_mv rfl rfl ?_
    refine to_mv rfl rfl ?_
    refine to_sub rfl rfl (by omega) rfl ?_
    refine to_bsl rfl rfl rfl rfl (fun a51 => ?_)
    refine to_app rfl rfl rfl (by simp [scals, scal]) (by decide) (by omega) (by decide) rfl (fun a52 c52 => ?_)
    refine to_as rfl rfl ?_
    refine to_nil ?_
    refine tn_blk ?_
    refine tn_code ?_
    refine t_reg ?_
    refine to_mv rfl rfl ?_
    refine to_add rfl rfl (by omega) rfl ?_
    refine to_as rfl rfl ?_
    refine to_nil ?_
    exact tn_loop2 ((k + 1, a52, c52)) [.row a52 (k + 1) c52 3 1 (ints (payK b t k).1 ++ [[.int .i64 ((owesL b l e + (payK b t k).2 l.hand) - (owesL b l e + (payK b t k).2 l.hand) % b.unit)]]), .row a14 b.hands.toNat b.hands.toNat 3 1 ((ints (restL (payK b t k).2 b.hands.toNat)).set l.hand.toNat [Value.int .i64 ((owesL b l e + (payK b t k).2 l.hand) % b.unit)]), .own b2 (isC (bkC b a c) 40), .snap 0 w.heap.size w] (by dsimp only; rw [payK_succ hl he, ints_snoc, restL_put hq0.1 hq0.2]) (by dsimp only; omega) (by dsimp only; omega) (⟨rfl, rfl, rfl, rfl, rfl, trivial⟩)
  · try simp only [decide_eq_true_eq, decide_eq_false_iff_not, Bool.not_eq_true', Bool.not_eq_false', Int.not_lt, Int.not_le, ne_eq, Decidable.not_not] at h1
    try have h1b := inB_iff.1 h1
    have hk2 : k = b.lines.length := by omega
    subst hk2
    refine t_exit ?_
    refine tx_code ?_
    refine tx_inv ?_
    refine tx_blk ?_
    refine tn_code ?_
    refine t_seq ?_
    refine t_reg ?_
    refine to_mv rfl rfl ?_
    refine to_mv rfl rfl ?_
    refine to_as rfl rfl ?_
    refine to_as rfl rfl ?_
    refine to_nil ?_
    refine tn_code ?_
    refine t_ret2 rfl rfl (res_tmp rfl) (res_tmp rfl) (fun w' s => ?_)
    rw [RCar, paysL_len hlen, restL_len]
    exact ⟨_, _, _, _, rfl, ro_row s, ro_row s⟩

set_option maxRecDepth 20000 in
theorem ref_Pays (b : Bk) (a : Option Addr) (c : Nat) (t : List Int) (ta : Option Addr) (tc : Nat) (w : World) (hr : Ro w 0 w.heap.size a b.lines.length c 10 (b.lines.map linC)) (hrt : Ro w 0 w.heap.size ta t.length tc 1 (ints t)) (hb : isBk b = true) (htr : truOk b.lines t = true) : Calls Tryz.prog 30 #[bkV b a c, .slice ta t.length tc] w (Ret w (RSl (paysL b t))) := by
  refine calls_T (av := [_, _]) Tryz.func30 rfl rfl rfl ?_
  refine t_seq ?_
  refine t_reg ?_
  refine to_box rfl rfl (fun b2 => ?_)
  refine to_as rfl rfl ?_
  refine to_nil ?_
  refine tn_code ?_
  refine t_seq ?_
  refine t_reg ?_
  first | refine to_lda rfl rfl rfl ?_ | refine to_ldea rfl (by assumption) rfl rfl ?_
  refine to_mv rfl rfl ?_
  refine to_callR rfl rfl (fun w s => ref_carried b a c t ta tc w (rdw s) (rdw s) hb htr) rfl (fun v10 lo10 w10 hlo10 hR10 => ?_)
  obtain ⟨pa10, pc10, qa10, qc10, rfl, hro10, hrq10⟩ := hR10
  refine to_mv rfl rfl ?_
  refine to_ex rfl rfl rfl ?_
  refine to_ex rfl rfl rfl ?_
  refine to_as rfl rfl ?_
  refine to_as rfl rfl ?_
  refine to_nil ?_
  refine tn_code ?_
  refine t_seq ?_
  refine t_reg ?_
  refine to_mv rfl rfl ?_
  refine to_as rfl rfl ?_
  refine to_nil ?_
  refine tn_code ?_
  refine t_ret1 rfl rfl (res_tmp rfl) (fun w' s => ?_)
  exact ⟨_, _, rfl, ro_snap s hlo10⟩

set_option maxRecDepth 20000 in
theorem ref_Rest (b : Bk) (a : Option Addr) (c : Nat) (t : List Int) (ta : Option Addr) (tc : Nat) (h : Int) (w : World) (hr : Ro w 0 w.heap.size a b.lines.length c 10 (b.lines.map linC)) (hrt : Ro w 0 w.heap.size ta t.length tc 1 (ints t)) (hb : isBk b = true) (htr : truOk b.lines t = true) (hh : 0 ≤ h ∧ h ≤ b.hands - 1) : Calls Tryz.prog 32 #[bkV b a c, .slice ta t.length tc, (.int .i64 h)] w (RetV w (.int .i64 (restF b t h))) := by
  have hbb := isBk_b hb
  have hx3 := map_get (f := intC) (restL_at (g := restF b t) (h := b.hands.toNat) hh.1 (by omega))
  have hrl := restL_len (restF b t) b.hands.toNat
  refine calls_T0 (av := [_, _, _]) Tryz.func32 rfl rfl rfl ?_
  refine t_seq ?_
  refine t_reg ?_
  refine to_box rfl rfl (fun b3 => ?_)
  refine to_as rfl rfl ?_
  refine to_nil ?_
  refine tn_code ?_
  refine t_seq ?_
  refine t_reg ?_
  first | refine to_lda rfl rfl rfl ?_ | refine to_ldea rfl (by assumption) rfl rfl ?_
  refine to_mv rfl rfl ?_
  refine to_callR rfl rfl (fun w s => ref_carried b a c t ta tc w (rdw s) (rdw s) hb htr) rfl (fun v12 lo12 w12 hlo12 hR12 => ?_)
  obtain ⟨pa12, pc12, qa12, qc12, rfl, hro12, hrq12⟩ := hR12
  refine to_mv rfl rfl ?_
  refine to_ex rfl rfl rfl ?_
  refine to_ex rfl rfl rfl ?_
  refine to_as rfl rfl ?_
  refine to_as rfl rfl ?_
  refine to_nil ?_
  refine tn_code ?_
  refine t_seq ?_
  refine t_reg ?_
  refine to_mv rfl rfl ?_
  refine to_mv rfl rfl ?_
  first | refine to_ix rfl rfl rfl (by first | omega | decide) (by first | omega | decide) rfl ?_ | refine to_ixi rfl rfl rfl (by omega) (by omega) (by omega) rfl ?_
  first | refine to_lds rfl rfl rfl ?_ | refine to_ldes rfl (by assumption) rfl rfl ?_
  refine to_as rfl rfl ?_
  refine to_nil ?_
  refine tn_code ?_
  refine t_ret1 rfl rfl (res_tmp rfl) (fun w' s => ?_)
  rfl

end Go.Proofs


namespace Go.Proofs
open Go Go.Sx Go.RowKit

theorem monN_b {m : Mon} (h : isMon m = true) : 0 ≤ monN m ∧ monN m ≤ 959999 := by
  have := isMon_b h
  simp only [monN]; omega
theorem monN_s {m : Mon} (h : isMon m = true) : isSum (monN m) = true := by
  have := monN_b h
  simp only [isSum]; exact inB_iff.2 this
theorem monOf_m {n : Int} (h : isSum n = true) : isMon (monOf n) = true := by
  have := isSum_b h
  simp only [isMon, monOf, Bool.and_eq_true, inB_iff]
  omega
theorem monN_of {n : Int} (h : isSum n = true) : monN (monOf n) = n := by
  have := isSum_b h
  simp only [monN, monOf]
  omega
theorem monOf_N {m : Mon} (h : isMon m = true) : monOf (monN m) = m := by
  obtain ⟨p, s, d, f⟩ := m
  have := isMon_b h
  simp only [monOf, monN, Mon.mk.injEq] at this ⊢
  omega
theorem bef_mon {m o : Mon} (hm : isMon m = true) (ho : isMon o = true) : befI [m.p, m.s, m.d, m.f] [o.p, o.s, o.d, o.f] = decide (monN m < monN o) := by
  have h1 := isMon_b hm
  have h2 := isMon_b ho
  have e : befI [m.p, m.s, m.d, m.f] [o.p, o.s, o.d, o.f] = true ↔ monN m < monN o := by
    simp only [befI, monN]
    split
    · split
      · split
        · split
          · simp; omega
          · rw [decide_eq_true_eq]; omega
        · rw [decide_eq_true_eq]; omega
      · rw [decide_eq_true_eq]; omega
    · rw [decide_eq_true_eq]; omega
  rw [Bool.eq_iff_iff, e, decide_eq_true_eq]
theorem c_far_of {n : Int} (h : isSum n = true) (w : World) : Calls Tryz.prog 15 #[monV (monOf n)] w (RetV w (.tuple #[.int .i64 n, .int .i64 0])) := by
  have := c_far_t (monOf_m h) w
  rw [monN_of h] at this; exact this
theorem c_mny_N {m : Mon} (h : isMon m = true) (w : World) : Calls Tryz.prog 16 #[.int .i64 (monN m)] w (RetV w (.tuple #[monV m, .int .i64 0])) := by
  have := c_mny_t (monN_s h) w
  rw [monOf_N h] at this; exact this
theorem c_far_inc {m : Mon} (h : isMon m = true) (h3 : ¬ m.f = 3) (w : World) : Calls Tryz.prog 15 #[monV ⟨m.p, m.s, m.d, m.f + 1⟩] w (RetV w (.tuple #[.int .i64 (monN m + 1), .int .i64 0])) := by
  have hb := isMon_b h
  have hm : isMon ⟨m.p, m.s, m.d, m.f + 1⟩ = true := by
    simp only [isMon, Bool.and_eq_true, inB_iff]; omega
  have := c_far_t hm w
  rw [show monN ⟨m.p, m.s, m.d, m.f + 1⟩ = monN m + 1 from by simp only [monN]; omega] at this; exact this

end Go.Proofs


namespace Go.Proofs
open Go Go.Sx Go.RowKit

theorem pays_t {b : Bk} {t : List Int} (hb : isBk b = true) (ht : truOk b.lines t = true) : payPays b t = (paysL b t, 0) := by simp [payPays, hb, ht]
theorem pays_f {b : Bk} {t : List Int} (h : (isBk b && truOk b.lines t) = false) : payPays b t = ([], 2) := by simp only [payPays, h, Bool.false_eq_true, if_false]
theorem rest_t {b : Bk} {t : List Int} {h : Int} (hb : isBk b = true) (ht : truOk b.lines t = true) (hh : inB h 0 (b.hands - 1) = true) : payRest b t h = (restF b t h, 0) := by simp [payRest, hb, ht, hh]
theorem rest_f {b : Bk} {t : List Int} {h : Int} (hf : (isBk b && truOk b.lines t) = false) : payRest b t h = (0, 2) := by simp only [payRest, hf, Bool.false_and, Bool.false_eq_true, if_false]
theorem rest_h {b : Bk} {t : List Int} {h : Int} (hh : inB h 0 (b.hands - 1) = false) : payRest b t h = (0, 2) := by simp [payRest, hh]
section
variable {b : Bk} {a : Option Addr} {c : Nat} {t : List Int} {ta : Option Addr} {tc : Nat} {h : Int} {w : World}
theorem c_pays_t (hr : Ro w 0 w.heap.size a b.lines.length c 10 (b.lines.map linC)) (hrt : Ro w 0 w.heap.size ta t.length tc 1 (ints t)) (hb : isBk b = true) (ht : truOk b.lines t = true) : Calls Tryz.prog 25 #[bkV b a c, .slice ta t.length tc] w (Ret w (RSlE (paysL b t) 0)) := by
  have := pay_Pays b a c t ta tc w hr hrt
  rw [pays_t hb ht] at this; exact this
theorem c_pays_f (hr : Ro w 0 w.heap.size a b.lines.length c 10 (b.lines.map linC)) (hrt : Ro w 0 w.heap.size ta t.length tc 1 (ints t)) (hf : (isBk b && truOk b.lines t) = false) : Calls Tryz.prog 25 #[bkV b a c, .slice ta t.length tc] w (Ret w (RSlE [] 2)) := by
  have := pay_Pays b a c t ta tc w hr hrt
  rw [pays_f hf] at this; exact this
theorem c_rest_t (hr : Ro w 0 w.heap.size a b.lines.length c 10 (b.lines.map linC)) (hrt : Ro w 0 w.heap.size ta t.length tc 1 (ints t)) (hb : isBk b = true) (ht : truOk b.lines t = true) (hh : inB h 0 (b.hands - 1) = true) : Calls Tryz.prog 26 #[bkV b a c, .slice ta t.length tc, .int .i64 h] w (RetV w (.tuple #[.int .i64 (restF b t h), .int .i64 0])) := by
  have := pay_Rest b a c t ta tc h w hr hrt
  rw [rest_t hb ht hh] at this; exact this
theorem c_rest_f (hr : Ro w 0 w.heap.size a b.lines.length c 10 (b.lines.map linC)) (hrt : Ro w 0 w.heap.size ta t.length tc 1 (ints t)) (hf : payRest b t h = (0, 2)) : Calls Tryz.prog 26 #[bkV b a c, .slice ta t.length tc, .int .i64 h] w (RetV w (.tuple #[.int .i64 0, .int .i64 2])) := by
  have := pay_Rest b a c t ta tc h w hr hrt
  rw [hf] at this; exact this
end

end Go.Proofs


namespace Go.Proofs
open Go Go.Sx Go.RowKit

/-! # Plain laws of truths -/

def SpInv (of : List Int → Int) (is : List Int → Bool) (seen : List (List Int)) : Option (Int × Int) → Prop
  | none => ∀ t ∈ seen, is t = false
  | some s => (∃ t ∈ seen, is t = true ∧ of t = s.1) ∧ (∃ t ∈ seen, is t = true ∧ of t = s.2) ∧ ∀ t ∈ seen, is t = true → s.1 ≤ of t ∧ of t ≤ s.2
theorem sp_step {of : List Int → Int} {is : List Int → Bool} {seen : List (List Int)} {st : Option (Int × Int)} (h : SpInv of is seen st) (t : List Int) : SpInv of is (seen ++ [t]) (stepE of is st t) := by
  have hm : ∀ u, u ∈ seen ++ [t] ↔ u ∈ seen ∨ u = t := fun u => by simp
  by_cases ht : is t = true
  · cases st with
    | none =>
      simp only [stepE, ht, if_true, SpInv, Int.min_self, Int.max_self]
      refine ⟨⟨t, by simp, ht, rfl⟩, ⟨t, by simp, ht, rfl⟩, fun u hu hi => ?_⟩
      rcases (hm u).1 hu with h1 | rfl
      · have := h u h1; rw [hi] at this; cases this
      · exact ⟨Int.le_refl _, Int.le_refl _⟩
    | some s =>
      simp only [stepE, ht, if_true, SpInv]
      obtain ⟨⟨u1, h1, h2, h3⟩, ⟨u2, h4, h5, h6⟩, h7⟩ := h
      have e1 := Int.min_def s.1 (of t)
      have e2 := Int.max_def s.2 (of t)
      refine ⟨?_, ?_, fun u hu hi => ?_⟩
      · by_cases hle : s.1 ≤ of t
        · exact ⟨u1, (hm _).2 (.inl h1), h2, by rw [e1, if_pos hle]; exact h3⟩
        · exact ⟨t, by simp, ht, by rw [e1, if_neg hle]⟩
      · by_cases hle : s.2 ≤ of t
        · exact ⟨t, by simp, ht, by rw [e2, if_pos hle]⟩
        · exact ⟨u2, (hm _).2 (.inl h4), h5, by rw [e2, if_neg hle]; exact h6⟩
      · rcases (hm u).1 hu with h1 | rfl
        · have := h7 u h1 hi; omega
        · omega
  · have hf : is t = false := by simpa using ht
    have : stepE of is st t = st := by simp [stepE, hf]
    rw [this]
    cases st with
    | none =>
      intro u hu
      rcases (hm u).1 hu with h1 | rfl
      · exact h u h1
      · exact hf
    | some s =>
      obtain ⟨⟨u1, h1, h2, h3⟩, ⟨u2, h4, h5, h6⟩, h7⟩ := h
      refine ⟨⟨u1, (hm _).2 (.inl h1), h2, h3⟩, ⟨u2, (hm _).2 (.inl h4), h5, h6⟩, fun u hu hi => ?_⟩
      rcases (hm u).1 hu with h1 | rfl
      · exact h7 u h1 hi
      · rw [hf] at hi; cases hi
theorem sp_fold {of : List Int → Int} {is : List Int → Bool} : ∀ (L seen : List (List Int)) (st : Option (Int × Int)), SpInv of is seen st → SpInv of is (seen ++ L) (L.foldl (stepE of is) st)
  | [], seen, st, h => by simpa using h
  | t :: L, seen, st, h => by
    have := sp_fold L (seen ++ [t]) (stepE of is st t) (sp_step h t)
    simpa using this
theorem sp_inv (of : List Int → Int) (is : List Int → Bool) (L : List (List Int)) : SpInv of is L (spF of is L) := by
  have := sp_fold (of := of) (is := is) L [] none (fun t h => by cases h)
  simpa [spF] using this
theorem sp_none {of : List Int → Int} {is : List Int → Bool} {L : List (List Int)} (h : ∀ t ∈ L, is t = false) : spF of is L = none := by
  have := sp_inv of is L
  cases hq : spF of is L with
  | none => rfl
  | some s =>
    rw [hq] at this
    obtain ⟨⟨t, h1, h2, _⟩, _⟩ := this
    rw [h t h1] at h2; cases h2
theorem sp_some {of : List Int → Int} {is : List Int → Bool} {L : List (List Int)} {t : List Int} (h : t ∈ L) (hi : is t = true) : ∃ s, spF of is L = some s ∧ SpInv of is L (some s) := by
  have := sp_inv of is L
  cases hq : spF of is L with
  | none => rw [hq] at this; have := this t h; rw [hi] at this; cases this
  | some s => rw [hq] at this; exact ⟨s, rfl, this⟩
/-- Where two truths are the ends. -/
theorem sp_ends {of : List Int → Int} {L : List (List Int)} {u v : List Int} (hu : u ∈ L) (hv : v ∈ L) (h : ∀ t ∈ L, of u ≤ of t ∧ of t ≤ of v) : spF of (fun _ => true) L = some (of u, of v) := by
  obtain ⟨s, h1, ⟨t1, h2, _, h3⟩, ⟨t2, h4, _, h5⟩, h6⟩ := sp_some (of := of) (is := fun _ => true) hu rfl
  have a1 := h t1 h2
  have a2 := h t2 h4
  have a3 := h6 u hu rfl
  have a4 := h6 v hv rfl
  rw [h1, show s = (of u, of v) from Prod.ext (by show s.1 = of u; omega) (by show s.2 = of v; omega)]
theorem end_mem {b : Bk} (hb : isBk b = true) (m : Bool) : endL b m ∈ truL b := mem_truL.2 (endL_ok hb m)
theorem sp_all {b : Bk} (hb : isBk b = true) (of : List Int → Int) : ∃ s, spF of (fun _ => true) (truL b) = some s ∧ ∀ t, truOk b.lines t = true → s.1 ≤ of t ∧ of t ≤ s.2 := by
  obtain ⟨s, h1, _, _, h2⟩ := sp_some (of := of) (is := fun _ => true) (end_mem hb true) rfl
  exact ⟨s, h1, fun t ht => h2 t (mem_truL.2 ht) rfl⟩

/-! ### What is owed and what is paid -/

def sumK (b : Bk) (t : List Int) (h : Int) : Nat → Int
  | 0 => 0
  | k + 1 => match b.lines[k]?, t[k]? with
    | some l, some e => if l.hand = h then sumK b t h k + owesL b l e else sumK b t h k
    | _, _ => sumK b t h k
theorem sumK_succ {b : Bk} {t : List Int} {h : Int} {k : Nat} {l : Lin} {e : Int} (hl : b.lines[k]? = some l) (he : t[k]? = some e) : sumK b t h (k + 1) = if l.hand = h then sumK b t h k + owesL b l e else sumK b t h k := by
  simp only [sumK, hl, he]
theorem payK_fix {b : Bk} {t : List Int} {j : Nat} (ht : truOk b.lines t = true) : ∀ (d k : Nat) (x : Int), k + d ≤ b.lines.length → (payK b t k).1[j]? = some x → (payK b t (k + d)).1[j]? = some x
  | 0, _, _, _, h => h
  | d + 1, k, x, hk, h => by
    have hlen := (truOk_iff.1 ht).1
    have ih := payK_fix ht d k x (by omega) h
    obtain ⟨l, hl⟩ := some_get (xs := b.lines) (k := k + d) (by omega)
    obtain ⟨e, he⟩ := some_get (xs := t) (k := k + d) (by omega)
    rw [show k + (d + 1) = k + d + 1 from rfl, payK_succ hl he]
    rw [List.getElem?_append_left (List.getElem?_eq_some_iff.1 ih).1]
    exact ih
/-- What is paid in a line. -/
theorem paysL_at {b : Bk} {t : List Int} (ht : truOk b.lines t = true) {k : Nat} {l : Lin} {e : Int} (hl : b.lines[k]? = some l) (he : t[k]? = some e) :
    (paysL b t)[k]? = some ((owesL b l e + (payK b t k).2 l.hand) - (owesL b l e + (payK b t k).2 l.hand) % b.unit) := by
  have hlen := (truOk_iff.1 ht).1
  have hk := (List.getElem?_eq_some_iff.1 hl).1
  have h1 : (payK b t (k + 1)).1[k]? = some ((owesL b l e + (payK b t k).2 l.hand) - (owesL b l e + (payK b t k).2 l.hand) % b.unit) := by
    rw [payK_succ hl he]
    have h2 := payK_len hlen k (by omega)
    rw [List.getElem?_append_right (by omega), h2]
    simp
  have := payK_fix (j := k) ht (b.lines.length - (k + 1)) (k + 1) _ (by omega) h1
  rwa [show k + 1 + (b.lines.length - (k + 1)) = b.lines.length from by omega] at this
theorem emod_sub_self (n u : Int) : (n - n % u) % u = 0 := by
  rw [Int.sub_emod, Int.emod_emod_of_dvd n (Int.dvd_refl u), Int.sub_self, Int.zero_emod]
theorem paysL_mod {b : Bk} {t : List Int} (ht : truOk b.lines t = true) {k : Nat} {x : Int} (h : (paysL b t)[k]? = some x) : x % b.unit = 0 := by
  have hlen := (truOk_iff.1 ht).1
  have hpl := paysL_len hlen
  have hk := (List.getElem?_eq_some_iff.1 h).1
  obtain ⟨l, hl⟩ := some_get (xs := b.lines) (k := k) (by omega)
  obtain ⟨e, he⟩ := some_get (xs := t) (k := k) (by omega)
  rw [paysL_at ht hl he] at h
  cases h
  exact emod_sub_self _ _
/-- All that is owed to a hand is what it is paid and its rest. -/
theorem sum_law {b : Bk} {t : List Int} (hb : isBk b = true) (ht : truOk b.lines t = true) (h : Int) : ∀ k, k ≤ b.lines.length → sumK b t h k = toK b t h k + (payK b t k).2 h ∧ toK b t h k % b.unit = 0
  | 0, _ => by simp [sumK, toK, payK]
  | k + 1, hk => by
    have hlen := (truOk_iff.1 ht).1
    obtain ⟨ih, ih2⟩ := sum_law hb ht h k (by omega)
    obtain ⟨l, hl⟩ := some_get (xs := b.lines) (k := k) (by omega)
    obtain ⟨e, he⟩ := some_get (xs := t) (k := k) (by omega)
    have hp := paysL_at ht hl he
    rw [sumK_succ hl he, toK_succ hl hp, payK_succ hl he]
    by_cases hh : l.hand = h
    · subst hh
      simp only [if_true, upd]
      refine ⟨by omega, ?_⟩
      rw [Int.add_emod, ih2, emod_sub_self]; simp
    · have hne : ¬ (h = l.hand) := fun e => hh e.symm
      simp only [if_neg hh, upd, if_neg hne]
      exact ⟨ih, ih2⟩
theorem sumK_b {b : Bk} {t : List Int} {h : Int} (hb : isBk b = true) (ht : truOk b.lines t = true) : ∀ k, 0 ≤ sumK b t h k ∧ sumK b t h k ≤ k * 32000
  | 0 => by simp [sumK]
  | k + 1 => by
    have ih := sumK_b (h := h) hb ht k
    simp only [sumK]
    split
    · rename_i l e h1 h2
      have hin := (truOk_e hb ht h1 h2).2
      have := owesL_b hb (List.mem_of_getElem? h1) hin
      split <;> omega
    · omega
theorem sum_rest {b : Bk} {t : List Int} (hb : isBk b = true) (ht : truOk b.lines t = true) (h : Int) : toL b t h = sumK b t h b.lines.length - sumK b t h b.lines.length % b.unit := by
  obtain ⟨h1, h2⟩ := sum_law hb ht h b.lines.length (Nat.le_refl _)
  have h3 := payK_b (t := t) hb b.lines.length h
  have h4 : sumK b t h b.lines.length % b.unit = (payK b t b.lines.length).2 h := by
    rw [h1, Int.add_emod, h2, Int.zero_add, Int.emod_emod_of_dvd _ (Int.dvd_refl _), Int.emod_eq_of_lt h3.1 h3.2]
  rw [h4, toL]; omega
theorem toL_mod {b : Bk} {t : List Int} (hb : isBk b = true) (ht : truOk b.lines t = true) (h : Int) : toL b t h % b.unit = 0 := (sum_law hb ht h _ (Nat.le_refl _)).2

/-- More errors, less owed. -/
theorem owes_mono {b : Bk} {l : Lin} {e e' : Int} (hb : isBk b = true) (h : e ≤ e') : owesL b l e' ≤ owesL b l e := by
  have hbb := isBk_b hb
  have := Int.mul_le_mul_of_nonneg_left h hbb.2.2.2.2.1.1
  simp only [owesL]; omega
theorem sumK_mono {b : Bk} {t u : List Int} (hb : isBk b = true) (h : Int) (ht : t.length = b.lines.length) (hu : u.length = b.lines.length) (hle : ∀ (j : Nat) e f, t[j]? = some e → u[j]? = some f → e ≤ f) : ∀ k, k ≤ b.lines.length → sumK b u h k ≤ sumK b t h k
  | 0, _ => by simp [sumK]
  | k + 1, hk => by
    have ih := sumK_mono hb h ht hu hle k (by omega)
    obtain ⟨l, hl⟩ := some_get (xs := b.lines) (k := k) (by omega)
    obtain ⟨e, he⟩ := some_get (xs := t) (k := k) (by omega)
    obtain ⟨f, hf⟩ := some_get (xs := u) (k := k) (by omega)
    rw [sumK_succ hl he, sumK_succ hl hf]
    have := owes_mono (l := l) hb (hle k e f he hf)
    split <;> omega
theorem floor_mono {a b u : Int} (hu : 0 < u) (h : a ≤ b) : a - a % u ≤ b - b % u := by
  have h1 := Int.ediv_le_ediv hu h
  have h2 := Int.mul_ediv_add_emod a u
  have h3 := Int.mul_ediv_add_emod b u
  have h4 := Int.mul_le_mul_of_nonneg_left h1 (Int.le_of_lt hu)
  omega
theorem toL_mono {b : Bk} {t u : List Int} (hb : isBk b = true) (ht : truOk b.lines t = true) (hu : truOk b.lines u = true) (h : Int) (hle : ∀ (j : Nat) e f, t[j]? = some e → u[j]? = some f → e ≤ f) : toL b u h ≤ toL b t h := by
  have hbb := isBk_b hb
  rw [sum_rest hb ht, sum_rest hb hu]
  exact floor_mono (by omega) (sumK_mono hb h (truOk_iff.1 ht).1 (truOk_iff.1 hu).1 hle _ (Nat.le_refl _))
theorem end_le {b : Bk} {t : List Int} (ht : truOk b.lines t = true) : (∀ (j : Nat) e f, t[j]? = some e → (endL b true)[j]? = some f → e ≤ f) ∧ (∀ (j : Nat) e f, (endL b false)[j]? = some e → t[j]? = some f → e ≤ f) := by
  constructor
  · intro j e f h1 h2
    have hlt := (List.getElem?_eq_some_iff.1 h2).1
    rw [endL_len] at hlt
    obtain ⟨l, hl⟩ := some_get (xs := b.lines) (k := j) hlt
    rw [endL_get hl] at h2
    have := inB_iff.1 ((truOk_iff.1 ht).2 j l e hl h1)
    simp at h2; omega
  · intro j e f h1 h2
    have hlt := (List.getElem?_eq_some_iff.1 h1).1
    rw [endL_len] at hlt
    obtain ⟨l, hl⟩ := some_get (xs := b.lines) (k := j) hlt
    rw [endL_get hl] at h1
    have := inB_iff.1 ((truOk_iff.1 ht).2 j l f hl h2)
    simp at h1; omega
/-- Both ends of what a hand is paid. -/
theorem total_ends {b : Bk} (hb : isBk b = true) (h : Int) : spF (fun t => toL b t h) (fun _ => true) (truL b) = some (toL b (endL b true) h, toL b (endL b false) h) :=
  sp_ends (of := fun t => toL b t h) (end_mem hb true) (end_mem hb false) (fun t ht => by
    have ht' := mem_truL.1 ht
    exact ⟨toL_mono hb ht' (endL_ok hb true) h (end_le ht').1, toL_mono hb (endL_ok hb false) ht' h (end_le ht').2⟩)
theorem payTotal_t {b : Bk} {h : Int} (hb : isBk b = true) (hh : inB h 0 (b.hands - 1) = true) : payTotal b h = ((toL b (endL b true) h, toL b (endL b false) h), 0) := by
  simp only [payTotal, hb, hh, Bool.and_self, if_true, total_ends hb h, endsV]
theorem payTotal_f {b : Bk} {h : Int} (hf : (isBk b && inB h 0 (b.hands - 1)) = false) : payTotal b h = ((0, 0), 2) := by simp only [payTotal, hf, Bool.false_eq_true, if_false]
theorem owed_ends {b : Bk} (hb : isBk b = true) {k : Nat} {l : Lin} (hl : b.lines[k]? = some l) : spF (fun t => owesAt b t k) (fun _ => true) (truL b) = some (owesL b l l.hi, owesL b l l.lo) := by
  have e1 : owesAt b (endL b true) k = owesL b l l.hi := by simp [owesAt, hl, endL_get hl]
  have e2 : owesAt b (endL b false) k = owesL b l l.lo := by simp [owesAt, hl, endL_get hl]
  rw [← e1, ← e2]
  refine sp_ends (of := fun t => owesAt b t k) (end_mem hb true) (end_mem hb false) (fun t ht => ?_)
  have ht' := mem_truL.1 ht
  have hlt := (List.getElem?_eq_some_iff.1 hl).1
  have hlen := (truOk_iff.1 ht').1
  obtain ⟨e, he⟩ := some_get (xs := t) (k := k) (by omega)
  have h1 := inB_iff.1 ((truOk_iff.1 ht').2 k l e hl he)
  simp only [e1, e2]
  simp only [owesAt, hl, he]
  exact ⟨owes_mono hb h1.2, owes_mono hb h1.1⟩
theorem payOwed_t {b : Bk} {k : Nat} {l : Lin} (hb : isBk b = true) (hl : b.lines[k]? = some l) : payOwed b (k : Int) = ((owesL b l l.hi, owesL b l l.lo), 0) := by
  have hlt := (List.getElem?_eq_some_iff.1 hl).1
  have hin : inB (k : Int) 0 (b.lines.length - 1) = true := inB_iff.2 (by omega)
  simp only [payOwed, hb, hin, Bool.and_self, if_true, Int.toNat_natCast, owed_ends hb hl, endsV]
theorem payOwed_f {b : Bk} {k : Int} (hf : (isBk b && inB k 0 (b.lines.length - 1)) = false) : payOwed b k = ((0, 0), 2) := by simp only [payOwed, hf, Bool.false_eq_true, if_false]
theorem payAt_b {b : Bk} {t : List Int} {k : Nat} {x : Int} (hb : isBk b = true) (ht : truOk b.lines t = true) (hx : (paysL b t)[k]? = some x) : (payAt b k).1 ≤ x ∧ x ≤ (payAt b k).2 := by
  obtain ⟨s, h1, h2⟩ := sp_all hb (fun t => (paysL b t).getD k 0)
  have h3 := h2 t ht
  simp only [payAt, h1, endsV]
  simp only [List.getD, hx, Option.getD_some] at h3
  exact h3

end Go.Proofs


namespace Go.Proofs
open Go Go.Sx Go.RowKit

section
variable {b : Bk} {a : Option Addr} {c : Nat} {h : Int} {w : World}
theorem c_bounds_t (hr : Ro w 0 w.heap.size a b.lines.length c 10 (b.lines.map linC)) (hb : isBk b = true) : Calls Tryz.prog 35 #[bkV b a c] w (Ret w (RSpE (bdL b b.lines.length) 0)) := by
  have := pay_Bounds b a c w hr
  rw [payBounds_t hb] at this; exact this
theorem c_bounds_f (hr : Ro w 0 w.heap.size a b.lines.length c 10 (b.lines.map linC)) (hb : isBk b = false) : Calls Tryz.prog 35 #[bkV b a c] w (Ret w (RSpE [] 2)) := by
  have := pay_Bounds b a c w hr
  rw [payBounds_f hb] at this; exact this
theorem c_total_t (hr : Ro w 0 w.heap.size a b.lines.length c 10 (b.lines.map linC)) (hb : isBk b = true) (hh : inB h 0 (b.hands - 1) = true) : Calls Tryz.prog 36 #[bkV b a c, .int .i64 h] w (RetV w (.tuple #[spanV (toL b (endL b true) h, toL b (endL b false) h), .int .i64 0])) := by
  have := pay_Total b a c h w hr
  rw [payTotal_t hb hh] at this; exact this
theorem c_total_f (hr : Ro w 0 w.heap.size a b.lines.length c 10 (b.lines.map linC)) (hf : (isBk b && inB h 0 (b.hands - 1)) = false) : Calls Tryz.prog 36 #[bkV b a c, .int .i64 h] w (RetV w (.tuple #[spanV (0, 0), .int .i64 2])) := by
  have := pay_Total b a c h w hr
  rw [payTotal_f hf] at this; exact this
theorem c_owed_t {k : Nat} {l : Lin} (hr : Ro w 0 w.heap.size a b.lines.length c 10 (b.lines.map linC)) (hb : isBk b = true) (hl : b.lines[k]? = some l) : Calls Tryz.prog 37 #[bkV b a c, .int .i64 (k : Int)] w (RetV w (.tuple #[spanV (owesL b l l.hi, owesL b l l.lo), .int .i64 0])) := by
  have := pay_Owed b a c (k : Int) w hr
  rw [payOwed_t hb hl] at this; exact this
end

end Go.Proofs


namespace Go.Proofs
open Go Go.Sx Go.RowKit

set_option maxRecDepth 20000 in
theorem ref_End (b : Bk) (a : Option Addr) (c : Nat) (m : Bool) (w : World) (hr : Ro w 0 w.heap.size a b.lines.length c 10 (b.lines.map linC)) (hb : isBk b = true) : Calls Tryz.prog 42 #[bkV b a c, .bool m] w (Ret w (RSl (endL b m))) := by
  have hbb := isBk_b hb
  refine calls_T (av := [_, _]) Tryz.func42 rfl rfl rfl ?_
  refine t_seq ?_
  refine t_reg ?_
  refine to_box rfl rfl (fun b2 => ?_)
  refine to_as rfl rfl ?_
  refine to_nil ?_
  refine tn_code ?_
  refine t_seq ?_
  refine t_reg ?_
  refine to_as rfl rfl ?_
  refine to_nil ?_
  refine tn_code ?_
  refine t_seq ?_
  refine t_seq ?_
  refine t_reg ?_
  refine to_as rfl rfl ?_
  refine to_nil ?_
  refine tn_code ?_
  refine t_blk ?_
  refine t_nilrow 3 1 ?_
  refine t_loop2 (ι := Nat × Option Addr × Nat) (fun ((k, a', c') : Nat × Option Addr × Nat) => k ≤ b.lines.length) (fun ((k, a', c') : Nat × Option Addr × Nat) => [(1, .bool m), (2, (.pointer (some ⟨b2, 0, none⟩))), (5, .slice a' k c'), (6, (.int .i64 (k : Int)))]) (fun ((k, a', c') : Nat × Option Addr × Nat) => [.row a' k c' 3 1 (ints ((endL b m).take k)), .own b2 (isC (bkC b a c) 40), .snap 0 w.heap.size w]) (fun ((k, a', c') : Nat × Option Addr × Nat) => b.lines.length - k) ((0, none, 0)) [.row none 0 0 3 1 [], .own b2 (isC (bkC b a c) 40), .snap 0 w.heap.size w] (rfl) (Nat.zero_le _) (⟨rfl, rfl, rfl, rfl, trivial⟩) ?_
  rintro ⟨k, a', c'⟩ hk
  try dsimp only at hk
  show T _ _ _ ⟨_, [(1, .bool m), (2, (.pointer (some ⟨b2, 0, none⟩))), (5, .slice a' k c'), (6, (.int .i64 (k : Int)))], _⟩ [.row a' k c' 3 1 (ints ((endL b m).take k)), .own b2 (isC (bkC b a c) 40), .snap 0 w.heap.size w]
  refine t_seq ?_
  refine t_seq ?_
  refine t_reg ?_
  refine to_mv rfl rfl ?_
  first | refine to_fa rfl rfl rfl (by simp only [Nat.reduceAdd]; rfl) rfl ?_ | refine to_fae rfl rfl rfl (by simp only [Nat.reduceAdd]; rfl) rfl ?_
  first | refine to_lds rfl rfl rfl ?_ | refine to_ldes rfl (by assumption) rfl rfl ?_
  refine to_lenS rfl rfl ?_
  refine to_lss rfl rfl rfl ?_
  refine to_nil ?_
  refine tn_code ?_
  refine t_if rfl (fun h1 => ?_) (fun h1 => ?_)
  · try simp only [decide_eq_true_eq, decide_eq_false_iff_not, Bool.not_eq_true', Bool.not_eq_false', Int.not_lt, Int.not_le, ne_eq, Decidable.not_not] at h1
    try have h1b := inB_iff.1 h1
    obtain ⟨l, hl⟩ := some_get (xs := b.lines) (k := k) (by omega)
    have hx := map_get (f := linC) hl
    refine t_skip ?_
    refine tn_code ?_
    refine t_seq ?_
    refine t_blk ?_
    refine t_seq ?_
    refine t_reg ?_
    refine to_mv rfl rfl ?_
    refine to_nil ?_
    refine tn_code ?_
    refine t_if rfl (fun h2 => ?_) (fun h2 => ?_)
    · try simp only [decide_eq_true_eq, decide_eq_false_iff_not, Bool.not_eq_true', Bool.not_eq_false', Int.not_lt, Int.not_le, ne_eq, Decidable.not_not] at h2
      try have h2b := inB_iff.1 h2
      refine t_reg ?_
      refine to_mv rfl rfl ?_
      first | refine to_fa rfl rfl rfl (by simp only [Nat.reduceAdd]; rfl) rfl ?_ | refine to_fae rfl rfl rfl (by simp only [Nat.reduceAdd]; rfl) rfl ?_
      first | refine to_lds rfl rfl rfl ?_ | refine to_ldes rfl (by assumption) rfl rfl ?_
      refine to_mv rfl rfl ?_
      first | refine to_ix rfl rfl rfl (by first | omega | decide) (by first | omega | decide) rfl ?_ | refine to_ixi rfl rfl rfl (by omega) (by omega) (by omega) rfl ?_
      first | refine to_fa rfl rfl rfl (by simp only [Nat.reduceAdd]; rfl) rfl ?_ | refine to_fae rfl rfl rfl (by simp only [Nat.reduceAdd]; rfl) rfl ?_
      first | refine to_fa rfl rfl rfl (by simp only [Nat.reduceAdd]; rfl) rfl ?_ | refine to_fae rfl rfl rfl (by simp only [Nat.reduceAdd]; rfl) rfl ?_
      first | refine to_lds rfl rfl rfl ?_ | refine to_ldes rfl (by assumption) rfl rfl ?_
      refine to_bsl rfl rfl rfl rfl (fun a23 => ?_)
      refine to_app rfl rfl rfl (by simp [scals, scal]) (by decide) (by omega) (by decide) rfl (fun a24 c24 => ?_)
      refine to_as rfl rfl ?_
      refine to_nil ?_
      refine tn_blk ?_
      refine tn_code ?_
      refine t_reg ?_
      refine to_mv rfl rfl ?_
      refine to_add rfl rfl (by omega) rfl ?_
      refine to_as rfl rfl ?_
      refine to_nil ?_
      exact tn_loop2 ((k + 1, a24, c24)) [.row a24 (k + 1) c24 3 1 (ints ((endL b m).take k) ++ [[.int .i64 l.hi]]), .own b2 (isC (bkC b a c) 40), .snap 0 w.heap.size w] (by dsimp only; rw [take_snoc (endL_get (m := m) hl), ints_snoc, h2]; rfl) (by dsimp only; omega) (by dsimp only; omega) (⟨rfl, rfl, rfl, rfl, trivial⟩)
    · try simp only [decide_eq_true_eq, decide_eq_false_iff_not, Bool.not_eq_true', Bool.not_eq_false', Int.not_lt, Int.not_le, ne_eq, Decidable.not_not] at h2
      try have h2b := inB_iff.1 h2
      refine t_reg ?_
      refine to_mv rfl rfl ?_
      first | refine to_fa rfl rfl rfl (by simp only [Nat.reduceAdd]; rfl) rfl ?_ | refine to_fae rfl rfl rfl (by simp only [Nat.reduceAdd]; rfl) rfl ?_
      first | refine to_lds rfl rfl rfl ?_ | refine to_ldes rfl (by assumption) rfl rfl ?_
      refine to_mv rfl rfl ?_
      first | refine to_ix rfl rfl rfl (by first | omega | decide) (by first | omega | decide) rfl ?_ | refine to_ixi rfl rfl rfl (by omega) (by omega) (by omega) rfl ?_
      first | refine to_fa rfl rfl rfl (by simp only [Nat.reduceAdd]; rfl) rfl ?_ | refine to_fae rfl rfl rfl (by simp only [Nat.reduceAdd]; rfl) rfl ?_
      first | refine to_fa rfl rfl rfl (by simp only [Nat.reduceAdd]; rfl) rfl ?_ | refine to_fae rfl rfl rfl (by simp only [Nat.reduceAdd]; rfl) rfl ?_
      first | refine to_lds rfl rfl rfl ?_ | refine to_ldes rfl (by assumption) rfl rfl ?_
      refine to_bsl rfl rfl rfl rfl (fun a33 => ?_)
      refine to_app rfl rfl rfl (by simp [scals, scal]) (by decide) (by omega) (by decide) rfl (fun a34 c34 => ?_)
      refine to_as rfl rfl ?_
      refine to_nil ?_
      refine tn_blk ?_
      refine tn_code ?_
      refine t_reg ?_
      refine to_mv rfl rfl ?_
      refine to_add rfl rfl (by omega) rfl ?_
      refine to_as rfl rfl ?_
      refine to_nil ?_
      exact tn_loop2 ((k + 1, a34, c34)) [.row a34 (k + 1) c34 3 1 (ints ((endL b m).take k) ++ [[.int .i64 l.lo]]), .own b2 (isC (bkC b a c) 40), .snap 0 w.heap.size w] (by dsimp only; rw [take_snoc (endL_get (m := m) hl), ints_snoc, h2]; rfl) (by dsimp only; omega) (by dsimp only; omega) (⟨rfl, rfl, rfl, rfl, trivial⟩)
  · try simp only [decide_eq_true_eq, decide_eq_false_iff_not, Bool.not_eq_true', Bool.not_eq_false', Int.not_lt, Int.not_le, ne_eq, Decidable.not_not] at h1
    try have h1b := inB_iff.1 h1
    have hk2 : k = b.lines.length := by omega
    subst hk2
    have hta : (endL b m).take b.lines.length = endL b m := List.take_of_length_le (by rw [endL_len]; exact Nat.le_refl _)
    refine t_exit ?_
    refine tx_code ?_
    refine tx_inv ?_
    refine tx_blk ?_
    refine tn_code ?_
    refine t_seq ?_
    refine t_reg ?_
    refine to_mv rfl rfl ?_
    refine to_as rfl rfl ?_
    refine to_nil ?_
    refine tn_code ?_
    refine t_ret1 rfl rfl (res_tmp rfl) (fun w' s => ?_)
    rw [RSl, endL_len, ← hta]
    exact ⟨_, _, rfl, ro_row s⟩

end Go.Proofs


namespace Go.Proofs
open Go Go.Sx Go.RowKit

end Go.Proofs


namespace Go.Proofs
open Go Go.Sx Go.RowKit

/-! # Plain laws of agreement -/

theorem befI_irr : ∀ (xs : List Int), befI xs xs = false
  | [] => rfl
  | x :: xs => by simp [befI, befI_irr xs]
theorem befI_asym : ∀ {xs ys : List Int}, befI xs ys = true → befI ys xs = false
  | [], [], h => by simp [befI] at h
  | [], _ :: _, _ => rfl
  | _ :: _, [], h => by simp [befI] at h
  | x :: xs, y :: ys, h => by
    by_cases he : x = y
    · subst he; simp only [befI, if_true] at h ⊢; exact befI_asym h
    · have he' : ¬ (y = x) := fun e => he e.symm
      simp only [befI, he, if_false, decide_eq_true_eq] at h
      simp only [befI, he', if_false, decide_eq_false_iff_not]; omega
theorem befI_tot : ∀ {xs ys : List Int}, xs.length = ys.length → befI xs ys = false → befI ys xs = false → xs = ys
  | [], [], _, _, _ => rfl
  | [], _ :: _, h, _, _ => by simp at h
  | _ :: _, [], h, _, _ => by simp at h
  | x :: xs, y :: ys, h, h1, h2 => by
    by_cases he : x = y
    · subst he; simp only [befI, if_true] at h1 h2; rw [befI_tot (by simpa using h) h1 h2]
    · have he' : ¬ (y = x) := fun e => he e.symm
      simp only [befI, he, if_false, decide_eq_false_iff_not] at h1
      simp only [befI, he', if_false, decide_eq_false_iff_not] at h2
      omega
theorem befI_app : ∀ (pre xs ys : List Int), befI (pre ++ xs) (pre ++ ys) = befI xs ys
  | [], _, _ => rfl
  | p :: pre, xs, ys => by simp [befI, befI_app pre xs ys]
theorem rngN_up : ∀ (lo : Int) (k : Nat), (rngN lo k).Pairwise (fun a b => a < b)
  | _, 0 => .nil
  | lo, k + 1 => .cons (fun x hx => by have := (mem_rngN.1 hx).1; omega) (rngN_up (lo + 1) k)
theorem ext_up : ∀ (ls : List Lin) (pre : List Int), (extL ls pre).Pairwise (fun u v => befI u v = true)
  | [], pre => by simp [extL]
  | l :: ls, pre => by
    simp only [extL]
    rw [List.pairwise_flatMap]
    refine ⟨fun n _ => ext_up ls (pre ++ [n]), (rngN_up _ _).imp ?_⟩
    intro n m hnm x hx y hy
    obtain ⟨s1, rfl, _⟩ := mem_extL.1 hx
    obtain ⟨s2, rfl, _⟩ := mem_extL.1 hy
    rw [List.append_assoc, List.append_assoc, befI_app]
    have : ¬ (n = m) := by omega
    simp [befI, this, hnm]
theorem firL_mem {b : Bk} {t : List Int} (h : firL b = some t) : truOk b.lines t = true ∧ rigB b t = true :=
  ⟨mem_truL.1 (List.mem_of_find?_eq_some h), List.find?_some h⟩
/-- The first truth that agrees is before each other. -/
theorem firL_least {b : Bk} {t u : List Int} (h : firL b = some t) (hu : truOk b.lines u = true) (hr : rigB b u = true) : befI u t = false := by
  obtain ⟨_, us, vs, h2, h3⟩ := List.find?_eq_some_iff_append.1 h
  have hm := mem_truL.2 hu
  have hp : (truL b).Pairwise (fun u v => befI u v = true) := ext_up _ _
  rw [h2] at hm hp
  rcases List.mem_append.1 hm with hm | hm
  · have := h3 u hm; rw [hr] at this; cases this
  · rcases List.mem_cons.1 hm with rfl | hm
    · exact befI_irr _
    · exact befI_asym ((List.pairwise_cons.1 (List.pairwise_append.1 hp).2.1).1 u hm)
theorem firL_is {b : Bk} {t : List Int} (ht : truOk b.lines t = true) (hr : rigB b t = true) : ∃ u, firL b = some u := by
  have : (firL b).isSome = true := by rw [firL, List.find?_isSome]; exact ⟨t, mem_truL.2 ht, hr⟩
  exact Option.isSome_iff_exists.1 this
theorem firL_of {b : Bk} {t : List Int} (ht : truOk b.lines t = true) (hr : rigB b t = true) (hl : ∀ u, truOk b.lines u = true → rigB b u = true → befI u t = false) : firL b = some t := by
  obtain ⟨u, hu⟩ := firL_is ht hr
  obtain ⟨h1, h2⟩ := firL_mem hu
  rw [hu, befI_tot (by rw [(truOk_iff.1 h1).1, (truOk_iff.1 ht).1]) (hl u h1 h2) (firL_least hu ht hr)]
theorem rig_iff {b : Bk} {t : List Int} : rigB b t = true ↔ ∀ (k : Nat) (l : Lin) (x : Int), b.lines[k]? = some l → (paysL b t)[k]? = some x → x = monN l.paid := by
  constructor
  · intro h k l x h1 h2
    by_cases hne : x = monN l.paid
    · exact hne
    · rw [rigB_f h1 h2 hne] at h; cases h
  · exact fun h => rigB_t (fun j _ l x h1 h2 => h j l x h1 h2)
theorem payK_cong {b b' : Bk} {t t' : List Int} (hu : b.unit = b'.unit) : ∀ k, (∀ j, j < k → ∃ l e l' e', b.lines[j]? = some l ∧ t[j]? = some e ∧ b'.lines[j]? = some l' ∧ t'[j]? = some e' ∧ l.hand = l'.hand ∧ owesL b l e = owesL b' l' e') → payK b t k = payK b' t' k
  | 0, _ => rfl
  | k + 1, h => by
    have ih := payK_cong hu k (fun j hj => h j (by omega))
    obtain ⟨l, e, l', e', h1, h2, h3, h4, h5, h6⟩ := h k (by omega)
    rw [payK_succ h1 h2, payK_succ h3 h4, ih, h5, h6, hu]

/-! ### The first lines of a book -/

theorem unt_get {b : Bk} {j k : Nat} (h : j < k + 1) : (untL b k).lines[j]? = b.lines[j]? := by
  show (b.lines.take (k + 1))[j]? = _
  rw [List.getElem?_take, if_pos h]
theorem unt_pay {b : Bk} {t : List Int} {k : Nat} (hk : k < b.lines.length) (ht : truOk b.lines t = true) : paysL (untL b k) (t.take (k + 1)) = (payK b t (k + 1)).1 := by
  have hlen := (truOk_iff.1 ht).1
  rw [paysL, untL_len hk]
  refine congrArg Prod.fst (payK_cong (b := untL b k) (b' := b) rfl _ (fun j hj => ?_))
  obtain ⟨l, hl⟩ := some_get (xs := b.lines) (k := j) (by omega)
  obtain ⟨e, he⟩ := some_get (xs := t) (k := j) (by omega)
  exact ⟨l, e, l, e, (unt_get hj).trans hl, by rw [List.getElem?_take, if_pos hj]; exact he, hl, he, rfl, rfl⟩
theorem unt_rig {b : Bk} {t : List Int} {k : Nat} (hk : k < b.lines.length) (ht : truOk b.lines t = true) (hr : rigB b t = true) : truOk (untL b k).lines (t.take (k + 1)) = true ∧ rigB (untL b k) (t.take (k + 1)) = true := by
  have hlen := (truOk_iff.1 ht).1
  have hlk := untL_len hk
  refine ⟨truOk_iff.2 ⟨by rw [List.length_take, hlk]; omega, fun j l e h1 h2 => ?_⟩, rig_iff.2 fun j l x h1 h2 => ?_⟩
  · have hj := (List.getElem?_eq_some_iff.1 h1).1
    rw [hlk] at hj
    rw [unt_get hj] at h1
    rw [List.getElem?_take, if_pos hj] at h2
    exact (truOk_iff.1 ht).2 j l e h1 h2
  · have hj := (List.getElem?_eq_some_iff.1 h1).1
    rw [hlk] at hj
    rw [unt_get hj] at h1
    rw [unt_pay hk ht] at h2
    have h3 := payK_fix ht (b.lines.length - (k + 1)) (k + 1) x (by omega) h2
    rw [show k + 1 + (b.lines.length - (k + 1)) = b.lines.length from by omega] at h3
    exact rig_iff.1 hr j l x h1 h3
theorem unt_some {b : Bk} {k : Nat} (hk : k < b.lines.length) (h : (firL b).isSome = true) : (firL (untL b k)).isSome = true := by
  obtain ⟨t, ht⟩ := Option.isSome_iff_exists.1 h
  obtain ⟨h1, h2⟩ := firL_mem ht
  obtain ⟨h3, h4⟩ := unt_rig hk h1 h2
  obtain ⟨u, hu⟩ := firL_is h3 h4
  rw [hu]; rfl
theorem unt_unt {b : Bk} {j k : Nat} (h : j ≤ k) : untL (untL b k) j = untL b j := by
  simp only [untL, List.take_take]
  rw [show min (j + 1) (k + 1) = j + 1 from by omega]
theorem unt_all {b : Bk} {k : Nat} (h : k + 1 = b.lines.length) : untL b k = b := by
  simp only [untL, h, List.take_length]
theorem first_t {b : Bk} (hb : isBk b = true) (h : (firL b).isSome = true) : payFirst b = (0, 5) := payFirst_none hb (fun _ hj => unt_some hj h)
theorem first_f {b : Bk} (hb : isBk b = true) (h : (firL b).isSome = false) : ∃ k : Nat, k < b.lines.length ∧ payFirst b = ((k : Int), 0) ∧ ∀ j, j < b.lines.length → (firL (untL b j)).isSome = decide (j < k) := by
  have hbb := isBk_b hb
  cases hq : (List.range b.lines.length).find? (fun k => (firL (untL b k)).isNone) with
  | none =>
    rw [List.find?_range_eq_none] at hq
    have := hq (b.lines.length - 1) (by omega)
    rw [unt_all (by omega)] at this
    simp at this
    rw [this] at h; cases h
  | some k =>
    refine ⟨k, ?_⟩
    have hp : payFirst b = ((k : Int), 0) := by simp only [payFirst, hb, if_true, hq]
    rw [List.find?_range_eq_some] at hq
    obtain ⟨h1, h2, h3⟩ := hq
    have hk : k < b.lines.length := by simpa using h2
    refine ⟨hk, hp, fun j hj => ?_⟩
    by_cases hjk : j < k
    · have := h3 j hjk
      simp only [hjk, decide_true]
      simpa using this
    · simp only [hjk, decide_false]
      cases hs : (firL (untL b j)).isSome with
      | false => rfl
      | true =>
        have := unt_some (b := untL b j) (k := k) (by rw [untL_len hj]; omega) hs
        rw [unt_unt (by omega)] at this
        rw [Option.isNone_iff_eq_none] at h1
        rw [h1] at this; cases this

/-! ### What is found of errors -/

def ErIn (b : Bk) (k : Nat) (s : Int × Int) : Prop :=
  (∀ u e, truOk b.lines u = true → rigB b u = true → u[k]? = some e → s.1 ≤ e ∧ e ≤ s.2) ∧ (∃ u, truOk b.lines u = true ∧ rigB b u = true ∧ u[k]? = some s.1) ∧ (∃ u, truOk b.lines u = true ∧ rigB b u = true ∧ u[k]? = some s.2)
theorem errors_t {b : Bk} (hb : isBk b = true) {k : Nat} {l : Lin} (hl : b.lines[k]? = some l) (h : (firL b).isSome = true) : ∃ s, payErrors b (k : Int) = (s, 0) ∧ (l.lo ≤ s.1 ∧ s.1 ≤ s.2 ∧ s.2 ≤ l.hi) ∧ ErIn b k s := by
  obtain ⟨t, ht⟩ := Option.isSome_iff_exists.1 h
  obtain ⟨ht1, ht2⟩ := firL_mem ht
  have hlt := (List.getElem?_eq_some_iff.1 hl).1
  have hin : inB (k : Int) 0 (b.lines.length - 1) = true := inB_iff.2 (by omega)
  obtain ⟨s, h1, ⟨u, h2, h3, h4⟩, ⟨v, h5, h6, h7⟩, h8⟩ := sp_some (of := fun t => t.getD k 0) (is := rigB b) (mem_truL.2 ht1) ht2
  have key : ∀ t, truOk b.lines t = true → t[k]? = some (t.getD k 0) := by
    intro t ht
    obtain ⟨e, he⟩ := some_get (xs := t) (k := k) (by rw [(truOk_iff.1 ht).1]; exact hlt)
    rw [List.getD, he]; rfl
  have hu1 := key u (mem_truL.1 h2)
  have hv1 := key v (mem_truL.1 h5)
  have hu2 := inB_iff.1 ((truOk_iff.1 (mem_truL.1 h2)).2 k l _ hl hu1)
  have hv2 := inB_iff.1 ((truOk_iff.1 (mem_truL.1 h5)).2 k l _ hl hv1)
  have huv := h8 u h2 h3
  simp only at h4 h7 huv
  rw [h4] at hu1 hu2
  rw [h7] at hv1 hv2
  refine ⟨s, by simp only [payErrors, hb, hin, Bool.and_self, if_true, Int.toNat_natCast, h1, endsV], ⟨hu2.1, by omega, hv2.2⟩, fun w e hw1 hw2 he => ?_, ⟨u, mem_truL.1 h2, h3, hu1⟩, ⟨v, mem_truL.1 h5, h6, hv1⟩⟩
  have := h8 w (mem_truL.2 hw1) hw2
  simp only [List.getD, he, Option.getD_some] at this
  exact this
theorem errors_f {b : Bk} (hb : isBk b = true) {k : Nat} (hk : k < b.lines.length) (h : (firL b).isSome = false) : payErrors b (k : Int) = ((0, 0), 5) := by
  have hin : inB (k : Int) 0 (b.lines.length - 1) = true := inB_iff.2 (by omega)
  have hn : spF (fun t => t.getD k 0) (rigB b) (truL b) = none := sp_none (fun t ht => by
    cases hr : rigB b t with
    | false => rfl
    | true => obtain ⟨u, hu⟩ := firL_is (mem_truL.1 ht) hr; rw [hu] at h; cases h)
  simp only [payErrors, hb, hin, Bool.and_self, if_true, Int.toNat_natCast, hn, endsV]

/-! ### A book with one line's errors told -/

def exB (b : Bk) (k : Nat) (l : Lin) (lo hi : Int) : Bk := { b with lines := b.lines.set k { l with lo := lo, hi := hi } }
section
variable {b : Bk} {k : Nat} {l : Lin} {lo hi : Int}
theorem ex_len : (exB b k l lo hi).lines.length = b.lines.length := by simp [exB]
theorem ex_at (hk : k < b.lines.length) : (exB b k l lo hi).lines[k]? = some { l with lo := lo, hi := hi } := by simp [exB, hk]
theorem ex_ne {j : Nat} (h : j ≠ k) : (exB b k l lo hi).lines[j]? = b.lines[j]? := by
  have : ¬ (k = j) := fun e => h e.symm
  simp [exB, List.getElem?_set, this]
theorem ex_ok (hb : isBk b = true) (hl : b.lines[k]? = some l) (h1 : l.lo ≤ lo) (h2 : lo ≤ hi) (h3 : hi ≤ l.hi) : isBk (exB b k l lo hi) = true := by
  have hbl := isBk_l hb (List.mem_of_getElem? hl)
  have hlb := isLin_b hbl
  have hall : (exB b k l lo hi).lines.all (isLin b.hands) = true := by
    rw [List.all_eq_true]
    intro x hx
    obtain ⟨j, hj⟩ := List.mem_iff_getElem?.1 hx
    by_cases hjk : j = k
    · subst hjk
      rw [ex_at (List.getElem?_eq_some_iff.1 hl).1] at hj
      cases hj
      simp only [isLin, Bool.and_eq_true, inB_iff] at hbl ⊢
      refine ⟨⟨⟨⟨⟨⟨?_, ?_⟩, ?_⟩, ?_⟩, ?_⟩, ?_⟩, hbl.2⟩ <;> omega
    · rw [ex_ne hjk] at hj
      exact isBk_l hb (List.mem_of_getElem? hj)
  simp only [isBk, Bool.and_eq_true] at hb ⊢
  rw [ex_len]
  exact ⟨hb.1, hall⟩
theorem ex_pay (hl : b.lines[k]? = some l) {t : List Int} (ht : t.length = b.lines.length) : paysL (exB b k l lo hi) t = paysL b t := by
  rw [paysL, paysL, ex_len]
  refine congrArg Prod.fst (payK_cong (b := exB b k l lo hi) (b' := b) rfl _ (fun j hj => ?_))
  obtain ⟨e, he⟩ := some_get (xs := t) (k := j) (by omega)
  by_cases hjk : j = k
  · subst hjk
    exact ⟨_, e, l, e, ex_at hj, he, hl, he, rfl, rfl⟩
  · obtain ⟨m, hm⟩ := some_get (xs := b.lines) (k := j) hj
    exact ⟨m, e, m, e, (ex_ne hjk).trans hm, he, hm, he, rfl, rfl⟩
theorem ex_rig (hl : b.lines[k]? = some l) {t : List Int} (ht : t.length = b.lines.length) : rigB (exB b k l lo hi) t = rigB b t := by
  have hk := (List.getElem?_eq_some_iff.1 hl).1
  rw [Bool.eq_iff_iff, rig_iff, rig_iff, ex_pay hl ht]
  constructor
  · intro h j m x h1 h2
    by_cases hjk : j = k
    · subst hjk; rw [hl] at h1; cases h1; have h3 := h j _ x (ex_at hk) h2; exact h3
    · exact h j m x ((ex_ne hjk).trans h1) h2
  · intro h j m x h1 h2
    by_cases hjk : j = k
    · subst hjk; rw [ex_at hk] at h1; cases h1; exact h j l x hl h2
    · exact h j m x ((ex_ne hjk).symm.trans h1) h2
theorem ex_tru (hl : b.lines[k]? = some l) (h1 : l.lo ≤ lo) (h2 : hi ≤ l.hi) {t : List Int} : truOk (exB b k l lo hi).lines t = true ↔ truOk b.lines t = true ∧ ∀ e, t[k]? = some e → lo ≤ e ∧ e ≤ hi := by
  have hk := (List.getElem?_eq_some_iff.1 hl).1
  rw [truOk_iff, truOk_iff, ex_len]
  constructor
  · rintro ⟨h3, h4⟩
    refine ⟨⟨h3, fun j m e h5 h6 => ?_⟩, fun e he => ?_⟩
    · by_cases hjk : j = k
      · subst hjk; rw [hl] at h5; cases h5
        have := inB_iff.1 (h4 j _ e (ex_at hk) h6)
        exact inB_iff.2 (by simp at this; omega)
      · exact h4 j m e ((ex_ne hjk).trans h5) h6
    · have := inB_iff.1 (h4 k _ e (ex_at hk) he)
      exact this
  · rintro ⟨⟨h3, h4⟩, h5⟩
    refine ⟨h3, fun j m e h6 h7 => ?_⟩
    by_cases hjk : j = k
    · subst hjk; rw [ex_at hk] at h6; cases h6
      exact inB_iff.2 (h5 e h7)
    · exact h4 j m e ((ex_ne hjk).symm.trans h6) h7
theorem ex_first {t : List Int} {e : Int} (hl : b.lines[k]? = some l) (h1 : l.lo ≤ lo) (h2 : hi ≤ l.hi) (h : firL b = some t) (he : t[k]? = some e) (h3 : lo ≤ e ∧ e ≤ hi) : firL (exB b k l lo hi) = some t := by
  obtain ⟨ht1, ht2⟩ := firL_mem h
  refine firL_of ((ex_tru hl h1 h2).2 ⟨ht1, fun e' he' => by rw [he] at he'; cases he'; exact h3⟩) (by rw [ex_rig hl (truOk_iff.1 ht1).1]; exact ht2) (fun u hu hr => ?_)
  have hu1 := ((ex_tru hl h1 h2).1 hu).1
  rw [ex_rig hl (truOk_iff.1 hu1).1] at hr
  exact firL_least h hu1 hr
theorem ex_some {t : List Int} {e : Int} (hl : b.lines[k]? = some l) (h1 : l.lo ≤ lo) (h2 : hi ≤ l.hi) (ht : truOk b.lines t = true) (hr : rigB b t = true) (he : t[k]? = some e) (h3 : lo ≤ e ∧ e ≤ hi) : (firL (exB b k l lo hi)).isSome = true := by
  obtain ⟨u, hu⟩ := firL_is (b := exB b k l lo hi) (t := t) ((ex_tru hl h1 h2).2 ⟨ht, fun e' he' => by rw [he] at he'; cases he'; exact h3⟩) (by rw [ex_rig hl (truOk_iff.1 ht).1]; exact hr)
  rw [hu]; rfl
theorem ex_in {s : Int × Int} {o : Int} (hl : b.lines[k]? = some l) (h1 : l.lo ≤ o) (h2 : o ≤ l.hi) (hs : ErIn b k s) (h : (firL (exB b k l o o)).isSome = true) : s.1 ≤ o ∧ o ≤ s.2 := by
  obtain ⟨u, hu⟩ := Option.isSome_iff_exists.1 h
  obtain ⟨h3, h4⟩ := firL_mem hu
  obtain ⟨h5, h6⟩ := (ex_tru hl h1 h2).1 h3
  rw [ex_rig hl (truOk_iff.1 h5).1] at h4
  have hk := (List.getElem?_eq_some_iff.1 hl).1
  obtain ⟨e, he⟩ := some_get (xs := u) (k := k) (by rw [(truOk_iff.1 h5).1]; exact hk)
  have h7 := h6 e he
  have h8 := hs.1 u e h5 h4 he
  omega
end

/-! ### A book that tells what a truth pays -/

def wrK (ls : List Lin) (xs : List Int) : Nat → List Lin
  | 0 => ls
  | k + 1 => match ls[k]?, xs[k]? with
    | some l, some n => (wrK ls xs k).set k { l with paid := monOf n }
    | _, _ => wrK ls xs k
theorem wrK_succ {ls : List Lin} {xs : List Int} {k : Nat} {l : Lin} {n : Int} (hl : ls[k]? = some l) (hn : xs[k]? = some n) : wrK ls xs (k + 1) = (wrK ls xs k).set k { l with paid := monOf n } := by simp only [wrK, hl, hn]
theorem wrK_len (ls : List Lin) (xs : List Int) : ∀ k, (wrK ls xs k).length = ls.length
  | 0 => rfl
  | k + 1 => by
    have ih := wrK_len ls xs k
    simp only [wrK]
    split <;> simp [ih]
theorem wrK_ge (ls : List Lin) (xs : List Int) : ∀ (k j : Nat), k ≤ j → (wrK ls xs k)[j]? = ls[j]?
  | 0, _, _ => rfl
  | k + 1, j, h => by
    have ih := wrK_ge ls xs k j (by omega)
    have hne : ¬ (k = j) := by omega
    simp only [wrK]
    split
    · rw [List.getElem?_set, if_neg hne, ih]
    · exact ih
theorem wrK_at {ls : List Lin} {xs : List Int} {j : Nat} {l : Lin} {n : Int} (hl : ls[j]? = some l) (hn : xs[j]? = some n) : ∀ k, j < k → (wrK ls xs k)[j]? = some { l with paid := monOf n }
  | 0, h => by omega
  | k + 1, h => by
    have hlt := (List.getElem?_eq_some_iff.1 hl).1
    by_cases hjk : j = k
    · subst hjk
      rw [wrK_succ hl hn, List.getElem?_set, if_pos rfl, wrK_len, if_pos hlt]
    · have ih := wrK_at hl hn k (by omega)
      have hne : ¬ (k = j) := by omega
      simp only [wrK]
      split
      · rw [List.getElem?_set, if_neg hne]; exact ih
      · exact ih
def wrB (b : Bk) (t : List Int) : Bk := { b with lines := wrK b.lines (paysL b t) b.lines.length }
section
variable {b : Bk} {t : List Int}
theorem wr_len : (wrB b t).lines.length = b.lines.length := wrK_len _ _ _
theorem wr_at (ht : truOk b.lines t = true) {j : Nat} {l : Lin} (hl : b.lines[j]? = some l) : ∃ n, (paysL b t)[j]? = some n ∧ (wrB b t).lines[j]? = some { l with paid := monOf n } := by
  have hlt := (List.getElem?_eq_some_iff.1 hl).1
  obtain ⟨n, hn⟩ := some_get (xs := paysL b t) (k := j) (by rw [paysL_len (truOk_iff.1 ht).1]; exact hlt)
  exact ⟨n, hn, wrK_at hl hn _ hlt⟩
theorem pays_sum (hb : isBk b = true) (ht : truOk b.lines t = true) {n : Int} (hn : n ∈ paysL b t) : isSum n = true := by
  have := paysL_xb hb ht n hn
  exact inB_iff.2 (by omega)
theorem wr_ok (hb : isBk b = true) (ht : truOk b.lines t = true) : isBk (wrB b t) = true := by
  have hall : (wrB b t).lines.all (isLin b.hands) = true := by
    rw [List.all_eq_true]
    intro x hx
    obtain ⟨j, hj⟩ := List.mem_iff_getElem?.1 hx
    have hlt := (List.getElem?_eq_some_iff.1 hj).1
    rw [wr_len] at hlt
    obtain ⟨l, hl⟩ := some_get (xs := b.lines) (k := j) hlt
    obtain ⟨n, hn, h2⟩ := wr_at ht hl
    rw [hj] at h2
    cases h2
    have hbl := isBk_l hb (List.mem_of_getElem? hl)
    simp only [isLin, Bool.and_eq_true] at hbl ⊢
    exact ⟨hbl.1, monOf_m (pays_sum hb ht (List.mem_of_getElem? hn))⟩
  simp only [isBk, Bool.and_eq_true] at hb ⊢
  rw [wr_len]
  exact ⟨hb.1, hall⟩
theorem wr_pay (ht : truOk b.lines t = true) {u : List Int} (hu : u.length = b.lines.length) : paysL (wrB b t) u = paysL b u := by
  rw [paysL, paysL, wr_len]
  refine congrArg Prod.fst (payK_cong (b := wrB b t) (b' := b) rfl _ (fun j hj => ?_))
  obtain ⟨e, he⟩ := some_get (xs := u) (k := j) (by omega)
  obtain ⟨l, hl⟩ := some_get (xs := b.lines) (k := j) hj
  obtain ⟨n, _, h2⟩ := wr_at ht hl
  exact ⟨_, e, l, e, h2, he, hl, he, rfl, rfl⟩
theorem wr_tru (ht : truOk b.lines t = true) : truOk (wrB b t).lines t = true := by
  refine truOk_iff.2 ⟨by rw [wr_len]; exact (truOk_iff.1 ht).1, fun j m e h1 h2 => ?_⟩
  have hlt := (List.getElem?_eq_some_iff.1 h1).1
  rw [wr_len] at hlt
  obtain ⟨l, hl⟩ := some_get (xs := b.lines) (k := j) hlt
  obtain ⟨n, _, h3⟩ := wr_at ht hl
  rw [h1] at h3; cases h3
  exact (truOk_iff.1 ht).2 j l e hl h2
theorem wr_rig (hb : isBk b = true) (ht : truOk b.lines t = true) : rigB (wrB b t) t = true := by
  refine rig_iff.2 fun j m x h1 h2 => ?_
  have hlt := (List.getElem?_eq_some_iff.1 h1).1
  rw [wr_len] at hlt
  obtain ⟨l, hl⟩ := some_get (xs := b.lines) (k := j) hlt
  obtain ⟨n, hn, h3⟩ := wr_at ht hl
  rw [h1] at h3; cases h3
  rw [wr_pay ht (truOk_iff.1 ht).1, hn] at h2
  cases h2
  exact (monN_of (pays_sum hb ht (List.mem_of_getElem? hn))).symm
end
end Go.Proofs


namespace Go.Proofs
open Go Go.Sx Go.RowKit

section
variable {b : Bk} {a : Option Addr} {c : Nat} {w : World}
theorem c_agr_t {t : List Int} (hr : Ro w 0 w.heap.size a b.lines.length c 10 (b.lines.map linC)) (hb : isBk b = true) (h : firL b = some t) : Calls Tryz.prog 44 #[bkV b a c] w (Ret w (RSlE t 0)) := by
  have := pay_Agrees b a c w hr
  rw [payAgrees_some hb (by rw [h]; rfl), h] at this; exact this
theorem c_agr_f (hr : Ro w 0 w.heap.size a b.lines.length c 10 (b.lines.map linC)) (hb : isBk b = true) (h : firL b = none) : Calls Tryz.prog 44 #[bkV b a c] w (Ret w (RSlE [] 5)) := by
  have := pay_Agrees b a c w hr
  rw [payAgrees_none hb (by rw [h]; rfl)] at this; exact this
theorem c_fst {n e : Int} (hr : Ro w 0 w.heap.size a b.lines.length c 10 (b.lines.map linC)) (h : payFirst b = (n, e)) : Calls Tryz.prog 45 #[bkV b a c] w (RetV w (.tuple #[.int .i64 n, .int .i64 e])) := by
  have := pay_First b a c w hr
  rw [h] at this; exact this
theorem c_err {k : Int} {s : Int × Int} {e : Int} (hr : Ro w 0 w.heap.size a b.lines.length c 10 (b.lines.map linC)) (h : payErrors b k = (s, e)) : Calls Tryz.prog 48 #[bkV b a c, .int .i64 k] w (RetV w (.tuple #[spanV s, .int .i64 e])) := by
  have := pay_Errors b a c k w hr
  rw [h] at this; exact this
theorem fir_iff : firL b = none ↔ (firL b).isSome = false := by cases firL b <;> simp
end

set_option maxRecDepth 20000 in
theorem law_agrees (b : Bk) (a : Option Addr) (c : Nat) (t : List Int) (ta : Option Addr) (tc : Nat) (w : World) (hr : Ro w 0 w.heap.size a b.lines.length c 10 (b.lines.map linC)) (hrt : Ro w 0 w.heap.size ta t.length tc 1 (ints t)) (hb : isBk b = true) (htr : truOk b.lines t = true) : Calls Tryz.prog 49 #[bkV b a c, .slice ta t.length tc] w (RetV w (.tuple #[.bool (rigB b t), .bool true])) := by
  have hbb := isBk_b hb
  have hlen := (truOk_iff.1 htr).1
  have hpl := paysL_len hlen
  refine calls_T0 (av := [_, _]) Tryz.func49 rfl rfl rfl ?_
  refine t_seq ?_
  refine t_reg ?_
  refine to_box rfl rfl (fun b2 => ?_)
  refine to_as rfl rfl ?_
  refine to_as rfl rfl ?_
  refine to_nil ?_
  refine tn_code ?_
  refine t_seq ?_
  refine t_reg ?_
  first | refine to_lda rfl rfl rfl ?_ | refine to_ldea rfl (by assumption) rfl rfl ?_
  refine to_mv rfl rfl ?_
  refine to_callR rfl rfl (fun w s => c_pays_t (rdw s) (rdw s) hb htr) rfl (fun v12 lo12 w12 hlo12 hR12 => ?_)
  obtain ⟨pa12, pc12, rfl, hro12⟩ := hR12
  refine to_mv rfl rfl ?_
  refine to_ex rfl rfl rfl ?_
  refine to_ex rfl rfl rfl ?_
  refine to_as rfl rfl ?_
  refine to_as rfl rfl ?_
  refine to_nil ?_
  refine tn_code ?_
  refine t_seq ?_
  refine t_seq ?_
  refine t_reg ?_
  refine to_mv rfl rfl ?_
  refine to_neq rfl rfl rfl ?_
  refine to_fix (s := 16) (b' := false) rfl (rfl) ?_
  refine to_mv rfl rfl ?_
  refine to_gt rfl rfl ?_
  refine to_mv rfl rfl ?_
  refine to_gt rfl rfl ?_
  refine to_lenS rfl rfl ?_
  refine to_gt rfl rfl ?_
  first | refine to_fa rfl rfl rfl (by simp only [Nat.reduceAdd]; rfl) rfl ?_ | refine to_fae rfl rfl rfl (by simp only [Nat.reduceAdd]; rfl) rfl ?_
  refine to_gt rfl rfl ?_
  first | refine to_lds rfl rfl rfl ?_ | refine to_ldes rfl (by assumption) rfl rfl ?_
  refine to_gt rfl rfl ?_
  refine to_lenS rfl rfl ?_
  refine to_gt rfl rfl ?_
  refine to_neq rfl rfl rfl ?_
  refine to_fix (s := 23) (b' := false) rfl (by simp [hpl]) ?_
  refine to_pkF rfl rfl rfl ?_
  refine to_nil ?_
  refine tn_code ?_
  refine t_ifF rfl ?_
  refine t_skip ?_
  refine tn_code ?_
  refine t_seq ?_
  refine t_seq ?_
  refine t_reg ?_
  refine to_as rfl rfl ?_
  refine to_nil ?_
  refine tn_code ?_
  refine t_blk ?_
  refine t_loop2 (ι := Nat) (fun k => k ≤ (paysL b t).length ∧ ∀ j, j < k → ∀ l x, b.lines[j]? = some l → (paysL b t)[j]? = some x → x = monN l.paid) (fun k => [(2, (.pointer (some ⟨b2, 0, none⟩))), (6, .slice pa12 (paysL b t).length pc12), (8, (.int .i64 (k : Int)))]) (fun k => [.snap lo12 w12.heap.size w12, .own b2 (isC (bkC b a c) 40), .snap 0 w.heap.size w]) (fun k => (paysL b t).length - k) (0) [.snap lo12 w12.heap.size w12, .own b2 (isC (bkC b a c) 40), .snap 0 w.heap.size w] (rfl) (⟨Nat.zero_le _, fun j hj => absurd hj (Nat.not_lt_zero _)⟩) (⟨rfl, rfl, rfl, trivial⟩) ?_
  rintro k ⟨hk, hall⟩
  show T _ _ _ ⟨_, [(2, (.pointer (some ⟨b2, 0, none⟩))), (6, .slice pa12 (paysL b t).length pc12), (8, (.int .i64 (k : Int)))], _⟩ [.snap lo12 w12.heap.size w12, .own b2 (isC (bkC b a c) 40), .snap 0 w.heap.size w]
  refine t_seq ?_
  refine t_seq ?_
  refine t_reg ?_
  refine to_mv rfl rfl ?_
  refine to_mv rfl rfl ?_
  refine to_lenS rfl rfl ?_
  refine to_lss rfl rfl rfl ?_
  refine to_nil ?_
  refine tn_code ?_
  refine t_if rfl (fun h1 => ?_) (fun h1 => ?_)
  · try simp only [decide_eq_true_eq, decide_eq_false_iff_not, Bool.not_eq_true', Bool.not_eq_false', Int.not_lt, Int.not_le, ne_eq, Decidable.not_not] at h1
    try have h1b := inB_iff.1 h1
    obtain ⟨y, hy⟩ := some_get (xs := paysL b t) (k := k) (by omega)
    obtain ⟨l, hl⟩ := some_get (xs := b.lines) (k := k) (by omega)
    have hx := map_get (f := intC) hy
    have hx2 := map_get (f := linC) hl
    have hm := (isLin_b (isBk_l hb (List.mem_of_getElem? hl))).2.2.2.2.2.2
    refine t_skip ?_
    refine tn_code ?_
    refine t_seq ?_
    refine t_blk ?_
    refine t_seq ?_
    refine t_regD rfl (by kernel_rfl) (by kernel_rfl) ?_
    refine to_mv rfl rfl ?_
    refine to_mv rfl rfl ?_
    first | refine to_ix rfl rfl rfl (by first | omega | decide) (by first | omega | decide) rfl ?_ | refine to_ixi rfl rfl rfl (by omega) (by omega) (by omega) rfl ?_
    first | refine to_lds rfl rfl rfl ?_ | refine to_ldes rfl (by assumption) rfl rfl ?_
    first | refine to_fa rfl rfl rfl (by simp only [Nat.reduceAdd]; rfl) rfl ?_ | refine to_fae rfl rfl rfl (by simp only [Nat.reduceAdd]; rfl) rfl ?_
    first | refine to_lds rfl rfl rfl ?_ | refine to_ldes rfl (by assumption) rfl rfl ?_
    refine to_mv rfl rfl ?_
    first | refine to_ix rfl rfl rfl (by first | omega | decide) (by first | omega | decide) rfl ?_ | refine to_ixi rfl rfl rfl (by omega) (by omega) (by omega) rfl ?_
    first | refine to_fa rfl rfl rfl (by simp only [Nat.reduceAdd]; rfl) rfl ?_ | refine to_fae rfl rfl rfl (by simp only [Nat.reduceAdd]; rfl) rfl ?_
    first | refine to_lda rfl rfl rfl ?_ | refine to_ldea rfl (by assumption) rfl rfl ?_
    refine to_call0 rfl rfl (fun w s => ref_Farthings _ w (by assumption)) rfl ?_
    refine to_neq rfl rfl rfl ?_
    refine to_nil ?_
    refine tn_code ?_
    refine t_if rfl (fun h2 => ?_) (fun h2 => ?_)
    · try simp only [decide_eq_true_eq, decide_eq_false_iff_not, Bool.not_eq_true', Bool.not_eq_false', Int.not_lt, Int.not_le, ne_eq, Decidable.not_not] at h2
      try have h2b := inB_iff.1 h2
      have hrg := rigB_f hl hy (by omega)
      refine t_seq ?_
      refine t_reg ?_
      refine to_as rfl rfl ?_
      refine to_as rfl rfl ?_
      refine to_nil ?_
      refine tn_code ?_
      refine t_ret2 rfl rfl (res_tmp rfl) (res_tmp rfl) (fun w' s => ?_)
      rw [hrg]
    · try simp only [decide_eq_true_eq, decide_eq_false_iff_not, Bool.not_eq_true', Bool.not_eq_false', Int.not_lt, Int.not_le, ne_eq, Decidable.not_not] at h2
      try have h2b := inB_iff.1 h2
      refine t_skip ?_
      refine tn_blk ?_
      refine tn_code ?_
      refine t_reg ?_
      refine to_mv rfl rfl ?_
      refine to_add rfl rfl (by omega) rfl ?_
      refine to_as rfl rfl ?_
      refine to_nil ?_
      exact tn_loop2 (k + 1) [.snap lo12 w12.heap.size w12, .own b2 (isC (bkC b a c) 40), .snap 0 w.heap.size w] (rfl) (⟨by omega, all_succ hall (fun l' x' h1 h2 => by rw [hl] at h1; rw [hy] at h2; cases h1; cases h2; omega)⟩) (by omega) (⟨rfl, rfl, rfl, trivial⟩)
  · try simp only [decide_eq_true_eq, decide_eq_false_iff_not, Bool.not_eq_true', Bool.not_eq_false', Int.not_lt, Int.not_le, ne_eq, Decidable.not_not] at h1
    try have h1b := inB_iff.1 h1
    have hk2 : k = (paysL b t).length := by omega
    have hrg := rigB_t (b := b) (t := t) (fun j hj => hall j (by omega))
    refine t_exit ?_
    refine tx_code ?_
    refine tx_inv ?_
    refine tx_blk ?_
    refine tn_code ?_
    refine t_seq ?_
    refine t_reg ?_
    refine to_as rfl rfl ?_
    refine to_as rfl rfl ?_
    refine to_nil ?_
    refine tn_code ?_
    refine t_ret2 rfl rfl (res_tmp rfl) (res_tmp rfl) (fun w' s => ?_)
    rw [hrg]

end Go.Proofs


namespace Go.Proofs
open Go Go.Sx Go.RowKit

def RBkM (b : Bk) : Nat → World → Value → Prop := fun lo w1 v => ∃ a1 c1, v = bkV b a1 c1 ∧ Ro w1 lo w1.heap.size a1 b.lines.length c1 10 (b.lines.map linC)
theorem scal_lin (ls : List Lin) : ∀ y ∈ ls.map linC, scals y = true := by
  intro y hy
  obtain ⟨l, _, rfl⟩ := List.mem_map.1 hy
  simp [scals, scal, linC]

set_option maxRecDepth 20000 in
theorem ref_Until (b : Bk) (a : Option Addr) (c : Nat) (k : Nat) (w : World) (hr : Ro w 0 w.heap.size a b.lines.length c 10 (b.lines.map linC)) (hb : isBk b = true) (hk : k < b.lines.length) : Calls Tryz.prog 50 #[bkV b a c, (.int .i64 (k : Int))] w (Ret w (RBkM (untL b k))) := by
  have hbb := isBk_b hb
  have hrle := hr.le
  have hul := untL_len hk
  refine calls_T (av := [_, _]) Tryz.func50 rfl rfl rfl ?_
  refine t_seq ?_
  refine t_reg ?_
  refine to_box rfl rfl (fun b2 => ?_)
  refine to_alloc rfl (fun b4 => ?_)
  refine to_nil ?_
  refine tn_code ?_
  refine t_seq ?_
  refine t_nilrow 60 10 ?_
  refine t_reg ?_
  first | refine to_fa rfl rfl rfl (by simp only [Nat.reduceAdd]; rfl) rfl ?_ | refine to_fae rfl rfl rfl (by simp only [Nat.reduceAdd]; rfl) rfl ?_
  first | refine to_lds rfl rfl rfl ?_ | refine to_ldes rfl (by assumption) rfl rfl ?_
  refine to_mv rfl rfl ?_
  refine to_add rfl rfl (by omega) rfl ?_
  refine to_slH rfl rfl (Nat.le_trans (Nat.succ_le_of_lt hk) hrle) rfl ?_
  refine to_app (hq := ⟨fun w' s => by have := ro_take (rdw s (a := a) (n := b.lines.length) (xs := b.lines.map linC)) (k := k + 1) (by omega); rw [← List.map_take] at this; exact this⟩) rfl rfl rfl (scal_lin _) (by decide) (show (0 + (k + 1)) * 80 ≤ 1099511627776 from by omega) (by decide) rfl (fun a10 c10 => ?_)
  first | refine to_fa rfl rfl rfl (by simp only [Nat.reduceAdd]; rfl) rfl ?_ | refine to_fae rfl rfl rfl (by simp only [Nat.reduceAdd]; rfl) rfl ?_
  first | refine to_st rfl rfl rfl rfl ?_ | refine to_ste rfl rfl (by assumption) rfl rfl ?_
  refine to_nil ?_
  refine tn_code ?_
  refine t_seq ?_
  refine t_reg ?_
  first | refine to_lda rfl rfl rfl ?_ | refine to_ldea rfl (by assumption) rfl rfl ?_
  first | refine to_st rfl rfl rfl rfl ?_ | refine to_ste rfl rfl (by assumption) rfl rfl ?_
  refine to_nil ?_
  refine tn_code ?_
  refine t_ret1 rfl rfl (res_cellA rfl rfl) (fun w' s => ?_)
  refine ⟨a10, c10, by rw [bkV, bkC, hul]; simp [untL], ?_⟩
  rw [hul]
  have := ro_row s (a := a10)
  simpa [untL, List.map_take] using this

end Go.Proofs


namespace Go.Proofs
open Go Go.Sx Go.RowKit

section
variable {x : Cx} {d : Bool} {ops : Array Oper} {rest : List Oper} {ks : List KI} {n : Nat} {m : List (Nat × Value)} {ds : List Deferred} {H H2 : List Seg}
variable {ty : TypeId} {pos : String} {aft : Array Edge} {dd : Nat}
/-- The address of an element, where only the slice is known. -/
theorem to_ixS {t e b1 b2 : TypeId} {zz : List ZV} {ei : TI} {y i : Operand} {ad : Addr} {l c0 sz k : Nat} (hy : ev m y = some (.slice (some ad) l c0)) (hi : ev m i = some (.int .i64 (Int.ofNat k)))
    [ht : Ty x.P t ⟨.slice e, b1, b2, zz⟩] [he : Ty x.P e ei] (hsz : ei.size = sz) (hk : k < l) (hd : Nat.blt dd n = true)
    (h : TO x d ops rest ks ⟨n, (dd, .pointer (some (ead (some ad) sz k 0))) :: m, ds⟩ H) :
    TO x d ops (⟨some dd, .indexAddr t y i, ty, pos, aft, none⟩ :: rest) ks ⟨n, m, ds⟩ H :=
  to_pure _ (fun _ h => by cases h) (fun a' w e' s => by
    have hk' : (0 : Int) ≤ (k : Int) ∧ (k : Int) < (l : Int) := ⟨Int.natCast_nonneg k, Int.ofNat_lt.2 hk⟩
    simp only [execOp]; rw [e'.ev hy, e'.ev hi]
    simp only [Instr.indexAt, asIntOf, Sem.run_bind, run_ok, Result.andThen, run_underlying ht.slice, if_pos hk', he.sizeOf, hsz, ead_some, Int.ofNat_eq_natCast, Int.toNat_natCast, Nat.add_zero]) hd h
end

set_option maxRecDepth 20000 in
theorem law_exact (b : Bk) (a : Option Addr) (c : Nat) (k : Nat) (l : Lin) (lo hi : Int) (w : World) (hr : Ro w 0 w.heap.size a b.lines.length c 10 (b.lines.map linC)) (hb : isBk b = true) (hl : b.lines[k]? = some l) : Calls Tryz.prog 51 #[bkV b a c, (.int .i64 (k : Int)), (.int .i64 lo), (.int .i64 hi)] w (Ret w (RBkM (exB b k l lo hi))) := by
  have hbb := isBk_b hb
  have hk := (List.getElem?_eq_some_iff.1 hl).1
  have hx := map_get (f := linC) hl
  refine calls_T (av := [_, _, _, _]) Tryz.func51 rfl rfl rfl ?_
  refine t_seq ?_
  refine t_reg ?_
  refine to_box rfl rfl (fun b4 => ?_)
  refine to_alloc rfl (fun b8 => ?_)
  refine to_nil ?_
  refine tn_code ?_
  refine t_seq ?_
  refine t_nilrow 60 10 ?_
  refine t_reg ?_
  first | refine to_fa rfl rfl rfl (by simp only [Nat.reduceAdd]; rfl) rfl ?_ | refine to_fae rfl rfl rfl (by simp only [Nat.reduceAdd]; rfl) rfl ?_
  first | refine to_lds rfl rfl rfl ?_ | refine to_ldes rfl (by assumption) rfl rfl ?_
  refine to_app rfl rfl rfl (scal_lin _) (by decide) (show (0 + b.lines.length) * 80 ≤ 1099511627776 from by omega) (by decide) rfl (fun a11 c11 => ?_)
  first | refine to_fa rfl rfl rfl (by simp only [Nat.reduceAdd]; rfl) rfl ?_ | refine to_fae rfl rfl rfl (by simp only [Nat.reduceAdd]; rfl) rfl ?_
  first | refine to_st rfl rfl rfl rfl ?_ | refine to_ste rfl rfl (by assumption) rfl rfl ?_
  refine to_nil ?_
  refine tn_code ?_
  refine t_seq ?_
  refine t_rowg (a := a11) (by omega) (fun g hg => ?_)
  subst hg
  refine t_regM [8] [.own b4 (isC [.int .i64 b.hands, .int .i64 b.unit, .int .i64 b.sheet, .int .i64 b.error, .int .i64 b.morning, .int .i64 b.post, .slice (some ⟨g, 0, none⟩) (0 + b.lines.length) c11] 40), .snap 0 w.heap.size w] rfl (by kernel_rfl) (by kernel_rfl) ?_
  refine tm_q ?e1 rfl ?q1 ?r1
  case q1 =>
    first | refine to_fa rfl rfl rfl (by simp only [Nat.reduceAdd]; rfl) rfl ?_ | refine to_fae rfl rfl rfl (by simp only [Nat.reduceAdd]; rfl) rfl ?_
    exact tmq_end
  refine tm_q ?e2 rfl ?q2 ?r2
  case q2 =>
    first | refine to_lds rfl rfl rfl ?_ | refine to_ldes rfl (by assumption) rfl rfl ?_
    exact tmq_end
  refine tm_q ?e3 rfl ?q3 ?r3
  case q3 =>
    refine to_mv rfl rfl ?_
    exact tmq_end
  refine tm_q ?e4 rfl ?q4 ?r4
  case q4 =>
    refine to_mv rfl rfl ?_
    exact tmq_end
  refine tm_q ?e5 rfl ?q5 ?r5
  case q5 =>
    refine to_mv rfl rfl ?_
    exact tmq_end
  refine tm_q ?e6 rfl ?q6 ?r6
  case q6 =>
    refine to_call0 rfl rfl (fun w s => law_span _ _ w) rfl ?_
    exact tmq_end
  refine tm_q ?e7 rfl ?q7 ?r7
  case q7 =>
    refine to_ixS rfl rfl rfl (show k < 0 + b.lines.length from by omega) rfl ?_
    exact tmq_end
  refine tm_q ?e8 rfl ?q8 ?r8
  case q8 =>
    first | refine to_fa rfl rfl rfl (by simp only [Nat.reduceAdd]; rfl) rfl ?_ | refine to_fae rfl rfl rfl (by simp only [Nat.reduceAdd]; rfl) rfl ?_
    exact tmq_end
  refine tm_s rfl ?_ (fun _ h => by cases h) rfl
  first | refine to_st rfl rfl rfl rfl ?_ | refine to_ste rfl rfl (by assumption) rfl rfl ?_
  refine tm_se rfl ?_
  refine tm_nil ?_
  refine tn_code ?_
  refine t_seq ?_
  refine t_reg ?_
  first | refine to_lda rfl rfl rfl ?_ | refine to_ldea rfl (by assumption) rfl rfl ?_
  first | refine to_st rfl rfl rfl rfl ?_ | refine to_ste rfl rfl (by assumption) rfl rfl ?_
  refine to_nil ?_
  refine tn_code ?_
  refine t_ret1 rfl rfl (res_cellA rfl rfl) (fun w' s => ?_)
  refine ⟨some ⟨g, 0, none⟩, c11, by simp [bkV, bkC, exB], ?_⟩
  have h9 := ro_row s (a := some ⟨g, 0, none⟩)
  simp only [exB, List.map_set, List.length_set]
  simp only [Nat.zero_add, List.nil_append] at h9
  exact h9

end Go.Proofs


namespace Go.Proofs
open Go Go.Sx Go.RowKit

end Go.Proofs


namespace Go.Proofs
open Go Go.Sx Go.RowKit

theorem law_agr {b : Bk} {a : Option Addr} {c : Nat} {t : List Int} {ta : Option Addr} {tc : Nat} {w : World} {v : Bool} (hr : Ro w 0 w.heap.size a b.lines.length c 10 (b.lines.map linC)) (hrt : Ro w 0 w.heap.size ta t.length tc 1 (ints t)) (hb : isBk b = true) (htr : truOk b.lines t = true) (hv : rigB b t = v) : Calls Tryz.prog 49 #[bkV b a c, .slice ta t.length tc] w (RetV w (.tuple #[.bool v, .bool true])) := by
  rw [← hv]; exact law_agrees b a c t ta tc w hr hrt hb htr

end Go.Proofs


namespace Go.Proofs
open Go Go.Sx Go.RowKit

end Go.Proofs


namespace Go.Proofs
open Go Go.Sx Go.RowKit

set_option maxRecDepth 20000 in
theorem w_PayWritten_bf (b : Bk) (a : Option Addr) (c : Nat) (t : List Int) (ta : Option Addr) (tc : Nat) (line : Int) (w : World) (hr : Ro w 0 w.heap.size a b.lines.length c 10 (b.lines.map linC)) (hrt : Ro w 0 w.heap.size ta t.length tc 1 (ints t)) (hb : isBk b = false) (hg : Gl w) : Calls Tryz.prog 14 #[bkV b a c, .slice ta t.length tc, (.int .i64 line)] w (RetV w (.bool true)) := by
  refine calls_T0 (av := [_, _, _]) Tryz.func14 rfl rfl rfl ?_
  refine t_seq ?_
  refine t_reg ?_
  refine to_box rfl rfl (fun b3 => ?_)
  refine to_as rfl rfl ?_
  refine to_nil ?_
  refine tn_code ?_
  refine t_seq ?_
  refine t_seq ?_
  refine t_reg ?_
  first | refine to_lda rfl rfl rfl ?_ | refine to_ldea rfl (by assumption) rfl rfl ?_
  refine to_call0 rfl rfl (fun w s => law_right b a c w (rdw s)) rfl ?_
  refine to_fix (s := 20) (b' := false) rfl (hb) ?_
  refine to_not rfl rfl ?_
  refine to_mv rfl rfl ?_
  refine to_gf rfl rfl rfl rfl ?_
  refine to_gf rfl rfl rfl rfl ?_
  refine to_gf rfl rfl rfl rfl ?_
  refine to_pkT rfl rfl rfl ?_
  refine to_mv rfl rfl ?_
  refine to_gf rfl rfl rfl rfl ?_
  refine to_gf rfl rfl rfl rfl ?_
  refine to_gf rfl rfl rfl rfl ?_
  refine to_gf rfl rfl rfl rfl ?_
  refine to_pkT rfl rfl rfl ?_
  refine to_mv rfl rfl ?_
  refine to_gf rfl rfl rfl rfl ?_
  refine to_gf rfl rfl rfl rfl ?_
  refine to_gf rfl rfl rfl rfl ?_
  refine to_gf rfl rfl rfl rfl ?_
  refine to_pkT rfl rfl rfl ?_
  refine to_nil ?_
  refine tn_code ?_
  refine t_ifT rfl ?_
  refine t_seq ?_
  refine t_reg ?_
  refine to_call0 rfl rfl (fun w s => law_known w (gl_up hg (belowH_of s))) rfl ?_
  refine to_as rfl rfl ?_
  refine to_nil ?_
  refine tn_code ?_
  refine t_ret1 rfl rfl (res_tmp rfl) (fun w' s => ?_)
  rfl

set_option maxRecDepth 20000 in
theorem w_PayWritten_sl (b : Bk) (a : Option Addr) (c : Nat) (t : List Int) (ta : Option Addr) (tc : Nat) (line : Int) (w : World) (hr : Ro w 0 w.heap.size a b.lines.length c 10 (b.lines.map linC)) (hrt : Ro w 0 w.heap.size ta t.length tc 1 (ints t)) (hb : isBk b = true) (hsl : ¬ t.length ≤ 7) (hg : Gl w) : Calls Tryz.prog 14 #[bkV b a c, .slice ta t.length tc, (.int .i64 line)] w (RetV w (.bool true)) := by
  refine calls_T0 (av := [_, _, _]) Tryz.func14 rfl rfl rfl ?_
  refine t_seq ?_
  refine t_reg ?_
  refine to_box rfl rfl (fun b3 => ?_)
  refine to_as rfl rfl ?_
  refine to_nil ?_
  refine tn_code ?_
  refine t_seq ?_
  refine t_seq ?_
  refine t_reg ?_
  first | refine to_lda rfl rfl rfl ?_ | refine to_ldea rfl (by assumption) rfl rfl ?_
  refine to_call0 rfl rfl (fun w s => law_right b a c w (rdw s)) rfl ?_
  refine to_fix (s := 20) (b' := true) rfl (hb) ?_
  refine to_not rfl rfl ?_
  refine to_mv rfl rfl ?_
  refine to_gt rfl rfl ?_
  refine to_mv rfl rfl ?_
  refine to_gt rfl rfl ?_
  refine to_call0 rfl rfl (fun w s => law_slim t ta tc w) rfl ?_
  refine to_fix (s := 24) (b' := false) rfl (decide_eq_false hsl) ?_
  refine to_gt rfl rfl ?_
  refine to_not rfl rfl ?_
  refine to_pkF rfl rfl rfl ?_
  refine to_mv rfl rfl ?_
  refine to_gf rfl rfl rfl rfl ?_
  refine to_gf rfl rfl rfl rfl ?_
  refine to_gf rfl rfl rfl rfl ?_
  refine to_gf rfl rfl rfl rfl ?_
  refine to_pkT rfl rfl rfl ?_
  refine to_mv rfl rfl ?_
  refine to_gf rfl rfl rfl rfl ?_
  refine to_gf rfl rfl rfl rfl ?_
  refine to_gf rfl rfl rfl rfl ?_
  refine to_gf rfl rfl rfl rfl ?_
  refine to_pkT rfl rfl rfl ?_
  refine to_nil ?_
  refine tn_code ?_
  refine t_ifT rfl ?_
  refine t_seq ?_
  refine t_reg ?_
  refine to_call0 rfl rfl (fun w s => law_known w (gl_up hg (belowH_of s))) rfl ?_
  refine to_as rfl rfl ?_
  refine to_nil ?_
  refine tn_code ?_
  refine t_ret1 rfl rfl (res_tmp rfl) (fun w' s => ?_)
  rfl

set_option maxRecDepth 20000 in
theorem w_PayWritten_tf (b : Bk) (a : Option Addr) (c : Nat) (t : List Int) (ta : Option Addr) (tc : Nat) (line : Int) (w : World) (hr : Ro w 0 w.heap.size a b.lines.length c 10 (b.lines.map linC)) (hrt : Ro w 0 w.heap.size ta t.length tc 1 (ints t)) (hb : isBk b = true) (hsl : t.length ≤ 7) (ht : truOk b.lines t = false) (hg : Gl w) : Calls Tryz.prog 14 #[bkV b a c, .slice ta t.length tc, (.int .i64 line)] w (RetV w (.bool true)) := by
  have hbb := isBk_b hb
  refine calls_T0 (av := [_, _, _]) Tryz.func14 rfl rfl rfl ?_
  refine t_seq ?_
  refine t_reg ?_
  refine to_box rfl rfl (fun b3 => ?_)
  refine to_as rfl rfl ?_
  refine to_nil ?_
  refine tn_code ?_
  refine t_seq ?_
  refine t_seq ?_
  refine t_reg ?_
  first | refine to_lda rfl rfl rfl ?_ | refine to_ldea rfl (by assumption) rfl rfl ?_
  refine to_call0 rfl rfl (fun w s => law_right b a c w (rdw s)) rfl ?_
  refine to_fix (s := 20) (b' := true) rfl (hb) ?_
  refine to_not rfl rfl ?_
  refine to_mv rfl rfl ?_
  refine to_gt rfl rfl ?_
  refine to_mv rfl rfl ?_
  refine to_gt rfl rfl ?_
  refine to_call0 rfl rfl (fun w s => law_slim t ta tc w) rfl ?_
  refine to_fix (s := 24) (b' := true) rfl (decide_eq_true hsl) ?_
  refine to_gt rfl rfl ?_
  refine to_not rfl rfl ?_
  refine to_pkF rfl rfl rfl ?_
  refine to_mv rfl rfl ?_
  refine to_gt rfl rfl ?_
  first | refine to_lda rfl rfl rfl ?_ | refine to_ldea rfl (by assumption) rfl rfl ?_
  refine to_gt rfl rfl ?_
  refine to_mv rfl rfl ?_
  refine to_gt rfl rfl ?_
  refine to_call0 rfl rfl (fun w s => ref_Truth b a c t ta tc w (rdw s) (rdw s) (by omega)) rfl ?_
  refine to_fix (s := 30) (b' := false) rfl (ht) ?_
  refine to_gt rfl rfl ?_
  refine to_not rfl rfl ?_
  refine to_pkF rfl rfl rfl ?_
  refine to_mv rfl rfl ?_
  refine to_gf rfl rfl rfl rfl ?_
  refine to_gf rfl rfl rfl rfl ?_
  refine to_gf rfl rfl rfl rfl ?_
  refine to_gf rfl rfl rfl rfl ?_
  refine to_pkT rfl rfl rfl ?_
  refine to_nil ?_
  refine tn_code ?_
  refine t_ifT rfl ?_
  refine t_seq ?_
  refine t_reg ?_
  refine to_call0 rfl rfl (fun w s => law_known w (gl_up hg (belowH_of s))) rfl ?_
  refine to_as rfl rfl ?_
  refine to_nil ?_
  refine tn_code ?_
  refine t_ret1 rfl rfl (res_tmp rfl) (fun w' s => ?_)
  rfl

set_option maxRecDepth 20000 in
theorem w_PayWritten_rf (b : Bk) (a : Option Addr) (c : Nat) (t : List Int) (ta : Option Addr) (tc : Nat) (line : Int) (w : World) (hr : Ro w 0 w.heap.size a b.lines.length c 10 (b.lines.map linC)) (hrt : Ro w 0 w.heap.size ta t.length tc 1 (ints t)) (hb : isBk b = true) (hsl : t.length ≤ 7) (htr : truOk b.lines t = true) (hrw : inB line 0 (b.lines.length - 1) = false) (hg : Gl w) : Calls Tryz.prog 14 #[bkV b a c, .slice ta t.length tc, (.int .i64 line)] w (RetV w (.bool true)) := by
  have hbb := isBk_b hb
  refine calls_T0 (av := [_, _, _]) Tryz.func14 rfl rfl rfl ?_
  refine t_seq ?_
  refine t_reg ?_
  refine to_box rfl rfl (fun b3 => ?_)
  refine to_as rfl rfl ?_
  refine to_nil ?_
  refine tn_code ?_
  refine t_seq ?_
  refine t_seq ?_
  refine t_reg ?_
  first | refine to_lda rfl rfl rfl ?_ | refine to_ldea rfl (by assumption) rfl rfl ?_
  refine to_call0 rfl rfl (fun w s => law_right b a c w (rdw s)) rfl ?_
  refine to_fix (s := 20) (b' := true) rfl (hb) ?_
  refine to_not rfl rfl ?_
  refine to_mv rfl rfl ?_
  refine to_gt rfl rfl ?_
  refine to_mv rfl rfl ?_
  refine to_gt rfl rfl ?_
  refine to_call0 rfl rfl (fun w s => law_slim t ta tc w) rfl ?_
  refine to_fix (s := 24) (b' := true) rfl (decide_eq_true hsl) ?_
  refine to_gt rfl rfl ?_
  refine to_not rfl rfl ?_
  refine to_pkF rfl rfl rfl ?_
  refine to_mv rfl rfl ?_
  refine to_gt rfl rfl ?_
  first | refine to_lda rfl rfl rfl ?_ | refine to_ldea rfl (by assumption) rfl rfl ?_
  refine to_gt rfl rfl ?_
  refine to_mv rfl rfl ?_
  refine to_gt rfl rfl ?_
  refine to_call0 rfl rfl (fun w s => ref_Truth b a c t ta tc w (rdw s) (rdw s) (by omega)) rfl ?_
  refine to_fix (s := 30) (b' := true) rfl (htr) ?_
  refine to_gt rfl rfl ?_
  refine to_not rfl rfl ?_
  refine to_pkF rfl rfl rfl ?_
  refine to_mv rfl rfl ?_
  refine to_gt rfl rfl ?_
  first | refine to_lda rfl rfl rfl ?_ | refine to_ldea rfl (by assumption) rfl rfl ?_
  refine to_gt rfl rfl ?_
  refine to_mv rfl rfl ?_
  refine to_gt rfl rfl ?_
  refine to_call0 rfl rfl (fun w s => ref_Row b a c _ w (by omega)) rfl ?_
  refine to_fix (s := 36) (b' := false) rfl (hrw) ?_
  refine to_gt rfl rfl ?_
  refine to_not rfl rfl ?_
  refine to_pkF rfl rfl rfl ?_
  refine to_nil ?_
  refine tn_code ?_
  refine t_ifT rfl ?_
  refine t_seq ?_
  refine t_reg ?_
  refine to_call0 rfl rfl (fun w s => law_known w (gl_up hg (belowH_of s))) rfl ?_
  refine to_as rfl rfl ?_
  refine to_nil ?_
  refine tn_code ?_
  refine t_ret1 rfl rfl (res_tmp rfl) (fun w' s => ?_)
  rfl

set_option maxRecDepth 20000 in
theorem w_PayWritten_ok (b : Bk) (a : Option Addr) (c : Nat) (t : List Int) (ta : Option Addr) (tc : Nat) (line : Int) (w : World) (hr : Ro w 0 w.heap.size a b.lines.length c 10 (b.lines.map linC)) (hrt : Ro w 0 w.heap.size ta t.length tc 1 (ints t)) (hb : isBk b = true) (hsl : t.length ≤ 7) (k0 : Nat) (hline : line = (k0 : Int)) (hk0 : k0 < b.lines.length) (htr : truOk b.lines t = true) (u : List Int) (hu : firL (wrB b t) = some u) (sq : Int × Int) (herr : payErrors (wrB b t) (k0 : Int) = (sq, 0)) (hin : ErIn (wrB b t) k0 sq) (hfst : payFirst (wrB b t) = (0, 5)) (hg : Gl w) : Calls Tryz.prog 14 #[bkV b a c, .slice ta t.length tc, (.int .i64 line)] w (RetV w (.bool true)) := by
  subst hline
  have hbb := isBk_b hb
  have hrw : inB (k0 : Int) 0 (b.lines.length - 1) = true := inB_iff.2 (by omega)
  obtain ⟨l0, hl0⟩ := some_get (xs := b.lines) (k := k0) hk0
  have hlx := map_get (f := linC) hl0
  have htl := (truOk_iff.1 htr).1
  obtain ⟨e0, he0⟩ := some_get (xs := t) (k := k0) (by omega)
  have hex := map_get (f := intC) he0
  have hpl := paysL_len htl
  have hwo := wr_ok hb htr
  have hwt := wr_tru htr
  have hwr := wr_rig hb htr
  have hst := hin.1 t e0 hwt hwr he0
  have hbf := firL_least hu hwt hwr
  have hul := (truOk_iff.1 (firL_mem hu).1).1
  have hwl := wr_len (b := b) (t := t)
  refine calls_T0 (av := [_, _, _]) Tryz.func14 rfl rfl rfl ?_
  refine t_seq ?_
  refine t_reg ?_
  refine to_box rfl rfl (fun b3 => ?_)
  refine to_as rfl rfl ?_
  refine to_nil ?_
  refine tn_code ?_
  refine t_seq ?_
  refine t_seq ?_
  refine t_reg ?_
  first | refine to_lda rfl rfl rfl ?_ | refine to_ldea rfl (by assumption) rfl rfl ?_
  refine to_call0 rfl rfl (fun w s => law_right b a c w (rdw s)) rfl ?_
  refine to_fix (s := 20) (b' := true) rfl (hb) ?_
  refine to_not rfl rfl ?_
  refine to_mv rfl rfl ?_
  refine to_gt rfl rfl ?_
  refine to_mv rfl rfl ?_
  refine to_gt rfl rfl ?_
  refine to_call0 rfl rfl (fun w s => law_slim t ta tc w) rfl ?_
  refine to_fix (s := 24) (b' := true) rfl (decide_eq_true hsl) ?_
  refine to_gt rfl rfl ?_
  refine to_not rfl rfl ?_
  refine to_pkF rfl rfl rfl ?_
  refine to_mv rfl rfl ?_
  refine to_gt rfl rfl ?_
  first | refine to_lda rfl rfl rfl ?_ | refine to_ldea rfl (by assumption) rfl rfl ?_
  refine to_gt rfl rfl ?_
  refine to_mv rfl rfl ?_
  refine to_gt rfl rfl ?_
  refine to_call0 rfl rfl (fun w s => ref_Truth b a c t ta tc w (rdw s) (rdw s) (by omega)) rfl ?_
  refine to_fix (s := 30) (b' := true) rfl (htr) ?_
  refine to_gt rfl rfl ?_
  refine to_not rfl rfl ?_
  refine to_pkF rfl rfl rfl ?_
  refine to_mv rfl rfl ?_
  refine to_gt rfl rfl ?_
  first | refine to_lda rfl rfl rfl ?_ | refine to_ldea rfl (by assumption) rfl rfl ?_
  refine to_gt rfl rfl ?_
  refine to_mv rfl rfl ?_
  refine to_gt rfl rfl ?_
  refine to_call0 rfl rfl (fun w s => ref_Row b a c _ w (by omega)) rfl ?_
  refine to_fix (s := 36) (b' := true) rfl (hrw) ?_
  refine to_gt rfl rfl ?_
  refine to_not rfl rfl ?_
  refine to_pkF rfl rfl rfl ?_
  refine to_nil ?_
  refine tn_code ?_
  refine t_ifF rfl ?_
  refine t_skip ?_
  refine tn_code ?_
  refine t_seq ?_
  refine t_reg ?_
  first | refine to_lda rfl rfl rfl ?_ | refine to_ldea rfl (by assumption) rfl rfl ?_
  refine to_mv rfl rfl ?_
  refine to_callR rfl rfl (fun w s => c_pays_t (rdw s) (rdw s) hb htr) rfl (fun v43 lo43 w43 hlo43 hR43 => ?_)
  obtain ⟨pa43, pc43, rfl, hro43⟩ := hR43
  refine to_mv rfl rfl ?_
  refine to_ex rfl rfl rfl ?_
  refine to_ex rfl rfl rfl ?_
  refine to_as rfl rfl ?_
  refine to_as rfl rfl ?_
  refine to_nil ?_
  refine tn_code ?_
  refine t_seq ?_
  refine t_seq ?_
  refine t_reg ?_
  refine to_mv rfl rfl ?_
  refine to_neq rfl rfl rfl ?_
  refine to_fix (s := 47) (b' := false) rfl (rfl) ?_
  refine to_mv rfl rfl ?_
  refine to_gt rfl rfl ?_
  refine to_mv rfl rfl ?_
  refine to_gt rfl rfl ?_
  refine to_lenS rfl rfl ?_
  refine to_gt rfl rfl ?_
  refine to_mv rfl rfl ?_
  refine to_gt rfl rfl ?_
  refine to_lenS rfl rfl ?_
  refine to_gt rfl rfl ?_
  refine to_neq rfl rfl rfl ?_
  refine to_fix (s := 53) (b' := false) rfl (by simp [hpl, htl]) ?_
  refine to_pkF rfl rfl rfl ?_
  refine to_nil ?_
  refine tn_code ?_
  refine t_ifF rfl ?_
  refine t_skip ?_
  refine tn_code ?_
  refine t_seq ?_
  refine t_reg ?_
  first | refine to_lda rfl rfl rfl ?_ | refine to_ldea rfl (by assumption) rfl rfl ?_
  refine to_alloc rfl (fun b9 => ?_)
  first | refine to_st rfl rfl rfl rfl ?_ | refine to_ste rfl rfl (by assumption) rfl rfl ?_
  refine to_nil ?_
  refine tn_code ?_
  refine t_seq ?_
  refine t_nilrow 60 10 ?_
  refine t_reg ?_
  first | refine to_fa rfl rfl rfl (by simp only [Nat.reduceAdd]; rfl) rfl ?_ | refine to_fae rfl rfl rfl (by simp only [Nat.reduceAdd]; rfl) rfl ?_
  first | refine to_lds rfl rfl rfl ?_ | refine to_ldes rfl (by assumption) rfl rfl ?_
  refine to_app rfl rfl rfl (scal_lin _) (by decide) (show (0 + b.lines.length) * 80 ≤ 1099511627776 from by omega) (by decide) rfl (fun a58 c58 => ?_)
  first | refine to_fa rfl rfl rfl (by simp only [Nat.reduceAdd]; rfl) rfl ?_ | refine to_fae rfl rfl rfl (by simp only [Nat.reduceAdd]; rfl) rfl ?_
  first | refine to_st rfl rfl rfl rfl ?_ | refine to_ste rfl rfl (by assumption) rfl rfl ?_
  refine to_nil ?_
  refine tn_code ?_
  refine t_seq ?_
  refine t_seq ?_
  refine t_reg ?_
  refine to_as rfl rfl ?_
  refine to_nil ?_
  refine tn_code ?_
  refine t_blk ?_
  refine t_loop2 (ι := Nat) (fun k => k ≤ b.lines.length) (fun k => [(1, .slice ta t.length tc), (2, (.int .i64 (k0 : Int))), (3, (.pointer (some ⟨b3, 0, none⟩))), (7, .slice pa43 (paysL b t).length pc43), (9, (.pointer (some ⟨b9, 0, none⟩))), (10, (.int .i64 (k : Int)))]) (fun k => [.row a58 (0 + b.lines.length) c58 60 10 ((wrK b.lines (paysL b t) k).map linC), .own b9 (isC [.int .i64 b.hands, .int .i64 b.unit, .int .i64 b.sheet, .int .i64 b.error, .int .i64 b.morning, .int .i64 b.post, .slice a58 (0 + b.lines.length) c58] 40), .snap lo43 w43.heap.size w43, .own b3 (isC (bkC b a c) 40), .snap 0 w.heap.size w]) (fun k => b.lines.length - k) (0) [.row a58 (0 + b.lines.length) c58 60 10 ([] ++ b.lines.map linC), .own b9 (isC [.int .i64 b.hands, .int .i64 b.unit, .int .i64 b.sheet, .int .i64 b.error, .int .i64 b.morning, .int .i64 b.post, .slice a58 (0 + b.lines.length) c58] 40), .snap lo43 w43.heap.size w43, .own b3 (isC (bkC b a c) 40), .snap 0 w.heap.size w] (rfl) (Nat.zero_le _) (⟨rfl, rfl, rfl, rfl, rfl, rfl, trivial⟩) ?_
  rintro k hk
  show T _ _ _ ⟨_, [(1, .slice ta t.length tc), (2, (.int .i64 (k0 : Int))), (3, (.pointer (some ⟨b3, 0, none⟩))), (7, .slice pa43 (paysL b t).length pc43), (9, (.pointer (some ⟨b9, 0, none⟩))), (10, (.int .i64 (k : Int)))], _⟩ [.row a58 (0 + b.lines.length) c58 60 10 ((wrK b.lines (paysL b t) k).map linC), .own b9 (isC [.int .i64 b.hands, .int .i64 b.unit, .int .i64 b.sheet, .int .i64 b.error, .int .i64 b.morning, .int .i64 b.post, .slice a58 (0 + b.lines.length) c58] 40), .snap lo43 w43.heap.size w43, .own b3 (isC (bkC b a c) 40), .snap 0 w.heap.size w]
  refine t_seq ?_
  refine t_seq ?_
  refine t_reg ?_
  refine to_mv rfl rfl ?_
  refine to_mv rfl rfl ?_
  refine to_lenS rfl rfl ?_
  refine to_lss rfl rfl rfl ?_
  refine to_nil ?_
  refine tn_code ?_
  refine t_if rfl (fun h1 => ?_) (fun h1 => ?_)
  · try simp only [decide_eq_true_eq, decide_eq_false_iff_not, Bool.not_eq_true', Bool.not_eq_false', Int.not_lt, Int.not_le, ne_eq, Decidable.not_not] at h1
    try have h1b := inB_iff.1 h1
    obtain ⟨y, hy⟩ := some_get (xs := paysL b t) (k := k) (by omega)
    obtain ⟨l, hl⟩ := some_get (xs := b.lines) (k := k) (by omega)
    have hx := map_get (f := intC) hy
    have hx2 := map_get (f := linC) ((wrK_ge b.lines (paysL b t) k k (Nat.le_refl _)).trans hl)
    have hys := pays_sum hb htr (List.mem_of_getElem? hy)
    refine t_skip ?_
    refine tn_code ?_
    refine t_seq ?_
    refine t_blk ?_
    refine t_seq ?_
    refine t_seq ?_
    refine t_reg ?_
    refine to_mv rfl rfl ?_
    refine to_mv rfl rfl ?_
    first | refine to_ix rfl rfl rfl (by first | omega | decide) (by first | omega | decide) rfl ?_ | refine to_ixi rfl rfl rfl (by omega) (by omega) (by omega) rfl ?_
    first | refine to_lds rfl rfl rfl ?_ | refine to_ldes rfl (by assumption) rfl rfl ?_
    refine to_call0 rfl rfl (fun w s => ref_Sum _ w) rfl ?_
    refine to_fix (s := 70) (b' := true) rfl (hys) ?_
    refine to_not rfl rfl ?_
    refine to_nil ?_
    refine tn_code ?_
    refine t_ifF rfl ?_
    refine t_skip ?_
    refine tn_code ?_
    refine t_seq ?_
    refine t_reg ?_
    refine to_mv rfl rfl ?_
    refine to_mv rfl rfl ?_
    first | refine to_ix rfl rfl rfl (by first | omega | decide) (by first | omega | decide) rfl ?_ | refine to_ixi rfl rfl rfl (by omega) (by omega) (by omega) rfl ?_
    first | refine to_lds rfl rfl rfl ?_ | refine to_ldes rfl (by assumption) rfl rfl ?_
    refine to_call0 rfl rfl (fun w s => c_mny_t hys w) rfl ?_
    refine to_mv rfl rfl ?_
    refine to_ex rfl rfl rfl ?_
    refine to_ex rfl rfl rfl ?_
    refine to_alloc rfl (fun b11 => ?_)
    first | refine to_st rfl rfl rfl rfl ?_ | refine to_ste rfl rfl (by assumption) rfl rfl ?_
    refine to_as rfl rfl ?_
    refine to_nil ?_
    refine tn_code ?_
    refine t_seq ?_
    refine t_seq ?_
    refine t_reg ?_
    refine to_mv rfl rfl ?_
    refine to_neq rfl rfl rfl ?_
    refine to_fix (s := 81) (b' := false) rfl (rfl) ?_
    refine to_mv rfl rfl ?_
    refine to_gt rfl rfl ?_
    first | refine to_lda rfl rfl rfl ?_ | refine to_ldea rfl (by assumption) rfl rfl ?_
    refine to_gt rfl rfl ?_
    refine to_call0 rfl rfl (fun w s => ref_Money _ w) rfl ?_
    refine to_fix (s := 84) (b' := true) rfl (monOf_m hys) ?_
    refine to_gt rfl rfl ?_
    refine to_not rfl rfl ?_
    refine to_pkF rfl rfl rfl ?_
    refine to_nil ?_
    refine tn_code ?_
    refine t_ifF rfl ?_
    refine t_skip ?_
    refine tn_code ?_
    refine t_reg ?_
    first | refine to_fa rfl rfl rfl (by simp only [Nat.reduceAdd]; rfl) rfl ?_ | refine to_fae rfl rfl rfl (by simp only [Nat.reduceAdd]; rfl) rfl ?_
    first | refine to_lds rfl rfl rfl ?_ | refine to_ldes rfl (by assumption) rfl rfl ?_
    refine to_mv rfl rfl ?_
    first | refine to_lda rfl rfl rfl ?_ | refine to_ldea rfl (by assumption) rfl rfl ?_
    first | refine to_ix rfl rfl rfl (by first | omega | decide) (by first | omega | decide) rfl ?_ | refine to_ixi rfl rfl rfl (by omega) (by omega) (by omega) rfl ?_
    first | refine to_fa rfl rfl rfl (by simp only [Nat.reduceAdd]; rfl) rfl ?_ | refine to_fae rfl rfl rfl (by simp only [Nat.reduceAdd]; rfl) rfl ?_
    first | refine to_st rfl rfl rfl rfl ?_ | refine to_ste rfl rfl (by assumption) rfl rfl ?_
    refine to_nil ?_
    refine tn_blk ?_
    refine tn_code ?_
    refine t_reg ?_
    refine to_mv rfl rfl ?_
    refine to_add rfl rfl (by omega) rfl ?_
    refine to_as rfl rfl ?_
    refine to_nil ?_
    exact tn_loop2 (k + 1) [.row a58 (0 + b.lines.length) c58 60 10 (((wrK b.lines (paysL b t) k).map linC).set k [.int .i64 l.hand, .int .i64 l.sheets, .int .i64 l.lo, .int .i64 l.hi, .int .i64 l.mor, .int .i64 l.pos, .int .i64 (monOf y).p, .int .i64 (monOf y).s, .int .i64 (monOf y).d, .int .i64 (monOf y).f]), .own b9 (isC [.int .i64 b.hands, .int .i64 b.unit, .int .i64 b.sheet, .int .i64 b.error, .int .i64 b.morning, .int .i64 b.post, .slice a58 (0 + b.lines.length) c58] 40), .snap lo43 w43.heap.size w43, .own b3 (isC (bkC b a c) 40), .snap 0 w.heap.size w] (by rw [wrK_succ hl hy, List.map_set]) (by omega) (by omega) (⟨rfl, rfl, rfl, rfl, rfl, rfl, trivial⟩)
  · try simp only [decide_eq_true_eq, decide_eq_false_iff_not, Bool.not_eq_true', Bool.not_eq_false', Int.not_lt, Int.not_le, ne_eq, Decidable.not_not] at h1
    try have h1b := inB_iff.1 h1
    have hk2 : k = b.lines.length := by omega
    subst hk2
    have hwv : Value.agg [.int .i64 b.hands, .int .i64 b.unit, .int .i64 b.sheet, .int .i64 b.error, .int .i64 b.morning, .int .i64 b.post, .slice a58 (0 + b.lines.length) c58].toArray = bkV (wrB b t) a58 c58 := by rw [Nat.zero_add, bkV, bkC, wr_len]; rfl
    refine t_exit ?_
    refine tx_code ?_
    refine tx_inv ?_
    refine tx_blk ?_
    refine tn_code ?_
    refine t_seq ?_
    refine t_reg ?_
    first | refine to_lda rfl rfl rfl ?_ | refine to_ldea rfl (by assumption) rfl rfl ?_
    refine to_callR rfl rfl (fun w s => (by rw [hwv]; exact c_agr_t (by have h8 := rdw s (a := a58) (n := 0 + b.lines.length) (xs := (wrK b.lines (paysL b t) b.lines.length).map linC); rw [Nat.zero_add] at h8; rw [wr_len]; exact h8) hwo hu)) rfl (fun v95 lo95 w95 hlo95 hR95 => ?_)
    obtain ⟨pa95, pc95, rfl, hro95⟩ := hR95
    refine to_mv rfl rfl ?_
    refine to_ex rfl rfl rfl ?_
    refine to_ex rfl rfl rfl ?_
    refine to_as rfl rfl ?_
    refine to_as rfl rfl ?_
    refine to_nil ?_
    refine tn_code ?_
    refine t_seq ?_
    refine t_reg ?_
    first | refine to_lda rfl rfl rfl ?_ | refine to_ldea rfl (by assumption) rfl rfl ?_
    refine to_call0 rfl rfl (fun w s => (by rw [hwv]; exact c_fst (by have h8 := rdw s (a := a58) (n := 0 + b.lines.length) (xs := (wrK b.lines (paysL b t) b.lines.length).map linC); rw [Nat.zero_add] at h8; rw [wr_len]; exact h8) hfst)) rfl ?_
    refine to_mv rfl rfl ?_
    refine to_ex rfl rfl rfl ?_
    refine to_ex rfl rfl rfl ?_
    refine to_as rfl rfl ?_
    refine to_as rfl rfl ?_
    refine to_nil ?_
    refine tn_code ?_
    refine t_seq ?_
    refine t_reg ?_
    first | refine to_lda rfl rfl rfl ?_ | refine to_ldea rfl (by assumption) rfl rfl ?_
    refine to_mv rfl rfl ?_
    refine to_call0 rfl rfl (fun w s => (by rw [hwv]; exact c_err (by have h8 := rdw s (a := a58) (n := 0 + b.lines.length) (xs := (wrK b.lines (paysL b t) b.lines.length).map linC); rw [Nat.zero_add] at h8; rw [wr_len]; exact h8) herr)) rfl ?_
    refine to_mv rfl rfl ?_
    refine to_ex rfl rfl rfl ?_
    refine to_ex rfl rfl rfl ?_
    refine to_alloc rfl (fun b17 => ?_)
    first | refine to_st rfl rfl rfl rfl ?_ | refine to_ste rfl rfl (by assumption) rfl rfl ?_
    refine to_as rfl rfl ?_
    refine to_nil ?_
    refine tn_code ?_
    refine t_seq ?_
    refine t_regD rfl (by kernel_rfl) (by kernel_rfl) ?_
    refine to_mv rfl rfl ?_
    refine to_eql rfl rfl rfl ?_
    refine to_fix (s := 110) (b' := true) rfl (rfl) ?_
    refine to_mv rfl rfl ?_
    refine to_gt rfl rfl ?_
    refine to_mv rfl rfl ?_
    refine to_gt rfl rfl ?_
    refine to_lenS rfl rfl ?_
    refine to_gt rfl rfl ?_
    refine to_mv rfl rfl ?_
    refine to_gt rfl rfl ?_
    refine to_lenS rfl rfl ?_
    refine to_gt rfl rfl ?_
    refine to_eql rfl rfl rfl ?_
    refine to_fix (s := 116) (b' := true) rfl (by simp [hul, hwl, htl]) ?_
    refine to_pkT rfl rfl rfl ?_
    refine to_mv rfl rfl ?_
    refine to_gt rfl rfl ?_
    refine to_mv rfl rfl ?_
    refine to_gt rfl rfl ?_
    refine to_mv rfl rfl ?_
    refine to_gt rfl rfl ?_
    refine to_call0 rfl rfl (fun w s => ref_Before t u _ _ _ _ w (rdw s) (rdw s) (by omega) (by omega)) rfl ?_
    refine to_fix (s := 121) (b' := false) rfl (hbf) ?_
    refine to_gt rfl rfl ?_
    refine to_not rfl rfl ?_
    refine to_pkT rfl rfl rfl ?_
    refine to_mv rfl rfl ?_
    refine to_gt rfl rfl ?_
    refine to_mv rfl rfl ?_
    refine to_gt rfl rfl ?_
    refine to_eql rfl rfl rfl ?_
    refine to_fix (s := 126) (b' := true) rfl (rfl) ?_
    refine to_pkT rfl rfl rfl ?_
    refine to_mv rfl rfl ?_
    refine to_gt rfl rfl ?_
    refine to_mv rfl rfl ?_
    refine to_gt rfl rfl ?_
    refine to_eql rfl rfl rfl ?_
    refine to_fix (s := 130) (b' := true) rfl (rfl) ?_
    refine to_pkT rfl rfl rfl ?_
    refine to_mv rfl rfl ?_
    refine to_gt rfl rfl ?_
    refine to_mv rfl rfl ?_
    refine to_gt rfl rfl ?_
    refine to_eql rfl rfl rfl ?_
    refine to_fix (s := 134) (b' := true) rfl (rfl) ?_
    refine to_pkT rfl rfl rfl ?_
    refine to_mv rfl rfl ?_
    refine to_gt rfl rfl ?_
    first | refine to_fa rfl rfl rfl (by simp only [Nat.reduceAdd]; rfl) rfl ?_ | refine to_fae rfl rfl rfl (by simp only [Nat.reduceAdd]; rfl) rfl ?_
    refine to_gt rfl rfl ?_
    first | refine to_lds rfl rfl rfl ?_ | refine to_ldes rfl (by assumption) rfl rfl ?_
    refine to_gt rfl rfl ?_
    refine to_mv rfl rfl ?_
    refine to_gt rfl rfl ?_
    refine to_mv rfl rfl ?_
    refine to_gt rfl rfl ?_
    first | refine to_ix rfl rfl rfl (by first | omega | decide) (by first | omega | decide) rfl ?_ | refine to_ixi rfl rfl rfl (by omega) (by omega) (by omega) rfl ?_
    refine to_gt rfl rfl ?_
    first | refine to_lds rfl rfl rfl ?_ | refine to_ldes rfl (by assumption) rfl rfl ?_
    refine to_gt rfl rfl ?_
    refine to_leq rfl rfl rfl ?_
    refine to_fix (s := 143) (b' := true) rfl (decide_eq_true (by omega)) ?_
    refine to_pkT rfl rfl rfl ?_
    refine to_mv rfl rfl ?_
    refine to_gt rfl rfl ?_
    first | refine to_fa rfl rfl rfl (by simp only [Nat.reduceAdd]; rfl) rfl ?_ | refine to_fae rfl rfl rfl (by simp only [Nat.reduceAdd]; rfl) rfl ?_
    refine to_gt rfl rfl ?_
    first | refine to_lds rfl rfl rfl ?_ | refine to_ldes rfl (by assumption) rfl rfl ?_
    refine to_gt rfl rfl ?_
    refine to_mv rfl rfl ?_
    refine to_gt rfl rfl ?_
    refine to_mv rfl rfl ?_
    refine to_gt rfl rfl ?_
    first | refine to_ix rfl rfl rfl (by first | omega | decide) (by first | omega | decide) rfl ?_ | refine to_ixi rfl rfl rfl (by omega) (by omega) (by omega) rfl ?_
    refine to_gt rfl rfl ?_
    first | refine to_lds rfl rfl rfl ?_ | refine to_ldes rfl (by assumption) rfl rfl ?_
    refine to_gt rfl rfl ?_
    refine to_geq rfl rfl rfl ?_
    refine to_fix (s := 152) (b' := true) rfl (decide_eq_true (by omega)) ?_
    refine to_pkT rfl rfl rfl ?_
    refine to_mv rfl rfl ?_
    refine to_gt rfl rfl ?_
    refine to_call0 rfl rfl (fun w s => law_known w (gl_up hg (belowH_of s))) rfl ?_
    refine to_pkT rfl rfl rfl ?_
    refine to_as rfl rfl ?_
    refine to_nil ?_
    refine tn_code ?_
    refine t_ret1 rfl rfl (res_tmp rfl) (fun w' s => ?_)
    rfl

theorem w_PayWritten (b : Bk) (a : Option Addr) (c : Nat) (t : List Int) (ta : Option Addr) (tc : Nat) (line : Int) (w : World) (hr : Ro w 0 w.heap.size a b.lines.length c 10 (b.lines.map linC)) (hrt : Ro w 0 w.heap.size ta t.length tc 1 (ints t)) (hg : Gl w) : Calls Tryz.prog 14 #[bkV b a c, .slice ta t.length tc, .int .i64 line] w (RetV w (.bool true)) := by
  rcases bool_tf (isBk b) with hb | hb
  · by_cases hsl : t.length ≤ 7
    · rcases bool_tf (truOk b.lines t) with ht | ht
      · rcases bool_tf (inB line 0 (b.lines.length - 1)) with hw | hw
        · have hwb := inB_iff.1 hw
          obtain ⟨k0, hk⟩ := Int.eq_ofNat_of_zero_le hwb.1
          have hk0 : k0 < b.lines.length := by omega
          obtain ⟨u, hu⟩ := firL_is (wr_tru ht) (wr_rig hb ht)
          have hs : (firL (wrB b t)).isSome = true := by rw [hu]; rfl
          obtain ⟨l, hl⟩ := some_get (xs := (wrB b t).lines) (k := k0) (by rw [wr_len]; exact hk0)
          obtain ⟨s, h1, _, h3⟩ := errors_t (wr_ok hb ht) hl hs
          exact w_PayWritten_ok b a c t ta tc line w hr hrt hb hsl k0 hk hk0 ht u hu s h1 h3 (first_t (wr_ok hb ht) hs) hg
        · exact w_PayWritten_rf b a c t ta tc line w hr hrt hb hsl ht hw hg
      · exact w_PayWritten_tf b a c t ta tc line w hr hrt hb hsl ht hg
    · exact w_PayWritten_sl b a c t ta tc line w hr hrt hb hsl hg
  · exact w_PayWritten_bf b a c t ta tc line w hr hrt hb hg

end Go.Proofs


namespace Go.Proofs.YtpnjgmioohofcaaGreatDoor
open Go Go.Sx Go.RowKit Go.WideShapes Go.ChangeShapes

section
variable {H : Type} {enc : TypeId × Value → H}
set_option maxRecDepth 100000 in
theorem payWritten_law (W : World) (base : Nat) (args : Array Value) (ds : List (DataW H)) (p : List MemPlace) (hval : ∀ (j : Nat) t v, Tryz.f14.params[j]? = some t → args[j]? = some v → Value.okWide Tryz.prog W .any base t v)
    (hA : DataW.TrodAll enc Tryz.prog W 0 (fun _ => true) true Tryz.f14.params.toList args.toList ds p) (hg : Gl W) : Calls Tryz.prog 14 args W (RetV W (.bool true)) := by
  obtain ⟨l⟩ := args
  rw [Tryz.params14] at hA hval
  obtain ⟨v0, l0, d0, e0, p0, q0, hl0, rfl, h0, hA0⟩ := trodAll_cons hA
  have hl0' : l = v0 :: l0 := hl0
  subst hl0'
  obtain ⟨v1, l1, d1, e1, p1, q1, hl1, rfl, h1, hA1⟩ := trodAll_cons hA0
  subst hl1
  obtain ⟨v2, l2, d2, e2, p2, q2, hl2, rfl, h2, hA2⟩ := trodAll_cons hA1
  subst hl2
  obtain rfl := trodAll_nil hA2
  obtain ⟨b0, a0, c0, rfl, hr0⟩ := open_bk (hval 0 40 v0 rfl rfl) h0
  obtain ⟨t1, a1, c1, rfl, hr1⟩ := open_ints36 (hval 1 36 v1 rfl rfl) h1
  obtain ⟨n2, rfl, _⟩ := open_i u3 (hval 2 3 v2 rfl rfl) h2
  exact w_PayWritten b0 a0 c0 t1 a1 c1 n2 W hr0 hr1 hg
end

set_option maxRecDepth 100000 in
theorem payWritten_lifted (os : Os) (started : os.Started) (H : Type) (enc : TypeId × Value → H) :
    ReturnsInHanded {} Tryz.checked os 14 .any (fun w args => (Rows.payWrittenSpec.pre enc Tryz.prog Tryz.f14 [] false w args ∧ laidMetH Tryz.prog laidL w) ∧ sizedMet enc Tryz.prog Tryz.f14 (OpenSpec.ofChange Rows.payWrittenSpec) false w args)
      (Rows.payWrittenSpec.post enc Tryz.prog Tryz.f14 false true false false) :=
  law_lifted started (by kernel_rfl) Tryz.func14 rfl rfl (by kernel_rfl) (fun ds h => by
      match ds, h with
      | [_, _, _], _ => rfl)
    (ChangeSpec.witness_shaped (enc := enc) (C := Tryz.checked) (os := os) (X := fun w _ => laidMetH Tryz.prog laidL w) false (World.laidAll Tryz.prog os laidL) #[.agg #[.int .i64 0, .int .i64 0, .int .i64 0, .int .i64 0, .int .i64 0, .int .i64 0, .slice none 0 0], .slice none 0 0, .int .i64 0] 8 (World.laidAll_os _ _ _)
      (World.shaped_of_ZipB (by kernel_rfl) (by kernel_rfl)) (by kernel_rfl) (by kernel_rfl) (by kernel_rfl)
      (by rw [MakeChecks.laidMetH_plain _ _ _ (by kernel_rfl)]; exact laidMet_laidAll _ (by kernel_rfl) (by kernel_rfl)))
    (fun W base args ds p hval hA hg => payWritten_law W base args ds p hval hA hg)

theorem payWritten_holds : Rows.PayWrittenSaid :=
  OpenClaim.holds_of_wide 14 Tryz.f14 rfl rfl rfl rfl rfl rfl rfl ⟨rfl, rfl, rfl, rfl, rfl⟩ rfl rfl rfl rfl rfl (by kernel_rfl) Tryz.func14 (by kernel_rfl)
    (of_decide_eq_true (by kernel_rfl)) (by unfold Func.isWrapper; first | (rw [if_pos (by decide +kernel)]; kernel_rfl) | (rw [if_neg (by decide +kernel)]; exact ⟨rfl, rfl⟩))
    (fun os started H enc _ => payWritten_lifted os started H enc)

theorem payWritten_card : Rows.PayWrittenCardSaid :=
  Claim7.holds_tied_plain_at .later [] [.data, .data, .data, .data, .pinned] true (true, "d3aec2bec26e0e75b2ad0ab24f30d80db9ba8c2d7002ce1c8fe1c56e9e4cda51") true
    payWritten_holds (fun _ h => by cases h) (by kernel_rfl) (fun _ h => by cases h) payWritten_row_tie rfl ⟨rfl, rfl⟩ (by kernel_rfl) rfl
    (fun f fn hf hfn => by
      obtain rfl : f = 14 := Option.some.inj ((show Tryz.prog.funcNamed "ephemerist/ephemeristlaw08.PayWritten" = some 14 by kernel_rfl).symm.trans hf) |>.symm
      obtain rfl : fn = Tryz.f14 := (Option.some.inj (Tryz.func14.symm.trans hfn)).symm
      exact ⟨by kernel_rfl, fun j t ht => by
        rw [Tryz.params14] at ht
        have hm : t ∈ [40, 36, 3] := by simpa using Array.mem_of_getElem? ht
        have hall : ([40, 36, 3].all fun u => !Tryz.prog.wantsStandIn u) = true := by kernel_rfl
        exact (show Tryz.prog.wantsStandIn t = false by simpa using List.all_eq_true.1 hall t hm)⟩)
    (by kernel_rfl)
end Go.Proofs.YtpnjgmioohofcaaGreatDoor

