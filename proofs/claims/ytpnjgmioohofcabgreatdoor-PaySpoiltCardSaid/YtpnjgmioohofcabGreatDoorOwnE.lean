/- Contracts on shares and on texts that are written. No condition beyond each theorem's own. -/
import Derived.Test.YtpnjgmioohofcabGreatDoorOwnD
import Derived.Test.YtpnjgmioohofcabGreatDoorOwnB
import Derived.Test.YtpnjgmioohofcabGreatDoorOwnC
import Derived.Lib.ItoaNum
import Derived.Lib.LaidTab
import Derived.Shelf.LaysM
import Derived.Shelf.Strconv.Itoa3
import Derived.Shelf.Strings.Split
import Derived.Test.YtpnjgmioohofcabGreatDoorProg
set_option linter.unusedVariables false
set_option linter.unusedSimpArgs false
namespace Go.Proofs
open Go Go.Sx Go.RowKit

def bestK (p : Int → Int → Bool) (xs : List Int) (k : Nat) : Int := (((xs.drop 1).take k)).foldl (fun o y => if p y o then y else o) (xs.headD 0)
def bestI (p : Int → Int → Bool) (xs : List Int) : Int := bestK p xs (xs.length - 1)
theorem bestK_succ {p : Int → Int → Bool} {xs : List Int} {k : Nat} {y : Int} (h : xs[k + 1]? = some y) : bestK p xs (k + 1) = if p y (bestK p xs k) then y else bestK p xs k := by
  have h2 : (xs.drop 1)[k]? = some y := by rw [List.getElem?_drop, Nat.add_comm]; exact h
  simp only [bestK, take_snoc h2, List.foldl_append, List.foldl_cons, List.foldl_nil]
  rfl

set_option maxRecDepth 20000 in
theorem pay_best (xs : List Int) (a : Option Addr) (c q : Nat) (cp : List Value) (p : Int → Int → Bool) (w : World) [hfq : FnOk Tryz.prog q] (hr : Ro w 0 w.heap.size a xs.length c 1 (ints xs)) (hn : 1 ≤ xs.length ∧ xs.length ≤ 1000) (hq : ∀ w', Below w.heap.size w w' → ∀ y o, y ∈ xs → o ∈ xs → Calls Tryz.prog q ([] ++ ([Value.int .i64 y, Value.int .i64 o] ++ cp)).toArray w' (RetV w' (.bool (p y o)))) : Calls Tryz.prog 51 #[.slice a xs.length c, .func (.func q) ([] : List Value).toArray cp.toArray] w (RetV w (.int .i64 (bestI p xs))) := by
  obtain ⟨z, hz⟩ := some_get (xs := xs) (k := 0) (by omega)
  have hx0 := map_get (f := intC) hz
  have hb0 : bestK p xs 0 = z := by
    cases xs with
    | nil => simp at hz
    | cons u us => simp at hz; subst hz; simp [bestK]
  refine calls_T0 (av := [_, _]) Tryz.func51 rfl rfl rfl ?_
  refine t_seq ?_
  refine t_reg ?_
  refine to_as rfl rfl ?_
  refine to_nil ?_
  refine tn_code ?_
  refine t_seq ?_
  refine t_reg ?_
  refine to_mv rfl rfl ?_
  first | refine to_ix rfl rfl rfl (by first | omega | decide) (by first | omega | decide) rfl ?_ | refine to_ixi rfl rfl rfl (by omega) (by omega) (by omega) rfl ?_
  first | refine to_lds rfl rfl rfl ?_ | refine to_ldes rfl (by assumption) rfl rfl ?_
  refine to_as rfl rfl ?_
  refine to_nil ?_
  refine tn_code ?_
  refine t_seq ?_
  refine t_seq ?_
  refine t_reg ?_
  refine to_mv rfl rfl ?_
  refine to_slL rfl rfl hn.1 rfl (fun a12 hS12 => ?_)
  refine to_lenS rfl rfl ?_
  refine to_mv rfl rfl ?_
  refine to_nil ?_
  refine tn_code ?_
  refine t_blk ?_
  refine t_loop2 (ι := Nat) (fun k => k ≤ xs.length - 1 ∧ bestK p xs k ∈ xs) (fun k => [(1, .func (.func q) ([] : List Value).toArray cp.toArray), (5, .int .i64 (bestK p xs k)), (12, .slice a12 (xs.length - 1) (c - 1)), (13, .int .i64 ((xs.length - 1 : Nat) : Int)), (14, .int .i64 (k : Int))]) (fun k => [.snap 0 w.heap.size w]) (fun k => xs.length - 1 - k) (0) [.snap 0 w.heap.size w] (rfl) (⟨Nat.zero_le _, by rw [hb0]; exact List.mem_of_getElem? hz⟩) (⟨rfl, congrArg (fun z => some (Value.int .i64 z)) hb0.symm, rfl, rfl, rfl, trivial⟩) ?_
  rintro k ⟨hk, hmem⟩
  show T _ _ _ ⟨_, [(1, .func (.func q) ([] : List Value).toArray cp.toArray), (5, .int .i64 (bestK p xs k)), (12, .slice a12 (xs.length - 1) (c - 1)), (13, .int .i64 ((xs.length - 1 : Nat) : Int)), (14, .int .i64 (k : Int))], _⟩ [.snap 0 w.heap.size w]
  refine t_seq ?_
  refine t_reg ?_
  refine to_lss rfl rfl rfl ?_
  refine to_nil ?_
  refine tn_code ?_
  refine t_seq ?_
  refine t_if rfl (fun h1 => ?_) (fun h1 => ?_)
  · try simp only [decide_eq_true_eq, decide_eq_false_iff_not, Bool.not_eq_true', Bool.not_eq_false', Int.not_lt, Int.not_le, ne_eq, Decidable.not_not] at h1
    try have h1b := inB_iff.1 h1
    obtain ⟨y, hy⟩ := some_get (xs := xs) (k := k + 1) (by omega)
    have hx : ((ints xs).drop 1)[k]? = some (intC y) := by rw [List.getElem?_drop, Nat.add_comm]; exact map_get (f := intC) hy
    refine t_skip ?_
    refine tn_code ?_
    refine t_seq ?_
    refine t_blk ?_
    refine t_seq ?_
    refine t_reg ?_
    first | refine to_ix rfl rfl rfl (by first | omega | decide) (by first | omega | decide) rfl ?_ | refine to_ixi rfl rfl rfl (by omega) (by omega) (by omega) rfl ?_
    first | refine to_lds rfl rfl rfl ?_ | refine to_ldes rfl (by assumption) rfl rfl ?_
    refine to_as rfl rfl ?_
    refine to_nil ?_
    refine tn_code ?_
    refine t_seq ?_
    refine t_reg ?_
    refine to_mv rfl rfl ?_
    refine to_mv rfl rfl ?_
    refine to_mv rfl rfl ?_
    refine to_call0 rfl rfl (fun w s => hq w (below_of s) y _ (List.mem_of_getElem? hy) hmem) rfl ?_
    refine to_nil ?_
    refine tn_code ?_
    refine t_if rfl (fun h2 => ?_) (fun h2 => ?_)
    · try simp only [decide_eq_true_eq, decide_eq_false_iff_not, Bool.not_eq_true', Bool.not_eq_false', Int.not_lt, Int.not_le, ne_eq, Decidable.not_not] at h2
      try have h2b := inB_iff.1 h2
      refine t_reg ?_
      refine to_mv rfl rfl ?_
      refine to_as rfl rfl ?_
      refine to_nil ?_
      refine tn_blk ?_
      refine tn_code ?_
      refine t_reg ?_
      refine to_add rfl rfl (by omega) rfl ?_
      refine to_mv rfl rfl ?_
      refine to_nil ?_
      exact tn_loop2 (k + 1) [.snap 0 w.heap.size w] (rfl) (⟨by omega, by rw [bestK_succ hy, if_pos (by assumption)]; exact List.mem_of_getElem? hy⟩) (by omega) (⟨rfl, congrArg (fun z => some (Value.int .i64 z)) ((bestK_succ hy).trans (if_pos (by assumption))).symm, rfl, rfl, rfl, trivial⟩)
    · try simp only [decide_eq_true_eq, decide_eq_false_iff_not, Bool.not_eq_true', Bool.not_eq_false', Int.not_lt, Int.not_le, ne_eq, Decidable.not_not] at h2
      try have h2b := inB_iff.1 h2
      refine t_skip ?_
      refine tn_blk ?_
      refine tn_code ?_
      refine t_reg ?_
      refine to_add rfl rfl (by omega) rfl ?_
      refine to_mv rfl rfl ?_
      refine to_nil ?_
      exact tn_loop2 (k + 1) [.snap 0 w.heap.size w] (rfl) (⟨by omega, by rw [bestK_succ hy, if_neg (by simp [h2])]; exact hmem⟩) (by omega) (⟨rfl, congrArg (fun z => some (Value.int .i64 z)) ((bestK_succ hy).trans (if_neg (by simp [h2]))).symm, rfl, rfl, rfl, trivial⟩)
  · try simp only [decide_eq_true_eq, decide_eq_false_iff_not, Bool.not_eq_true', Bool.not_eq_false', Int.not_lt, Int.not_le, ne_eq, Decidable.not_not] at h1
    try have h1b := inB_iff.1 h1
    have hk2 : k = xs.length - 1 := by omega
    subst hk2
    refine t_exit ?_
    refine tx_code ?_
    refine tx_inv ?_
    refine tx_blk ?_
    refine tn_code ?_
    refine t_seq ?_
    refine t_reg ?_
    refine to_mv rfl rfl ?_
    refine to_as rfl rfl ?_
    refine to_nil ?_
    refine tn_code ?_
    refine t_ret1 rfl rfl (res_tmp rfl) (fun w' s => ?_)
    rfl

end Go.Proofs


namespace Go.Proofs
open Go Go.Sx Go.RowKit

def shP (pr al : Int) (own : List Int) (x y : Int) : Bool := decide (pr * own.getD y.toNat 0 % al < pr * own.getD x.toNat 0 % al)

set_option maxRecDepth 20000 in
theorem c_Share1 (pr al x y : Int) (own : List Int) (ao : Option Addr) (co p1 p2 p3 : Nat) (w : World) (h1 : Rb w 0 w.heap.size p1 [.int .i64 pr]) (h2 : Rb w 0 w.heap.size p2 [.slice ao own.length co]) (h3 : Rb w 0 w.heap.size p3 [.int .i64 al]) (hr : Ro w 0 w.heap.size ao own.length co 1 (ints own)) (hx0 : 0 ≤ x ∧ x < own.length) (hy0 : 0 ≤ y ∧ y < own.length) (hpr : 0 ≤ pr ∧ pr ≤ 959999) (hal : 0 < al) (hown : ∀ z ∈ own, 0 ≤ z ∧ z ≤ 1000) : Calls Tryz.prog 52 #[(.int .i64 x), (.int .i64 y), (.pointer (some ⟨p1, 0, none⟩)), (.pointer (some ⟨p2, 0, none⟩)), (.pointer (some ⟨p3, 0, none⟩))] w (RetV w (.bool (shP pr al own x y))) := by
  obtain ⟨u, hu⟩ := some_get (xs := own) (k := x.toNat) (by omega)
  obtain ⟨v, hv⟩ := some_get (xs := own) (k := y.toNat) (by omega)
  have hxu := map_get (f := intC) hu
  have hxv := map_get (f := intC) hv
  have hub := hown u (List.mem_of_getElem? hu)
  have hvb := hown v (List.mem_of_getElem? hv)
  have hm1 := mul_bd hpr.1 hpr.2 hub.1 hub.2
  have hm2 := mul_bd hpr.1 hpr.2 hvb.1 hvb.2
  refine calls_T0 (av := [_, _, _, _, _]) Tryz.func52 rfl rfl rfl ?_
  refine t_seq ?_
  refine t_reg ?_
  refine to_as rfl rfl ?_
  refine to_nil ?_
  refine tn_code ?_
  refine t_seq ?_
  refine t_regD rfl (by kernel_rfl) (by kernel_rfl) ?_
  first | refine to_lds rfl rfl rfl ?_ | refine to_ldes rfl (by assumption) rfl rfl ?_
  first | refine to_lds rfl rfl rfl ?_ | refine to_ldes rfl (by assumption) rfl rfl ?_
  refine to_mv rfl rfl ?_
  first | refine to_ix rfl rfl rfl (by first | omega | decide) (by first | omega | decide) rfl ?_ | refine to_ixi rfl rfl rfl (by omega) (by omega) (by omega) rfl ?_
  first | refine to_lds rfl rfl rfl ?_ | refine to_ldes rfl (by assumption) rfl rfl ?_
  refine to_mul rfl rfl (by first | omega | exact mul_ok (by omega) (by omega) (by omega) (by omega)) rfl ?_
  first | refine to_lds rfl rfl rfl ?_ | refine to_ldes rfl (by assumption) rfl rfl ?_
  refine to_rem rfl rfl (by omega) (by omega) rfl ?_
  first | refine to_lds rfl rfl rfl ?_ | refine to_ldes rfl (by assumption) rfl rfl ?_
  first | refine to_lds rfl rfl rfl ?_ | refine to_ldes rfl (by assumption) rfl rfl ?_
  refine to_mv rfl rfl ?_
  first | refine to_ix rfl rfl rfl (by first | omega | decide) (by first | omega | decide) rfl ?_ | refine to_ixi rfl rfl rfl (by omega) (by omega) (by omega) rfl ?_
  first | refine to_lds rfl rfl rfl ?_ | refine to_ldes rfl (by assumption) rfl rfl ?_
  refine to_mul rfl rfl (by first | omega | exact mul_ok (by omega) (by omega) (by omega) (by omega)) rfl ?_
  first | refine to_lds rfl rfl rfl ?_ | refine to_ldes rfl (by assumption) rfl rfl ?_
  refine to_rem rfl rfl (by omega) (by omega) rfl ?_
  refine to_gtr rfl rfl rfl ?_
  refine to_as rfl rfl ?_
  refine to_nil ?_
  refine tn_code ?_
  refine t_ret1 rfl rfl (res_tmp rfl) (fun w' s => ?_)
  simp [shP, List.getD, hu, hv]

set_option maxRecDepth 20000 in
theorem c_Share2 (n h : Int) (p1 : Nat) (w : World) (h1 : Rb w 0 w.heap.size p1 [.int .i64 h]) : Calls Tryz.prog 54 #[(.int .i64 n), (.pointer (some ⟨p1, 0, none⟩))] w (RetV w (.bool (decide (n = h)))) := by
  refine calls_T0 (av := [_, _]) Tryz.func54 rfl rfl rfl ?_
  refine t_seq ?_
  refine t_reg ?_
  refine to_as rfl rfl ?_
  refine to_nil ?_
  refine tn_code ?_
  refine t_seq ?_
  refine t_reg ?_
  refine to_mv rfl rfl ?_
  first | refine to_lds rfl rfl rfl ?_ | refine to_ldes rfl (by assumption) rfl rfl ?_
  refine to_eql rfl rfl rfl ?_
  refine to_as rfl rfl ?_
  refine to_nil ?_
  refine tn_code ?_
  refine t_ret1 rfl rfl (res_tmp rfl) (fun w' s => ?_)
  rfl

end Go.Proofs


namespace Go.Proofs
open Go Go.Sx Go.RowKit

def flt (p : Int → Bool) (xs : List Int) : List Int := xs.filter fun y => !p y
/-- The row in the midst of the work: j are read. -/
def cmp (p : Int → Bool) (xs : List Int) (j : Nat) : List Int := flt p (xs.take j) ++ xs.drop (flt p (xs.take j)).length
theorem flt_le (p : Int → Bool) (xs : List Int) (j : Nat) (hj : j ≤ xs.length) : (flt p (xs.take j)).length ≤ j := by
  have := List.length_filter_le (fun y => !p y) (xs.take j)
  rw [List.length_take] at this
  simp only [flt]; omega
theorem flt_snoc {p : Int → Bool} {xs : List Int} {j : Nat} {y : Int} (h : xs[j]? = some y) : flt p (xs.take (j + 1)) = if p y then flt p (xs.take j) else flt p (xs.take j) ++ [y] := by
  simp only [flt, take_snoc h, List.filter_append, List.filter_cons, List.filter_nil]
  cases p y <;> simp
theorem cmp_len {p : Int → Bool} {xs : List Int} {j : Nat} (hj : j ≤ xs.length) : (cmp p xs j).length = xs.length := by
  have := flt_le p xs j hj
  simp only [cmp, List.length_append, List.length_drop]; omega
theorem cmp_get {p : Int → Bool} {xs : List Int} {j : Nat} {y : Int} (h : xs[j]? = some y) : (cmp p xs j)[j]? = some y := by
  have hj := (List.getElem?_eq_some_iff.1 h).1
  have := flt_le p xs j (by omega)
  simp only [cmp]
  rw [List.getElem?_append_right this, List.getElem?_drop]
  rw [show (flt p (xs.take j)).length + (j - (flt p (xs.take j)).length) = j from by omega]
  exact h
theorem cmp_skip {p : Int → Bool} {xs : List Int} {j : Nat} {y : Int} (h : xs[j]? = some y) (hp : p y = true) : cmp p xs (j + 1) = cmp p xs j := by
  simp only [cmp, flt_snoc h, hp, if_true]
theorem cmp_put {p : Int → Bool} {xs : List Int} {j : Nat} {y : Int} (h : xs[j]? = some y) (hp : p y = false) : cmp p xs (j + 1) = (cmp p xs j).set (flt p (xs.take j)).length y := by
  have hj := (List.getElem?_eq_some_iff.1 h).1
  have hle := flt_le p xs j (by omega)
  simp only [cmp, flt_snoc h, hp, Bool.false_eq_true, if_false, List.length_append, List.length_singleton]
  rw [List.set_append_right _ _ (Nat.le_refl _), Nat.sub_self]
  have hd : xs.drop (flt p (xs.take j)).length = xs[(flt p (xs.take j)).length]'(by omega) :: xs.drop ((flt p (xs.take j)).length + 1) := List.drop_eq_getElem_cons (by omega)
  rw [hd, List.set_cons_zero]
  simp

theorem idxI_cases {p : Int → Bool} : ∀ {xs : List Int}, idxI p xs ≠ -1 → ∃ i y, idxI p xs = ((i : Nat) : Int) ∧ xs[i]? = some y ∧ p y = true ∧ flt p (xs.take (i + 1)) = xs.take i
  | [], h => absurd rfl h
  | x :: xs, h => by
    by_cases hp : p x = true
    · exact ⟨0, x, by simp [idxI, hp], rfl, hp, by simp [flt, hp]⟩
    · have hp' : p x = false := by simpa using hp
      have h2 : idxI p xs ≠ -1 := by
        intro he
        apply h
        simp [idxI, hp', he]
      obtain ⟨i, y, h3, h4, h5, h6⟩ := idxI_cases h2
      refine ⟨i + 1, y, ?_, by simpa using h4, h5, ?_⟩
      · have : ¬ (idxI p xs < 0) := by rw [h3]; omega
        simp only [idxI, hp', Bool.false_eq_true, if_false, if_neg this, h3]; omega
      · simp only [flt, List.take_succ_cons, List.filter_cons, hp', Bool.not_false, if_true] at h6 ⊢
        rw [h6]
theorem idxI_nf {p : Int → Bool} : ∀ {xs : List Int}, idxI p xs = -1 → flt p xs = xs
  | [], _ => rfl
  | x :: xs, h => by
    have hp : p x = false := by
      cases hq : p x with
      | false => rfl
      | true => simp [idxI, hq] at h
    have h2 : idxI p xs = -1 := by
      simp only [idxI, hp, Bool.false_eq_true, if_false] at h
      split at h
      · rename_i hlt
        by_cases he : idxI p xs = -1
        · exact he
        · obtain ⟨i, _, h3, _⟩ := idxI_cases he
          omega
      · omega
    have := idxI_nf h2
    simp only [flt, List.filter_cons, hp, Bool.not_false, if_true] at this ⊢
    rw [this]
theorem ints_set (l : List Int) (k : Nat) (y : Int) : ints (l.set k y) = (ints l).set k [Value.int .i64 y] := List.map_set
def DelR (g cap : Nat) (ys : List Int) (n' : Nat) (rows : List (List Value)) (v : Value) : Prop := n' = ys.length ∧ rows = ints ys ∧ v = .slice (some ⟨g, 0, none⟩) ys.length cap

theorem sameW {w w' : World} {H : List Seg} {g : Nat} (s : St w H w') [h1 : SnapAt w H 0 g] (h2 : .snap (g + 1) w.heap.size w ∈ H) : ∀ k, k < w.heap.size → k ≠ g → w'.heap[k]? = w.heap[k]? := fun k hk hne => by
  rcases Nat.lt_or_ge k g with h | h
  · exact s.ok _ h1.mem k (Nat.zero_le _) h
  · exact s.ok _ h2 k (by omega) hk

set_option maxRecDepth 20000 in
theorem c_delete (xs : List Int) (g cap q : Nat) (cp : List Value) (p : Int → Bool) (w : World) [hfq : FnOk Tryz.prog q] (hrow : RowOk (fun k => w.heap[k]?) (some ⟨g, 0, none⟩) xs.length cap 3 1 (ints xs)) (hn : xs.length ≤ 1000) (hq : ∀ w', w.heap.size ≤ w'.heap.size → (∀ k, k < w.heap.size → k ≠ g → w'.heap[k]? = w.heap[k]?) → ∀ y ∈ xs, Calls Tryz.prog q ([] ++ ([Value.int .i64 y] ++ cp)).toArray w' (RetV w' (.bool (p y)))) : Calls Tryz.prog 53 #[.slice (some ⟨g, 0, none⟩) xs.length cap, .func (.func q) ([] : List Value).toArray cp.toArray] w (fun e w' => ∃ n' ys v, e = .returned v ∧ DelR g cap (flt p xs) n' ys v ∧ Rewr (some ⟨g, 0, none⟩) cap 3 1 w w' n' ys) := by
  have hcap : xs.length ≤ cap := by
    obtain ⟨_, _, ⟨h3, _⟩ | ⟨_, _, _, h4, _⟩⟩ := hrow
    · cases h3
    · exact h4
  refine calls_TG (av := [_, _]) Tryz.func53 rfl rfl rfl (St.startW hrow) ?_
  refine t_seq ?_
  refine t_reg ?_
  refine to_as rfl rfl ?_
  refine to_nil ?_
  refine tn_code ?_
  refine t_seq ?_
  refine t_reg ?_
  refine to_mv rfl rfl ?_
  refine to_mv rfl rfl ?_
  refine to_call0 rfl rfl (fun w s => idxfI xs (some ⟨g, 0, none⟩) cap q cp p w (rdw s) (by omega) (fun w' hb y hy => hq w' (Nat.le_trans s.ge hb.size) (fun k hk hne => (hb.block k (Nat.lt_of_lt_of_le hk s.ge)).trans (sameW s (by simp) k hk hne)) y hy)) rfl ?_
  refine to_as rfl rfl ?_
  refine to_nil ?_
  refine tn_code ?_
  refine t_seq ?_
  refine t_seq ?_
  refine t_reg ?_
  refine to_mv rfl rfl ?_
  refine to_eql rfl rfl rfl ?_
  refine to_nil ?_
  refine tn_code ?_
  refine t_if rfl (fun h1 => ?_) (fun h1 => ?_)
  · try simp only [decide_eq_true_eq, decide_eq_false_iff_not, Bool.not_eq_true', Bool.not_eq_false', Int.not_lt, Int.not_le, ne_eq, Decidable.not_not] at h1
    try have h1b := inB_iff.1 h1
    refine t_seq ?_
    refine t_reg ?_
    refine to_mv rfl rfl ?_
    refine to_as rfl rfl ?_
    refine to_nil ?_
    refine tn_code ?_
    refine t_ret1G rfl rfl (res_tmp rfl) (fun w' s => ?_)
    first | exact ⟨_, _, _, rfl, ⟨(by rw [idxI_nf (by assumption)]), (by rw [idxI_nf (by assumption)]), (by rw [idxI_nf (by assumption)])⟩, rewr_of s (by simp)⟩ | (rw [List.take_length] at *; exact ⟨_, _, _, rfl, ⟨rfl, (by simp [cmp]), rfl⟩, rewr_of s (by simp)⟩)
  · try simp only [decide_eq_true_eq, decide_eq_false_iff_not, Bool.not_eq_true', Bool.not_eq_false', Int.not_lt, Int.not_le, ne_eq, Decidable.not_not] at h1
    try have h1b := inB_iff.1 h1
    obtain ⟨i, y0, hi, hy0, hp0, hf0⟩ := idxI_cases h1
    have hi1 : i + 1 ≤ xs.length := (List.getElem?_eq_some_iff.1 hy0).1
    have hln : (((flt p (xs.take (i + 1))).length : Nat) : Int) = (i : Int) := by rw [hf0, List.length_take]; omega
    have hcmp : cmp p xs (i + 1) = xs := by
      simp only [cmp, hf0, List.length_take, Nat.min_eq_left (show i ≤ xs.length by omega), List.take_append_drop]
    refine t_skip ?_
    refine tn_code ?_
    refine t_seq ?_
    refine t_seq ?_
    refine t_reg ?_
    refine to_mv rfl rfl ?_
    refine to_add rfl rfl (by omega) rfl ?_
    refine to_as rfl rfl ?_
    refine to_nil ?_
    refine tn_code ?_
    refine t_blk ?_
    refine t_loop2 (ι := Nat) (fun j => j ≤ xs.length) (fun j => [(0, .slice (some ⟨g, 0, none⟩) xs.length cap), (1, .func (.func q) ([] : List Value).toArray cp.toArray), (5, .int .i64 ((flt p (xs.take j)).length : Int)), (6, .int .i64 (j : Int))]) (fun j => [.row (some ⟨g, 0, none⟩) xs.length cap 3 1 (ints (cmp p xs j)), .snap 0 g w, .snap (g + 1) w.heap.size w]) (fun j => xs.length - j) (i + 1) [.row (some ⟨g, 0, none⟩) xs.length cap 3 1 (ints xs), .snap 0 g w, .snap (g + 1) w.heap.size w] (by rw [hcmp]) (hi1) (⟨rfl, rfl, congrArg (fun z => some (Value.int .i64 z)) (hi.trans hln.symm), congrArg (fun z => some (Value.int .i64 (z + 1))) hi, trivial⟩) ?_
    rintro j hk
    show T _ _ _ ⟨_, [(0, .slice (some ⟨g, 0, none⟩) xs.length cap), (1, .func (.func q) ([] : List Value).toArray cp.toArray), (5, .int .i64 ((flt p (xs.take j)).length : Int)), (6, .int .i64 (j : Int))], _⟩ [.row (some ⟨g, 0, none⟩) xs.length cap 3 1 (ints (cmp p xs j)), .snap 0 g w, .snap (g + 1) w.heap.size w]
    refine t_seq ?_
    refine t_seq ?_
    refine t_reg ?_
    refine to_mv rfl rfl ?_
    refine to_mv rfl rfl ?_
    refine to_lenS rfl rfl ?_
    refine to_lss rfl rfl rfl ?_
    refine to_nil ?_
    refine tn_code ?_
    refine t_if rfl (fun h2 => ?_) (fun h2 => ?_)
    · try simp only [decide_eq_true_eq, decide_eq_false_iff_not, Bool.not_eq_true', Bool.not_eq_false', Int.not_lt, Int.not_le, ne_eq, Decidable.not_not] at h2
      try have h2b := inB_iff.1 h2
      obtain ⟨y, hy⟩ := some_get (xs := xs) (k := j) (by omega)
      have hx := map_get (f := intC) (cmp_get (p := p) hy)
      have hle := flt_le p xs j (by omega)
      obtain ⟨z, hz⟩ := some_get (xs := cmp p xs j) (k := (flt p (xs.take j)).length) (by rw [cmp_len (by omega)]; omega)
      have hx2 := map_get (f := intC) hz
      refine t_skip ?_
      refine tn_code ?_
      refine t_seq ?_
      refine t_blk ?_
      refine t_seq ?_
      refine t_reg ?_
      refine to_mv rfl rfl ?_
      refine to_mv rfl rfl ?_
      first | refine to_ix rfl rfl rfl (by first | omega | decide) (by first | omega | decide) rfl ?_ | refine to_ixi rfl rfl rfl (by omega) (by omega) (by omega) rfl ?_
      first | refine to_lds rfl rfl rfl ?_ | refine to_ldes rfl (by assumption) rfl rfl ?_
      refine to_as rfl rfl ?_
      refine to_nil ?_
      refine tn_code ?_
      refine t_seq ?_
      refine t_reg ?_
      refine to_mv rfl rfl ?_
      refine to_mv rfl rfl ?_
      refine to_call0 rfl rfl (fun w s => hq w s.ge (sameW s (by simp)) y (List.mem_of_getElem? hy)) rfl ?_
      refine to_not rfl rfl ?_
      refine to_nil ?_
      refine tn_code ?_
      refine t_if rfl (fun h3 => ?_) (fun h3 => ?_)
      · try simp only [decide_eq_true_eq, decide_eq_false_iff_not, Bool.not_eq_true', Bool.not_eq_false', Int.not_lt, Int.not_le, ne_eq, Decidable.not_not] at h3
        try have h3b := inB_iff.1 h3
        have hpf := h3
        refine t_seq ?_
        refine t_reg ?_
        refine to_mv rfl rfl ?_
        refine to_mv rfl rfl ?_
        refine to_mv rfl rfl ?_
        first | refine to_ix rfl rfl rfl (by first | omega | decide) (by first | omega | decide) rfl ?_ | refine to_ixi rfl rfl rfl (by omega) (by omega) (by omega) rfl ?_
        first | refine to_st rfl rfl rfl rfl ?_ | refine to_ste rfl rfl (by assumption) rfl rfl ?_
        refine to_nil ?_
        refine tn_code ?_
        refine t_reg ?_
        refine to_mv rfl rfl ?_
        refine to_add rfl rfl (by omega) rfl ?_
        refine to_as rfl rfl ?_
        refine to_nil ?_
        refine tn_blk ?_
        refine tn_code ?_
        refine t_reg ?_
        refine to_mv rfl rfl ?_
        refine to_add rfl rfl (by omega) rfl ?_
        refine to_as rfl rfl ?_
        refine to_nil ?_
        exact tn_loop2 (j + 1) [.row (some ⟨g, 0, none⟩) xs.length cap 3 1 ((ints (cmp p xs j)).set (flt p (xs.take j)).length [.int .i64 y]), .snap 0 g w, .snap (g + 1) w.heap.size w] (by rw [cmp_put hy hpf, ints_set]) (by omega) (by omega) (⟨rfl, rfl, congrArg (fun z => some (Value.int .i64 z)) (by rw [flt_snoc hy, if_neg (by simp [hpf]), List.length_append]; rfl), rfl, trivial⟩)
      · try simp only [decide_eq_true_eq, decide_eq_false_iff_not, Bool.not_eq_true', Bool.not_eq_false', Int.not_lt, Int.not_le, ne_eq, Decidable.not_not] at h3
        try have h3b := inB_iff.1 h3
        have hpt := h3
        refine t_skip ?_
        refine tn_blk ?_
        refine tn_code ?_
        refine t_reg ?_
        refine to_mv rfl rfl ?_
        refine to_add rfl rfl (by omega) rfl ?_
        refine to_as rfl rfl ?_
        refine to_nil ?_
        exact tn_loop2 (j + 1) [.row (some ⟨g, 0, none⟩) xs.length cap 3 1 (ints (cmp p xs j)), .snap 0 g w, .snap (g + 1) w.heap.size w] (by rw [cmp_skip hy hpt]) (by omega) (by omega) (⟨rfl, rfl, congrArg (fun z => some (Value.int .i64 z)) (by rw [flt_snoc hy, if_pos hpt]), rfl, trivial⟩)
    · try simp only [decide_eq_true_eq, decide_eq_false_iff_not, Bool.not_eq_true', Bool.not_eq_false', Int.not_lt, Int.not_le, ne_eq, Decidable.not_not] at h2
      try have h2b := inB_iff.1 h2
      have hj2 : j = xs.length := by omega
      subst hj2
      have hle := flt_le p xs xs.length (Nat.le_refl _)
      refine t_exit ?_
      refine tx_code ?_
      refine tx_inv ?_
      refine tx_blk ?_
      refine tn_code ?_
      refine t_seq ?_
      refine t_reg ?_
      refine to_mv rfl rfl ?_
      refine to_mv rfl rfl ?_
      refine to_slLW rfl rfl hle rfl ?_
      refine to_clear rfl hle ?_
      refine to_nil ?_
      refine tn_code ?_
      refine t_seq ?_
      refine t_reg ?_
      refine to_mv rfl rfl ?_
      refine to_mv rfl rfl ?_
      refine to_slH rfl rfl (Nat.le_trans hle hcap) rfl ?_
      refine to_as rfl rfl ?_
      refine to_nil ?_
      refine tn_code ?_
      refine t_ret1G rfl rfl (res_tmp rfl) (fun w' s => ?_)
      first | exact ⟨_, _, _, rfl, ⟨(by rw [idxI_nf (by assumption)]), (by rw [idxI_nf (by assumption)]), (by rw [idxI_nf (by assumption)])⟩, rewr_of s (by simp)⟩ | (rw [List.take_length] at *; exact ⟨_, _, _, rfl, ⟨rfl, (by simp [cmp]), rfl⟩, rewr_of s (by simp)⟩)

end Go.Proofs


namespace Go.Proofs
open Go Go.Sx Go.RowKit

/-! ### Shares, plainly -/
def ownK (b : Bk) : Nat → Int → Int
  | 0 => fun _ => 0
  | k + 1 => match b.lines[k]? with
    | some l => upd (ownK b k) l.hand (ownK b k l.hand + l.sheets)
    | none => ownK b k
theorem ownK_succ {b : Bk} {k : Nat} {l : Lin} (h : b.lines[k]? = some l) : ownK b (k + 1) = upd (ownK b k) l.hand (ownK b k l.hand + l.sheets) := by simp only [ownK, h]
theorem ownK_b {b : Bk} (hb : isBk b = true) : ∀ (k : Nat) (h : Int), 0 ≤ ownK b k h ∧ ownK b k h ≤ 20 * k
  | 0, h => by simp [ownK]
  | k + 1, h => by
    have ih := ownK_b hb k
    have h4 := ih h
    cases hl : b.lines[k]? with
    | some l =>
      have h2 := isLin_b (isBk_l hb (List.mem_of_getElem? hl))
      have h3 := ih l.hand
      rw [ownK_succ hl]
      simp only [upd]
      split <;> omega
    | none =>
      have : ownK b (k + 1) = ownK b k := by simp only [ownK, hl]
      rw [this]; omega
abbrev hN (b : Bk) : Nat := b.hands.toNat
def ownL (b : Bk) : List Int := restL (ownK b b.lines.length) (hN b)
def allS (b : Bk) : Int := sumI (ownL b)
theorem restL_at {g : Int → Int} {h : Nat} {q : Int} (h0 : 0 ≤ q) (h1 : q < h) : (restL g h)[q.toNat]? = some (g q) := by
  rw [restL_get (by omega)]
  rw [show ((q.toNat : Nat) : Int) = q from Int.toNat_of_nonneg h0]
theorem restL_put {g : Int → Int} {h : Nat} {q v : Int} (h0 : 0 ≤ q) (h1 : q < h) : (ints (restL g h)).set q.toNat [Value.int .i64 v] = ints (restL (upd g q v) h) := by
  have := restL_set (g := g) (h := h) (k := q.toNat) (v := v) (by omega)
  rw [show ((q.toNat : Nat) : Int) = q from Int.toNat_of_nonneg h0] at this
  exact this
theorem restL_congr {g g' : Int → Int} {h : Nat} (hg : ∀ j : Nat, j < h → g j = g' j) : restL g h = restL g' h := by
  simp only [restL]
  exact List.map_congr_left (fun j hj => hg j (List.mem_range.1 hj))
/-- The rounded shares of the first hands. -/
def q0 (b : Bk) (pr : Int) (k : Nat) : Int → Int := fun j => if j < k then pr * ownK b b.lines.length j / allS b else 0
theorem q0_put {b : Bk} {pr : Int} {k : Nat} {h : Nat} (hk : k < h) : restL (upd (q0 b pr k) k (pr * ownK b b.lines.length k / allS b)) h = restL (q0 b pr (k + 1)) h := by
  apply restL_congr
  intro j hj
  simp only [upd, q0]
  by_cases h1 : (j : Int) = (k : Int)
  · rw [if_pos h1, if_pos (by omega), h1]
  · rw [if_neg h1]
    by_cases h2 : (j : Int) < (k : Int)
    · rw [if_pos h2, if_pos (by omega)]
    · rw [if_neg h2, if_neg (by omega)]
theorem sumI_cons (x : Int) (xs : List Int) : sumI (x :: xs) = x + sumI xs := by
  have : ∀ (xs : List Int) (a : Int), xs.foldl (· + ·) a = a + xs.foldl (· + ·) 0 := by
    intro xs
    induction xs with
    | nil => intro a; simp
    | cons y ys ih => intro a; rw [List.foldl_cons, List.foldl_cons, ih, ih (0 + y)]; omega
  simp only [sumI, List.foldl_cons]
  rw [this]; omega
/-- Rounded down, a prize is not given whole, but wants less than a farthing a hand. -/
theorem floor_sum (pr al : Int) (hal : 0 < al) : ∀ (xs : List Int), al * sumI (xs.map fun x => pr * x / al) ≤ pr * sumI xs ∧ pr * sumI xs - al * sumI (xs.map fun x => pr * x / al) ≤ xs.length * (al - 1)
  | [] => by simp [sumI]
  | x :: xs => by
    have ih := floor_sum pr al hal xs
    rw [List.map_cons, sumI_cons, sumI_cons, Int.mul_add, Int.mul_add]
    have h1 := Int.mul_ediv_add_emod (pr * x) al
    have h2 := Int.emod_nonneg (pr * x) (Int.ne_of_gt hal)
    have h3 := Int.emod_lt_of_pos (pr * x) hal
    have h4 : ((x :: xs).length : Int) * (al - 1) = (xs.length : Int) * (al - 1) + (al - 1) := by
      rw [List.length_cons, Int.natCast_add, Int.add_mul]; simp
    rw [h4]
    omega

theorem ownL_len (b : Bk) : (ownL b).length = b.hands.toNat := restL_len _ _
theorem ownL_get {b : Bk} {k : Nat} (h : k < b.hands.toNat) : (ownL b)[k]? = some (ownK b b.lines.length k) := restL_get h
theorem ownL_b {b : Bk} (hb : isBk b = true) : ∀ z ∈ ownL b, 0 ≤ z ∧ z ≤ 100 := by
  intro z hz
  simp only [ownL, restL, List.mem_map] at hz
  obtain ⟨j, _, rfl⟩ := hz
  have := ownK_b hb b.lines.length j
  have := isBk_b hb
  omega
theorem sumI_nn : ∀ {xs : List Int}, (∀ z ∈ xs, 0 ≤ z) → 0 ≤ sumI xs
  | [], _ => by simp [sumI]
  | x :: xs, h => by
    rw [sumI_cons]
    have h1 := h x (List.mem_cons_self ..)
    have h2 := sumI_nn (fun z hz => h z (List.mem_cons_of_mem _ hz))
    omega
theorem allS_nn {b : Bk} (hb : isBk b = true) : 0 ≤ allS b := sumI_nn (fun z hz => (ownL_b hb z hz).1)
def lefs (k : Nat) : List Int := (List.range k).map fun (j : Nat) => (j : Int)
theorem lefs_succ (k : Nat) : ints (lefs (k + 1)) = ints (lefs k) ++ [[Value.int .i64 (k : Int)]] := by simp [lefs, List.range_succ]
theorem lefs_len (k : Nat) : (lefs k).length = k := by simp [lefs]
theorem mem_lefs {k : Nat} {y : Int} (h : y ∈ lefs k) : 0 ≤ y ∧ y < k := by
  simp only [lefs, List.mem_map, List.mem_range] at h
  obtain ⟨j, h1, rfl⟩ := h
  omega
theorem lefs_nodup (k : Nat) : (lefs k).Nodup := by
  refine List.pairwise_map.2 ((List.nodup_range (n := k)).imp (fun h h2 => h (by omega)))
def shSt (b : Bk) (pr : Int) : Nat → (Int → Int) × List Int
  | 0 => (q0 b pr b.hands.toNat, lefs b.hands.toNat)
  | m + 1 => (upd (shSt b pr m).1 (bestI (shP pr (allS b) (ownL b)) (shSt b pr m).2) ((shSt b pr m).1 (bestI (shP pr (allS b) (ownL b)) (shSt b pr m).2) + 1), flt (fun n => decide (n = bestI (shP pr (allS b) (ownL b)) (shSt b pr m).2)) (shSt b pr m).2)
theorem bestK_mem {p : Int → Int → Bool} {xs : List Int} (h : 1 ≤ xs.length) : ∀ k, k ≤ xs.length - 1 → bestK p xs k ∈ xs
  | 0, _ => by
    cases xs with
    | nil => simp at h
    | cons u us => simp [bestK]
  | k + 1, hk => by
    obtain ⟨y, hy⟩ := some_get (xs := xs) (k := k + 1) (by omega)
    rw [bestK_succ hy]
    split
    · exact List.mem_of_getElem? hy
    · exact bestK_mem h k (by omega)
theorem bestI_mem {p : Int → Int → Bool} {xs : List Int} (h : 1 ≤ xs.length) : bestI p xs ∈ xs := bestK_mem h _ (Nat.le_refl _)
theorem flt_one : ∀ {xs : List Int} {h : Int}, xs.Nodup → h ∈ xs → (flt (fun n => decide (n = h)) xs).length + 1 = xs.length
  | x :: xs, h, hn, hm => by
    have hn' := List.nodup_cons.1 hn
    by_cases hx : x = h
    · subst hx
      have : flt (fun n => decide (n = x)) xs = xs := by
        simp only [flt]
        rw [List.filter_eq_self]
        intro a ha
        simp
        intro he
        subst he
        exact hn'.1 ha
      simp only [flt] at this ⊢
      simp [List.filter_cons, this]
    · have hm2 : h ∈ xs := by
        rcases List.mem_cons.1 hm with h1 | h1
        · exact absurd h1.symm hx
        · exact h1
      have ih := flt_one hn'.2 hm2
      simp only [flt] at ih ⊢
      simp [List.filter_cons, hx, ih]
theorem shSt_inv {b : Bk} {pr : Int} : ∀ m, m ≤ b.hands.toNat → (shSt b pr m).2.length = b.hands.toNat - m ∧ (shSt b pr m).2.Nodup ∧ ∀ y ∈ (shSt b pr m).2, 0 ≤ y ∧ y < b.hands.toNat
  | 0, _ => ⟨by simp [shSt, lefs_len], lefs_nodup _, fun y hy => mem_lefs hy⟩
  | m + 1, hm => by
    obtain ⟨h1, h2, h3⟩ := shSt_inv (b := b) (pr := pr) m (by omega)
    have hmem := bestI_mem (p := shP pr (allS b) (ownL b)) (xs := (shSt b pr m).2) (by omega)
    have h4 := flt_one h2 hmem
    refine ⟨by simp only [shSt]; omega, h2.filter _, fun y hy => h3 y (List.mem_filter.1 hy).1⟩
theorem q0_b {b : Bk} {pr : Int} (hb : isBk b = true) (hp : 0 ≤ pr ∧ pr ≤ 959999) (ha : 0 < allS b) (k : Nat) (j : Int) : 0 ≤ q0 b pr k j ∧ q0 b pr k j ≤ 95999900 := by
  simp only [q0]
  split
  · have h1 := ownK_b hb b.lines.length j
    have h2 := isBk_b hb
    have h3 := mul_bd hp.1 hp.2 h1.1 (show ownK b b.lines.length j ≤ 100 by omega)
    have h4 := Int.ediv_nonneg h3.1 (Int.le_of_lt ha)
    have h5 := Int.ediv_le_self (allS b) h3.1
    omega
  · omega
theorem shSt_b {b : Bk} {pr : Int} (hb : isBk b = true) (hp : 0 ≤ pr ∧ pr ≤ 959999) (ha : 0 < allS b) : ∀ (m : Nat) (j : Int), 0 ≤ (shSt b pr m).1 j ∧ (shSt b pr m).1 j ≤ 95999900 + m
  | 0, j => by have := q0_b hb hp ha b.hands.toNat j; simp only [shSt]; omega
  | m + 1, j => by
    have ih := shSt_b hb hp ha m
    have h1 := ih j
    have h2 := ih (bestI (shP pr (allS b) (ownL b)) (shSt b pr m).2)
    simp only [shSt, upd]
    split <;> omega
def shM (b : Bk) (pr : Int) : Int := pr - sumI (restL (q0 b pr b.hands.toNat) b.hands.toNat)
theorem q0_all (b : Bk) (pr : Int) : restL (q0 b pr b.hands.toNat) b.hands.toNat = (ownL b).map fun x => pr * x / allS b := by
  simp only [ownL, restL, List.map_map]
  refine List.map_congr_left (fun j hj => ?_)
  have := List.mem_range.1 hj
  simp only [q0, Function.comp]
  rw [if_pos (by omega)]
theorem shM_b {b : Bk} {pr : Int} (hb : isBk b = true) (ha : 0 < allS b) : 0 ≤ shM b pr ∧ shM b pr < b.hands.toNat := by
  have h := floor_sum pr (allS b) ha (ownL b)
  have hs : sumI (ownL b) = allS b := rfl
  rw [hs, ← q0_all, ownL_len] at h
  have hh := isBk_b hb
  simp only [shM]
  generalize sumI (restL (q0 b pr b.hands.toNat) b.hands.toNat) = S at *
  have e : pr * allS b - allS b * S = allS b * (pr - S) := by rw [Int.mul_sub, Int.mul_comm pr]
  constructor
  · have h1 : 0 ≤ allS b * (pr - S) := by omega
    by_cases hn : pr - S < 0
    · have := Int.mul_neg_of_pos_of_neg ha hn
      omega
    · omega
  · by_cases hn : (b.hands.toNat : Int) ≤ pr - S
    · have h2 := Int.mul_le_mul_of_nonneg_left hn (Int.le_of_lt ha)
      have h3 : allS b * (pr - S) ≤ (b.hands.toNat : Int) * (allS b - 1) := by omega
      have h4 : (b.hands.toNat : Int) * (allS b - 1) = allS b * (b.hands.toNat : Int) - b.hands.toNat := by rw [Int.mul_sub, Int.mul_one, Int.mul_comm]
      omega
    · omega
def payShare (b : Bk) (pr : Int) : List Int × Int := if isBk b && isSum pr then (if allS b = 0 then ([], 5) else (restL (shSt b pr (shM b pr).toNat).1 b.hands.toNat, 0)) else ([], 2)

end Go.Proofs


namespace Go.Proofs
open Go Go.Sx Go.RowKit

theorem sum_at (xs : List Int) (n : Nat) (a : Option Addr) (c : Nat) (w : World) (hl : xs.length = n) (hr : Ro w 0 w.heap.size a n c 1 (ints xs)) (hn : n ≤ 1000) (hb : ∀ x ∈ xs, 0 ≤ x ∧ x ≤ 1099511627776) : Calls Tryz.prog 50 #[.slice a n c] w (RetV w (.int .i64 (sumI xs))) := by
  subst hl; exact pay_sum xs a c w hr hn hb

theorem best_at (xs : List Int) (n : Nat) (a : Option Addr) (c q : Nat) (cp : List Value) (p : Int → Int → Bool) (w : World) [hfq : FnOk Tryz.prog q] (hl : xs.length = n) (hr : Ro w 0 w.heap.size a n c 1 (ints xs)) (hn : 1 ≤ n ∧ n ≤ 1000) (hq : ∀ w', Below w.heap.size w w' → ∀ y o, y ∈ xs → o ∈ xs → Calls Tryz.prog q ([] ++ ([Value.int .i64 y, Value.int .i64 o] ++ cp)).toArray w' (RetV w' (.bool (p y o)))) : Calls Tryz.prog 51 #[.slice a n c, .func (.func q) ([] : List Value).toArray cp.toArray] w (RetV w (.int .i64 (bestI p xs))) := by
  subst hl; exact pay_best xs a c q cp p w hr hn hq

set_option maxRecDepth 20000 in
theorem pay_Share (b : Bk) (a : Option Addr) (c : Nat) (pr : Int) (w : World) (hr : Ro w 0 w.heap.size a b.lines.length c 10 (b.lines.map linC)) : Calls Tryz.prog 14 #[bkV b a c, (.int .i64 pr)] w (Ret w (RSlE (payShare b pr).1 (payShare b pr).2)) := by
  refine calls_T (av := [_, _]) Tryz.func14 rfl rfl rfl ?_
  refine t_seq ?_
  refine t_reg ?_
  refine to_box rfl rfl (fun b2 => ?_)
  refine to_box rfl rfl (fun b3 => ?_)
  refine to_as rfl rfl ?_
  refine to_as rfl rfl ?_
  refine to_nil ?_
  refine tn_code ?_
  refine t_seq ?_
  refine t_seq ?_
  refine t_reg ?_
  first | refine to_lda rfl rfl rfl ?_ | refine to_ldea rfl (by assumption) rfl rfl ?_
  refine to_call0 rfl rfl (fun w s => pay_isBook b a c w (rdw s)) rfl ?_
  refine to_not rfl rfl ?_
  refine to_mv rfl rfl ?_
  refine to_gs rfl rfl rfl (fun h1 => ?_) (fun h1 => ?_)
  · try simp only [decide_eq_true_eq, decide_eq_false_iff_not, Bool.not_eq_true', Bool.not_eq_false', Int.not_lt, Int.not_le, ne_eq, Decidable.not_not] at h1
    try have h1b := inB_iff.1 h1
    refine to_gf rfl rfl rfl rfl ?_
    refine to_gf rfl rfl rfl rfl ?_
    refine to_gf rfl rfl rfl rfl ?_
    refine to_pkT rfl rfl rfl ?_
    refine to_nil ?_
    refine tn_code ?_
    refine t_ifT rfl ?_
    refine t_seq ?_
    refine t_reg ?_
    refine to_as rfl rfl ?_
    refine to_as rfl rfl ?_
    refine to_nil ?_
    refine tn_code ?_
    refine t_ret2 rfl rfl (res_tmp rfl) (res_tmp rfl) (fun w' s => ?_)
    first | (rw [show payShare b pr = ([], 2) from by simp_all [payShare]]; exact ⟨_, _, rfl, Ro.nil _ _ _ _⟩) | (rw [show payShare b pr = ([], 5) from by simp [payShare, hb, hsm, hz]]; exact ⟨_, _, rfl, Ro.nil _ _ _ _⟩) | (rw [show payShare b pr = (restL (shSt b pr (shM b pr).toNat).1 b.hands.toNat, 0) from by simp [payShare, hb, hsm, hz]]; exact rsle_of (restL_len _ _) (ro_row s))
  · try simp only [decide_eq_true_eq, decide_eq_false_iff_not, Bool.not_eq_true', Bool.not_eq_false', Int.not_lt, Int.not_le, ne_eq, Decidable.not_not] at h1
    try have h1b := inB_iff.1 h1
    have hb := h1
    have hbb := isBk_b hb
    refine to_gt rfl rfl ?_
    first | refine to_lds rfl rfl rfl ?_ | refine to_ldes rfl (by assumption) rfl rfl ?_
    refine to_gt rfl rfl ?_
    refine to_call0 rfl rfl (fun w s => pay_isSum _ w) rfl ?_
    refine to_gt rfl rfl ?_
    refine to_not rfl rfl ?_
    refine to_pkF rfl rfl rfl ?_
    refine to_nil ?_
    refine tn_code ?_
    refine t_if rfl (fun h2 => ?_) (fun h2 => ?_)
    · try simp only [decide_eq_true_eq, decide_eq_false_iff_not, Bool.not_eq_true', Bool.not_eq_false', Int.not_lt, Int.not_le, ne_eq, Decidable.not_not] at h2
      try have h2b := inB_iff.1 h2
      refine t_seq ?_
      refine t_reg ?_
      refine to_as rfl rfl ?_
      refine to_as rfl rfl ?_
      refine to_nil ?_
      refine tn_code ?_
      refine t_ret2 rfl rfl (res_tmp rfl) (res_tmp rfl) (fun w' s => ?_)
      first | (rw [show payShare b pr = ([], 2) from by simp_all [payShare]]; exact ⟨_, _, rfl, Ro.nil _ _ _ _⟩) | (rw [show payShare b pr = ([], 5) from by simp [payShare, hb, hsm, hz]]; exact ⟨_, _, rfl, Ro.nil _ _ _ _⟩) | (rw [show payShare b pr = (restL (shSt b pr (shM b pr).toNat).1 b.hands.toNat, 0) from by simp [payShare, hb, hsm, hz]]; exact rsle_of (restL_len _ _) (ro_row s))
    · try simp only [decide_eq_true_eq, decide_eq_false_iff_not, Bool.not_eq_true', Bool.not_eq_false', Int.not_lt, Int.not_le, ne_eq, Decidable.not_not] at h2
      try have h2b := inB_iff.1 h2
      have hsm := h2
      have hpb := isSum_b hsm
      refine t_skip ?_
      refine tn_code ?_
      refine t_seq ?_
      refine t_reg ?_
      first | refine to_fa rfl rfl rfl (by simp only [Nat.reduceAdd]; rfl) rfl ?_ | refine to_fae rfl rfl rfl (by simp only [Nat.reduceAdd]; rfl) rfl ?_
      first | refine to_lds rfl rfl rfl ?_ | refine to_ldes rfl (by assumption) rfl rfl ?_
      refine to_mksi rfl rfl (by omega) (by omega) (by decide) rfl (fun a24 => ?_)
      refine to_alloc rfl (fun b6 => ?_)
      first | refine to_st rfl rfl rfl rfl ?_ | refine to_ste rfl rfl (by assumption) rfl rfl ?_
      refine to_nil ?_
      refine tn_code ?_
      refine t_seq ?_
      refine t_seq ?_
      refine t_reg ?_
      first | refine to_fa rfl rfl rfl (by simp only [Nat.reduceAdd]; rfl) rfl ?_ | refine to_fae rfl rfl rfl (by simp only [Nat.reduceAdd]; rfl) rfl ?_
      first | refine to_lds rfl rfl rfl ?_ | refine to_ldes rfl (by assumption) rfl rfl ?_
      refine to_lenS rfl rfl ?_
      refine to_mv rfl rfl ?_
      refine to_nil ?_
      refine tn_code ?_
      refine t_blk ?_
      refine t_loop2 (ι := Nat) (fun k => k ≤ b.lines.length) (fun k => [(2, (.pointer (some ⟨b2, 0, none⟩))), (3, (.pointer (some ⟨b3, 0, none⟩))), (6, (.pointer (some ⟨b6, 0, none⟩))), (26, .slice a b.lines.length c), (27, .int .i64 (b.lines.length : Int)), (28, .int .i64 (k : Int))]) (fun k => [.row a24 b.hands.toNat b.hands.toNat 3 1 (ints (restL (ownK b k) b.hands.toNat)), .own b6 (isC [.slice a24 b.hands.toNat b.hands.toNat] 27), .own b3 (isC [.int .i64 pr] 3), .own b2 (isC (bkC b a c) 24), .snap 0 w.heap.size w]) (fun k => b.lines.length - k) (0) [.row a24 b.hands.toNat b.hands.toNat 3 1 (List.replicate b.hands.toNat [Value.int .i64 0]), .own b6 (isC [.slice a24 b.hands.toNat b.hands.toNat] 27), .own b3 (isC [.int .i64 pr] 3), .own b2 (isC (bkC b a c) 24), .snap 0 w.heap.size w] (by rw [restL_zero]; rfl) (Nat.zero_le _) (⟨rfl, rfl, rfl, rfl, rfl, rfl, trivial⟩) ?_
      rintro k hk
      show T _ _ _ ⟨_, [(2, (.pointer (some ⟨b2, 0, none⟩))), (3, (.pointer (some ⟨b3, 0, none⟩))), (6, (.pointer (some ⟨b6, 0, none⟩))), (26, .slice a b.lines.length c), (27, .int .i64 (b.lines.length : Int)), (28, .int .i64 (k : Int))], _⟩ [.row a24 b.hands.toNat b.hands.toNat 3 1 (ints (restL (ownK b k) b.hands.toNat)), .own b6 (isC [.slice a24 b.hands.toNat b.hands.toNat] 27), .own b3 (isC [.int .i64 pr] 3), .own b2 (isC (bkC b a c) 24), .snap 0 w.heap.size w]
      refine t_seq ?_
      refine t_reg ?_
      refine to_lss rfl rfl rfl ?_
      refine to_nil ?_
      refine tn_code ?_
      refine t_seq ?_
      refine t_if rfl (fun h3 => ?_) (fun h3 => ?_)
      · try simp only [decide_eq_true_eq, decide_eq_false_iff_not, Bool.not_eq_true', Bool.not_eq_false', Int.not_lt, Int.not_le, ne_eq, Decidable.not_not] at h3
        try have h3b := inB_iff.1 h3
        obtain ⟨l, hl⟩ := some_get (xs := b.lines) (k := k) (by omega)
        have hx := map_get (f := linC) hl
        have hlb := isLin_b (isBk_l hb (List.mem_of_getElem? hl))
        have hq0 : 0 ≤ l.hand ∧ l.hand < (b.hands.toNat : Nat) := by omega
        have hx2 := map_get (f := intC) (restL_at (g := ownK b k) hq0.1 hq0.2)
        have hkb := ownK_b hb k l.hand
        refine t_skip ?_
        refine tn_code ?_
        refine t_seq ?_
        refine t_blk ?_
        refine t_seq ?_
        refine t_reg ?_
        first | refine to_ix rfl rfl rfl (by first | omega | decide) (by first | omega | decide) rfl ?_ | refine to_ixi rfl rfl rfl (by omega) (by omega) (by omega) rfl ?_
        first | refine to_lda rfl rfl rfl ?_ | refine to_ldea rfl (by assumption) rfl rfl ?_
        refine to_alloc rfl (fun b8 => ?_)
        first | refine to_st rfl rfl rfl rfl ?_ | refine to_ste rfl rfl (by assumption) rfl rfl ?_
        refine to_nil ?_
        refine tn_code ?_
        refine t_regM [9] [.row a24 b.hands.toNat b.hands.toNat 3 1 (ints (restL (ownK b k) b.hands.toNat)), .own b8 (isC (linC l) 52), .own b6 (isC [.slice a24 b.hands.toNat b.hands.toNat] 27), .own b3 (isC [.int .i64 pr] 3), .own b2 (isC (bkC b a c) 24), .snap 0 w.heap.size w] rfl (by kernel_rfl) (by kernel_rfl) ?_
        refine tm_q ?e1 rfl ?q1 ?r1
        case q1 =>
          first | refine to_lds rfl rfl rfl ?_ | refine to_ldes rfl (by assumption) rfl rfl ?_
          exact tmq_end
        refine tm_q ?e2 rfl ?q2 ?r2
        case q2 =>
          first | refine to_fa rfl rfl rfl (by simp only [Nat.reduceAdd]; rfl) rfl ?_ | refine to_fae rfl rfl rfl (by simp only [Nat.reduceAdd]; rfl) rfl ?_
          exact tmq_end
        refine tm_q ?e3 rfl ?q3 ?r3
        case q3 =>
          first | refine to_lds rfl rfl rfl ?_ | refine to_ldes rfl (by assumption) rfl rfl ?_
          exact tmq_end
        refine tm_q ?e4 rfl ?q4 ?r4
        case q4 =>
          first | refine to_ix rfl rfl rfl (by first | omega | decide) (by first | omega | decide) rfl ?_ | refine to_ixi rfl rfl rfl (by omega) (by omega) (by omega) rfl ?_
          exact tmq_end
        refine tm_q ?e5 rfl ?q5 ?r5
        case q5 =>
          first | refine to_lds rfl rfl rfl ?_ | refine to_ldes rfl (by assumption) rfl rfl ?_
          exact tmq_end
        refine tm_q ?e6 rfl ?q6 ?r6
        case q6 =>
          first | refine to_fa rfl rfl rfl (by simp only [Nat.reduceAdd]; rfl) rfl ?_ | refine to_fae rfl rfl rfl (by simp only [Nat.reduceAdd]; rfl) rfl ?_
          exact tmq_end
        refine tm_q ?e7 rfl ?q7 ?r7
        case q7 =>
          first | refine to_lds rfl rfl rfl ?_ | refine to_ldes rfl (by assumption) rfl rfl ?_
          exact tmq_end
        refine tm_q ?e8 rfl ?q8 ?r8
        case q8 =>
          refine to_add rfl rfl (by omega) rfl ?_
          exact tmq_end
        refine tm_q ?e9 rfl ?q9 ?r9
        case q9 =>
          first | refine to_ix rfl rfl rfl (by first | omega | decide) (by first | omega | decide) rfl ?_ | refine to_ixi rfl rfl rfl (by omega) (by omega) (by omega) rfl ?_
          exact tmq_end
        refine tm_s rfl ?_ (fun _ h => by cases h) rfl
        first | refine to_st rfl rfl rfl rfl ?_ | refine to_ste rfl rfl (by assumption) rfl rfl ?_
        refine tm_sl (by kernel_rfl) rfl rfl ?_
        refine tn_blk ?_
        refine tn_code ?_
        refine t_reg ?_
        refine to_add rfl rfl (by omega) rfl ?_
        refine to_mv rfl rfl ?_
        refine to_nil ?_
        exact tn_loop2 (k + 1) [.row a24 b.hands.toNat b.hands.toNat 3 1 ((ints (restL (ownK b k) b.hands.toNat)).set l.hand.toNat [Value.int .i64 (ownK b k l.hand + l.sheets)]), .own b6 (isC [.slice a24 b.hands.toNat b.hands.toNat] 27), .own b3 (isC [.int .i64 pr] 3), .own b2 (isC (bkC b a c) 24), .snap 0 w.heap.size w] (by rw [restL_put hq0.1 hq0.2, ownK_succ hl]) (by omega) (by omega) (⟨rfl, rfl, rfl, rfl, rfl, rfl, trivial⟩)
      · try simp only [decide_eq_true_eq, decide_eq_false_iff_not, Bool.not_eq_true', Bool.not_eq_false', Int.not_lt, Int.not_le, ne_eq, Decidable.not_not] at h3
        try have h3b := inB_iff.1 h3
        have hk2 : k = b.lines.length := by omega
        subst hk2
        have han := allS_nn hb
        refine t_exit ?_
        refine tx_code ?_
        refine tx_inv ?_
        refine tx_blk ?_
        refine tn_code ?_
        refine t_seq ?_
        refine t_reg ?_
        first | refine to_lds rfl rfl rfl ?_ | refine to_ldes rfl (by assumption) rfl rfl ?_
        refine to_call0 rfl rfl (fun w s => sum_at (ownL b) b.hands.toNat a24 b.hands.toNat w (ownL_len b) (rdw s) (by omega) (fun z hz => by have := ownL_b hb z hz; omega)) rfl ?_
        refine to_alloc rfl (fun b9 => ?_)
        first | refine to_st rfl rfl rfl rfl ?_ | refine to_ste rfl rfl (by assumption) rfl rfl ?_
        refine to_nil ?_
        refine tn_code ?_
        refine t_seq ?_
        refine t_seq ?_
        refine t_reg ?_
        first | refine to_lds rfl rfl rfl ?_ | refine to_ldes rfl (by assumption) rfl rfl ?_
        refine to_eql rfl rfl rfl ?_
        refine to_nil ?_
        refine tn_code ?_
        refine t_if rfl (fun h4 => ?_) (fun h4 => ?_)
        · try simp only [decide_eq_true_eq, decide_eq_false_iff_not, Bool.not_eq_true', Bool.not_eq_false', Int.not_lt, Int.not_le, ne_eq, Decidable.not_not] at h4
          try have h4b := inB_iff.1 h4
          have hz : allS b = 0 := h4
          refine t_seq ?_
          refine t_reg ?_
          refine to_as rfl rfl ?_
          refine to_as rfl rfl ?_
          refine to_nil ?_
          refine tn_code ?_
          refine t_ret2 rfl rfl (res_tmp rfl) (res_tmp rfl) (fun w' s => ?_)
          first | (rw [show payShare b pr = ([], 2) from by simp_all [payShare]]; exact ⟨_, _, rfl, Ro.nil _ _ _ _⟩) | (rw [show payShare b pr = ([], 5) from by simp [payShare, hb, hsm, hz]]; exact ⟨_, _, rfl, Ro.nil _ _ _ _⟩) | (rw [show payShare b pr = (restL (shSt b pr (shM b pr).toNat).1 b.hands.toNat, 0) from by simp [payShare, hb, hsm, hz]]; exact rsle_of (restL_len _ _) (ro_row s))
        · try simp only [decide_eq_true_eq, decide_eq_false_iff_not, Bool.not_eq_true', Bool.not_eq_false', Int.not_lt, Int.not_le, ne_eq, Decidable.not_not] at h4
          try have h4b := inB_iff.1 h4
          have hz : ¬ allS b = 0 := h4
          have hap : 0 < allS b := by omega
          refine t_skip ?_
          refine tn_code ?_
          refine t_seq ?_
          refine t_reg ?_
          first | refine to_fa rfl rfl rfl (by simp only [Nat.reduceAdd]; rfl) rfl ?_ | refine to_fae rfl rfl rfl (by simp only [Nat.reduceAdd]; rfl) rfl ?_
          first | refine to_lds rfl rfl rfl ?_ | refine to_ldes rfl (by assumption) rfl rfl ?_
          refine to_mksi rfl rfl (by omega) (by omega) (by decide) rfl (fun a48 => ?_)
          refine to_as rfl rfl ?_
          refine to_nil ?_
          refine tn_code ?_
          refine t_seq ?_
          refine t_reg ?_
          refine to_as rfl rfl ?_
          refine to_nil ?_
          refine tn_code ?_
          refine t_seq ?_
          refine t_seq ?_
          refine t_reg ?_
          first | refine to_fa rfl rfl rfl (by simp only [Nat.reduceAdd]; rfl) rfl ?_ | refine to_fae rfl rfl rfl (by simp only [Nat.reduceAdd]; rfl) rfl ?_
          first | refine to_lds rfl rfl rfl ?_ | refine to_ldes rfl (by assumption) rfl rfl ?_
          refine to_mv rfl rfl ?_
          refine to_nil ?_
          refine tn_code ?_
          refine t_blk ?_
          refine t_nilrow 3 1 ?_
          refine t_loop2 (ι := Nat × Option Addr × Nat) (fun ((k, a', c') : Nat × Option Addr × Nat) => k ≤ b.hands.toNat) (fun ((k, a', c') : Nat × Option Addr × Nat) => [(2, (.pointer (some ⟨b2, 0, none⟩))), (3, (.pointer (some ⟨b3, 0, none⟩))), (6, (.pointer (some ⟨b6, 0, none⟩))), (9, (.pointer (some ⟨b9, 0, none⟩))), (10, .slice a48 b.hands.toNat b.hands.toNat), (11, .slice a' k c'), (50, .int .i64 b.hands), (51, .int .i64 (k : Int))]) (fun ((k, a', c') : Nat × Option Addr × Nat) => [.row a' k c' 3 1 (ints (lefs k)), .row a48 b.hands.toNat b.hands.toNat 3 1 (ints (restL (q0 b pr k) b.hands.toNat)), .row a24 b.hands.toNat b.hands.toNat 3 1 (ints (ownL b)), .own b9 (isC [.int .i64 (allS b)] 3), .own b6 (isC [.slice a24 b.hands.toNat b.hands.toNat] 27), .own b3 (isC [.int .i64 pr] 3), .own b2 (isC (bkC b a c) 24), .snap 0 w.heap.size w]) (fun ((k, a', c') : Nat × Option Addr × Nat) => b.hands.toNat - k) ((0, none, 0)) [.row none 0 0 3 1 [], .row a48 b.hands.toNat b.hands.toNat 3 1 (List.replicate b.hands.toNat [Value.int .i64 0]), .row a24 b.hands.toNat b.hands.toNat 3 1 (ints (restL (ownK b b.lines.length) b.hands.toNat)), .own b9 (isC [.int .i64 (sumI (ownL b))] 3), .own b6 (isC [.slice a24 b.hands.toNat b.hands.toNat] 27), .own b3 (isC [.int .i64 pr] 3), .own b2 (isC (bkC b a c) 24), .snap 0 w.heap.size w] (by dsimp only; rw [restL_zero, restL_congr (g := q0 b pr 0) (g' := fun _ => 0) (fun j _ => by simp only [q0]; rw [if_neg (by omega)])]; rfl) (Nat.zero_le _) (⟨rfl, rfl, rfl, rfl, rfl, rfl, rfl, rfl, trivial⟩) ?_
          rintro ⟨k, a', c'⟩ hk
          try dsimp only at hk
          show T _ _ _ ⟨_, [(2, (.pointer (some ⟨b2, 0, none⟩))), (3, (.pointer (some ⟨b3, 0, none⟩))), (6, (.pointer (some ⟨b6, 0, none⟩))), (9, (.pointer (some ⟨b9, 0, none⟩))), (10, .slice a48 b.hands.toNat b.hands.toNat), (11, .slice a' k c'), (50, .int .i64 b.hands), (51, .int .i64 (k : Int))], _⟩ [.row a' k c' 3 1 (ints (lefs k)), .row a48 b.hands.toNat b.hands.toNat 3 1 (ints (restL (q0 b pr k) b.hands.toNat)), .row a24 b.hands.toNat b.hands.toNat 3 1 (ints (ownL b)), .own b9 (isC [.int .i64 (allS b)] 3), .own b6 (isC [.slice a24 b.hands.toNat b.hands.toNat] 27), .own b3 (isC [.int .i64 pr] 3), .own b2 (isC (bkC b a c) 24), .snap 0 w.heap.size w]
          refine t_seq ?_
          refine t_reg ?_
          refine to_lss rfl rfl rfl ?_
          refine to_nil ?_
          refine tn_code ?_
          refine t_seq ?_
          refine t_if rfl (fun h5 => ?_) (fun h5 => ?_)
          · try simp only [decide_eq_true_eq, decide_eq_false_iff_not, Bool.not_eq_true', Bool.not_eq_false', Int.not_lt, Int.not_le, ne_eq, Decidable.not_not] at h5
            try have h5b := inB_iff.1 h5
            have hkn : k < b.hands.toNat := by omega
            have hx := map_get (f := intC) (ownL_get hkn)
            have hx2 := map_get (f := intC) (restL_get (g := q0 b pr k) hkn)
            have hkb := ownK_b hb b.lines.length k
            have hm3 := mul_bd (B := 959999) (C := 100) hpb.1 hpb.2 hkb.1 (by omega)
            refine t_skip ?_
            refine tn_code ?_
            refine t_seq ?_
            refine t_blk ?_
            refine t_seq ?_
            refine t_reg ?_
            refine to_mv rfl rfl ?_
            refine to_as rfl rfl ?_
            refine to_nil ?_
            refine tn_code ?_
            refine t_seq ?_
            refine t_regM [11] [.row a' k c' 3 1 (ints (lefs k)), .row a48 b.hands.toNat b.hands.toNat 3 1 (ints (restL (q0 b pr k) b.hands.toNat)), .row a24 b.hands.toNat b.hands.toNat 3 1 (ints (ownL b)), .own b9 (isC [.int .i64 (allS b)] 3), .own b6 (isC [.slice a24 b.hands.toNat b.hands.toNat] 27), .own b3 (isC [.int .i64 pr] 3), .own b2 (isC (bkC b a c) 24), .snap 0 w.heap.size w] rfl (by kernel_rfl) (by kernel_rfl) ?_
            refine tm_q ?e10 rfl ?q10 ?r10
            case q10 =>
              refine to_mv rfl rfl ?_
              exact tmq_end
            refine tm_q ?e11 rfl ?q11 ?r11
            case q11 =>
              refine to_mv rfl rfl ?_
              exact tmq_end
            refine tm_q ?e12 rfl ?q12 ?r12
            case q12 =>
              first | refine to_lds rfl rfl rfl ?_ | refine to_ldes rfl (by assumption) rfl rfl ?_
              exact tmq_end
            refine tm_q ?e13 rfl ?q13 ?r13
            case q13 =>
              first | refine to_lds rfl rfl rfl ?_ | refine to_ldes rfl (by assumption) rfl rfl ?_
              exact tmq_end
            refine tm_q ?e14 rfl ?q14 ?r14
            case q14 =>
              refine to_mv rfl rfl ?_
              exact tmq_end
            refine tm_q ?e15 rfl ?q15 ?r15
            case q15 =>
              first | refine to_ix rfl rfl rfl (by first | omega | decide) (by first | omega | decide) rfl ?_ | refine to_ixi rfl rfl rfl (by omega) (by omega) (by omega) rfl ?_
              exact tmq_end
            refine tm_q ?e16 rfl ?q16 ?r16
            case q16 =>
              first | refine to_lds rfl rfl rfl ?_ | refine to_ldes rfl (by assumption) rfl rfl ?_
              exact tmq_end
            refine tm_q ?e17 rfl ?q17 ?r17
            case q17 =>
              refine to_mul rfl rfl (by first | omega | exact mul_ok (by omega) (by omega) (by omega) (by omega)) rfl ?_
              exact tmq_end
            refine tm_q ?e18 rfl ?q18 ?r18
            case q18 =>
              first | refine to_lds rfl rfl rfl ?_ | refine to_ldes rfl (by assumption) rfl rfl ?_
              exact tmq_end
            refine tm_q ?e19 rfl ?q19 ?r19
            case q19 =>
              refine to_quo rfl rfl (by omega) (by omega) rfl ?_
              exact tmq_end
            refine tm_q ?e20 rfl ?q20 ?r20
            case q20 =>
              first | refine to_ix rfl rfl rfl (by first | omega | decide) (by first | omega | decide) rfl ?_ | refine to_ixi rfl rfl rfl (by omega) (by omega) (by omega) rfl ?_
              exact tmq_end
            refine tm_s rfl ?_ (fun _ h => by cases h) rfl
            first | refine to_st rfl rfl rfl rfl ?_ | refine to_ste rfl rfl (by assumption) rfl rfl ?_
            refine tm_sl (by kernel_rfl) rfl rfl ?_
            refine tn_code ?_
            refine t_reg ?_
            refine to_mv rfl rfl ?_
            refine to_mv rfl rfl ?_
            refine to_bsl rfl rfl rfl rfl (fun a67 => ?_)
            refine to_app rfl rfl rfl (by simp [scals, scal]) (by decide) (by omega) (by decide) rfl (fun a68 c68 => ?_)
            refine to_as rfl rfl ?_
            refine to_nil ?_
            refine tn_blk ?_
            refine tn_code ?_
            refine t_reg ?_
            refine to_add rfl rfl (by omega) rfl ?_
            refine to_mv rfl rfl ?_
            refine to_nil ?_
            exact tn_loop2 ((k + 1, a68, c68)) [.row a68 (k + 1) c68 3 1 (ints (lefs k) ++ [[Value.int .i64 (k : Int)]]), .row a48 b.hands.toNat b.hands.toNat 3 1 ((ints (restL (q0 b pr k) b.hands.toNat)).set k [Value.int .i64 (pr * ownK b b.lines.length k / allS b)]), .row a24 b.hands.toNat b.hands.toNat 3 1 (ints (ownL b)), .own b9 (isC [.int .i64 (allS b)] 3), .own b6 (isC [.slice a24 b.hands.toNat b.hands.toNat] 27), .own b3 (isC [.int .i64 pr] 3), .own b2 (isC (bkC b a c) 24), .snap 0 w.heap.size w] (by dsimp only; rw [lefs_succ, ← q0_put hkn, ← restL_set hkn]) (by dsimp only; omega) (by dsimp only; omega) (⟨rfl, rfl, rfl, rfl, rfl, rfl, rfl, rfl, trivial⟩)
          · try simp only [decide_eq_true_eq, decide_eq_false_iff_not, Bool.not_eq_true', Bool.not_eq_false', Int.not_lt, Int.not_le, ne_eq, Decidable.not_not] at h5
            try have h5b := inB_iff.1 h5
            have hk2 : k = b.hands.toNat := by omega
            subst hk2
            have hMb := shM_b (pr := pr) hb hap
            have hMe : shM b pr = pr - sumI (restL (q0 b pr b.hands.toNat) b.hands.toNat) := rfl
            refine t_exit ?_
            refine tx_code ?_
            refine tx_inv ?_
            refine tx_blk ?_
            refine tn_code ?_
            refine t_seq ?_
            refine t_seq ?_
            refine t_regD rfl (by kernel_rfl) (by kernel_rfl) ?_
            first | refine to_lds rfl rfl rfl ?_ | refine to_ldes rfl (by assumption) rfl rfl ?_
            refine to_mv rfl rfl ?_
            refine to_call0 rfl rfl (fun w s => sum_at (restL (q0 b pr b.hands.toNat) b.hands.toNat) b.hands.toNat a48 b.hands.toNat w (restL_len _ _) (rdw s) (by omega) (fun z hz => by simp only [restL, List.mem_map] at hz; obtain ⟨j, _, rfl⟩ := hz; have := q0_b hb hpb hap b.hands.toNat j; omega)) rfl ?_
            refine to_sub rfl rfl (by omega) rfl ?_
            refine to_mv rfl rfl ?_
            refine to_nil ?_
            refine tn_code ?_
            refine t_blk ?_
            refine t_rowg (a := a') (by omega) (fun g hg => ?_)
            subst hg
            refine t_loop2 (ι := Nat) (fun m => (m : Int) ≤ shM b pr) (fun m => [(2, (.pointer (some ⟨b2, 0, none⟩))), (3, (.pointer (some ⟨b3, 0, none⟩))), (6, (.pointer (some ⟨b6, 0, none⟩))), (9, (.pointer (some ⟨b9, 0, none⟩))), (10, .slice a48 b.hands.toNat b.hands.toNat), (11, .slice (some ⟨g, 0, none⟩) (shSt b pr m).2.length c'), (73, .int .i64 (shM b pr)), (74, .int .i64 (m : Int))]) (fun m => [.row (some ⟨g, 0, none⟩) (shSt b pr m).2.length c' 3 1 (ints (shSt b pr m).2), .row a48 b.hands.toNat b.hands.toNat 3 1 (ints (restL (shSt b pr m).1 b.hands.toNat)), .row a24 b.hands.toNat b.hands.toNat 3 1 (ints (ownL b)), .own b9 (isC [.int .i64 (allS b)] 3), .own b6 (isC [.slice a24 b.hands.toNat b.hands.toNat] 27), .own b3 (isC [.int .i64 pr] 3), .own b2 (isC (bkC b a c) 24), .snap 0 w.heap.size w]) (fun m => (shM b pr).toNat - m) (0) [.row (some ⟨g, 0, none⟩) b.hands.toNat c' 3 1 (ints (lefs b.hands.toNat)), .row a48 b.hands.toNat b.hands.toNat 3 1 (ints (restL (q0 b pr b.hands.toNat) b.hands.toNat)), .row a24 b.hands.toNat b.hands.toNat 3 1 (ints (ownL b)), .own b9 (isC [.int .i64 (allS b)] 3), .own b6 (isC [.slice a24 b.hands.toNat b.hands.toNat] 27), .own b3 (isC [.int .i64 pr] 3), .own b2 (isC (bkC b a c) 24), .snap 0 w.heap.size w] (by simp only [shSt, lefs_len]) (hMb.1) (⟨rfl, rfl, rfl, rfl, rfl, congrArg (fun z => some (Value.slice (some ⟨g, 0, none⟩) z c')) (lefs_len _).symm, rfl, rfl, trivial⟩) ?_
            rintro m hk
            show T _ _ _ ⟨_, [(2, (.pointer (some ⟨b2, 0, none⟩))), (3, (.pointer (some ⟨b3, 0, none⟩))), (6, (.pointer (some ⟨b6, 0, none⟩))), (9, (.pointer (some ⟨b9, 0, none⟩))), (10, .slice a48 b.hands.toNat b.hands.toNat), (11, .slice (some ⟨g, 0, none⟩) (shSt b pr m).2.length c'), (73, .int .i64 (shM b pr)), (74, .int .i64 (m : Int))], _⟩ [.row (some ⟨g, 0, none⟩) (shSt b pr m).2.length c' 3 1 (ints (shSt b pr m).2), .row a48 b.hands.toNat b.hands.toNat 3 1 (ints (restL (shSt b pr m).1 b.hands.toNat)), .row a24 b.hands.toNat b.hands.toNat 3 1 (ints (ownL b)), .own b9 (isC [.int .i64 (allS b)] 3), .own b6 (isC [.slice a24 b.hands.toNat b.hands.toNat] 27), .own b3 (isC [.int .i64 pr] 3), .own b2 (isC (bkC b a c) 24), .snap 0 w.heap.size w]
            refine t_seq ?_
            refine t_reg ?_
            refine to_lss rfl rfl rfl ?_
            refine to_nil ?_
            refine tn_code ?_
            refine t_seq ?_
            refine t_if rfl (fun h6 => ?_) (fun h6 => ?_)
            · try simp only [decide_eq_true_eq, decide_eq_false_iff_not, Bool.not_eq_true', Bool.not_eq_false', Int.not_lt, Int.not_le, ne_eq, Decidable.not_not] at h6
              try have h6b := inB_iff.1 h6
              have hmM : (m : Int) < shM b pr := h6
              have hinv := shSt_inv (b := b) (pr := pr) m (by omega)
              have hbm := bestI_mem (p := shP pr (allS b) (ownL b)) (xs := (shSt b pr m).2) (by omega)
              have hbr := hinv.2.2 _ hbm
              have hx := map_get (f := intC) (restL_at (g := (shSt b pr m).1) hbr.1 hbr.2)
              have hfb := shSt_b hb hpb hap m (bestI (shP pr (allS b) (ownL b)) (shSt b pr m).2)
              refine t_skip ?_
              refine tn_code ?_
              refine t_seq ?_
              refine t_blk ?_
              refine t_seq ?_
              refine t_reg ?_
              refine to_mv rfl rfl ?_
              refine to_mf rfl rfl rfl ?_
              refine to_call0 rfl rfl (fun w s => best_at (shSt b pr m).2 (shSt b pr m).2.length (some ⟨g, 0, none⟩) c' 52 [(.pointer (some ⟨b3, 0, none⟩)), (.pointer (some ⟨b6, 0, none⟩)), (.pointer (some ⟨b9, 0, none⟩))] (shP pr (allS b) (ownL b)) w rfl (rdw s) (by omega) (fun w' hbl y o hy ho => c_Share1 pr (allS b) y o (ownL b) a24 b.hands.toNat b3 b6 b9 w' (rbw (s.below hbl)) (by rw [ownL_len]; exact rbw (s.below hbl)) (rbw (s.below hbl)) (by rw [ownL_len]; exact rdw (s.below hbl)) (by rw [ownL_len]; exact hinv.2.2 y hy) (by rw [ownL_len]; exact hinv.2.2 o ho) hpb hap (fun z hz => by have := ownL_b hb z hz; omega))) rfl ?_
              refine to_alloc rfl (fun b13 => ?_)
              first | refine to_st rfl rfl rfl rfl ?_ | refine to_ste rfl rfl (by assumption) rfl rfl ?_
              refine to_nil ?_
              refine tn_code ?_
              refine t_seq ?_
              refine t_reg ?_
              refine to_mv rfl rfl ?_
              first | refine to_lds rfl rfl rfl ?_ | refine to_ldes rfl (by assumption) rfl rfl ?_
              first | refine to_ix rfl rfl rfl (by first | omega | decide) (by first | omega | decide) rfl ?_ | refine to_ixi rfl rfl rfl (by omega) (by omega) (by omega) rfl ?_
              first | refine to_lds rfl rfl rfl ?_ | refine to_ldes rfl (by assumption) rfl rfl ?_
              refine to_add rfl rfl (by omega) rfl ?_
              first | refine to_ix rfl rfl rfl (by first | omega | decide) (by first | omega | decide) rfl ?_ | refine to_ixi rfl rfl rfl (by omega) (by omega) (by omega) rfl ?_
              first | refine to_st rfl rfl rfl rfl ?_ | refine to_ste rfl rfl (by assumption) rfl rfl ?_
              refine to_nil ?_
              refine tn_code ?_
              refine t_reg ?_
              refine to_mv rfl rfl ?_
              refine to_mf rfl rfl rfl ?_
              refine to_callW (a := some ⟨g, 0, none⟩) (R := DelR g c' (flt (fun n => decide (n = (bestI (shP pr (allS b) (ownL b)) (shSt b pr m).2))) (shSt b pr m).2)) rfl rfl (fun w s => c_delete (shSt b pr m).2 g c' 54 [(.pointer (some ⟨b13, 0, none⟩))] (fun n => decide (n = (bestI (shP pr (allS b) (ownL b)) (shSt b pr m).2))) w s.row_ok (by omega) (fun w' hsz hsame y hy => c_Share2 y (bestI (shP pr (allS b) (ownL b)) (shSt b pr m).2) b13 w' ?_)) rfl ?_
              · obtain ⟨r1, r2, t9, r3⟩ := rbw s (b := b13)
                exact ⟨r1, Nat.lt_of_lt_of_le r2 hsz, t9, (hsame b13 r2 s.own_ne).trans r3⟩
              rintro n' ys v ⟨rfl, rfl, rfl⟩
              refine to_as rfl rfl ?_
              refine to_nil ?_
              refine tn_blk ?_
              refine tn_code ?_
              refine t_reg ?_
              refine to_add rfl rfl (by omega) rfl ?_
              refine to_mv rfl rfl ?_
              refine to_nil ?_
              exact tn_loop2 (m + 1) [.row (some ⟨g, 0, none⟩) (flt (fun n => decide (n = (bestI (shP pr (allS b) (ownL b)) (shSt b pr m).2))) (shSt b pr m).2).length c' 3 1 (ints (flt (fun n => decide (n = (bestI (shP pr (allS b) (ownL b)) (shSt b pr m).2))) (shSt b pr m).2)), .row a48 b.hands.toNat b.hands.toNat 3 1 ((ints (restL (shSt b pr m).1 b.hands.toNat)).set (bestI (shP pr (allS b) (ownL b)) (shSt b pr m).2).toNat [Value.int .i64 ((shSt b pr m).1 (bestI (shP pr (allS b) (ownL b)) (shSt b pr m).2) + 1)]), .row a24 b.hands.toNat b.hands.toNat 3 1 (ints (ownL b)), .own b9 (isC [.int .i64 (allS b)] 3), .own b6 (isC [.slice a24 b.hands.toNat b.hands.toNat] 27), .own b3 (isC [.int .i64 pr] 3), .own b2 (isC (bkC b a c) 24), .snap 0 w.heap.size w] (by rw [restL_put hbr.1 hbr.2]; rfl) (by omega) (by omega) (⟨rfl, rfl, rfl, rfl, rfl, rfl, rfl, rfl, trivial⟩)
            · try simp only [decide_eq_true_eq, decide_eq_false_iff_not, Bool.not_eq_true', Bool.not_eq_false', Int.not_lt, Int.not_le, ne_eq, Decidable.not_not] at h6
              try have h6b := inB_iff.1 h6
              have hmM : m = (shM b pr).toNat := by have h9 : shM b pr ≤ m := h6; omega
              subst hmM
              refine t_exit ?_
              refine tx_code ?_
              refine tx_inv ?_
              refine tx_blk ?_
              refine tn_code ?_
              refine t_seq ?_
              refine t_reg ?_
              refine to_mv rfl rfl ?_
              refine to_as rfl rfl ?_
              refine to_as rfl rfl ?_
              refine to_nil ?_
              refine tn_code ?_
              refine t_ret2 rfl rfl (res_tmp rfl) (res_tmp rfl) (fun w' s => ?_)
              first | (rw [show payShare b pr = ([], 2) from by simp_all [payShare]]; exact ⟨_, _, rfl, Ro.nil _ _ _ _⟩) | (rw [show payShare b pr = ([], 5) from by simp [payShare, hb, hsm, hz]]; exact ⟨_, _, rfl, Ro.nil _ _ _ _⟩) | (rw [show payShare b pr = (restL (shSt b pr (shM b pr).toNat).1 b.hands.toNat, 0) from by simp [payShare, hb, hsm, hz]]; exact rsle_of (restL_len _ _) (ro_row s))

end Go.Proofs


namespace Go.Proofs
open Go Go.Sx Go.RowKit

/-! # What is plain about texts -/

abbrev Bs := List UInt8
@[reducible] def strV (l : Bs) : Value := .string ⟨l.toArray⟩
@[reducible] def strC (l : Bs) : List Value := [.string ⟨l.toArray⟩]
@[reducible] def strs (xs : List Bs) : List (List Value) := xs.map strC

def dg1 (n : Int) : UInt8 := UInt8.ofNat (48 + n.toNat)
def decB (n : Int) : Bs := if n < 10 then [dg1 n] else if n < 100 then [dg1 (n / 10), dg1 (n % 10)] else [dg1 (n / 100), dg1 (n / 10 % 10), dg1 (n % 10)]

theorem decDigits_step {u : Nat} (h : ¬ u < 10) : Lib.decDigits u = Lib.decDigits (u / 10) ++ [UInt8.ofNat (48 + u % 10)] := by
  rw [Lib.decDigits, dif_neg h]
theorem itoa_dec {n : Int} (h : 0 ≤ n ∧ n ≤ 999) : Lib.itoa n = decB n := by
  obtain ⟨u, rfl⟩ := Int.eq_ofNat_of_zero_le h.1
  have hu : u ≤ 999 := by omega
  rw [Lib.itoa, if_neg (by omega), Int.toNat_natCast]
  simp only [decB, dg1]
  by_cases h1 : u < 10
  · rw [if_pos (by omega), Lib.decDigits_one h1]; simp
  · rw [if_neg (by omega)]
    by_cases h2 : u < 100
    · rw [if_pos (by omega), Lib.decDigits_two h1 h2]
      have e1 : ((u : Int) / 10).toNat = u / 10 := by omega
      have e2 : ((u : Int) % 10).toNat = u % 10 := by omega
      rw [e1, e2]
    · rw [if_neg (by omega), decDigits_step h1, Lib.decDigits_two (by omega) (by omega)]
      have e1 : ((u : Int) / 100).toNat = u / 10 / 10 := by omega
      have e2 : ((u : Int) / 10 % 10).toNat = u / 10 % 10 := by omega
      have e3 : ((u : Int) % 10).toNat = u % 10 := by omega
      rw [e1, e2, e3]; rfl
theorem decB_len (n : Int) : 1 ≤ (decB n).length ∧ (decB n).length ≤ 3 := by
  simp only [decB]; split
  · simp
  · split <;> simp
theorem decB_one {n : Int} (h : n < 10) : decB n = [dg1 n] := by simp only [decB, if_pos h]

def isNum (n : Int) : Bool := inB n 0 999

/-! ### Lines and their ends -/

def rowW (word : Bs) (ns : List Int) : Nat → Bs
  | 0 => word
  | k + 1 => rowW word ns k ++ ([32] ++ decB (ns.getD k 0))
theorem rowW_succ {word : Bs} {ns : List Int} {k : Nat} {y : Int} (h : ns[k]? = some y) : rowW word ns (k + 1) = rowW word ns k ++ ([32] ++ decB y) := by
  simp [rowW, List.getD, h]
theorem rowW_len (word : Bs) (ns : List Int) : ∀ k, word.length ≤ (rowW word ns k).length ∧ (rowW word ns k).length ≤ word.length + 4 * k
  | 0 => by simp [rowW]
  | k + 1 => by
    have ih := rowW_len word ns k
    have := decB_len (ns.getD k 0)
    simp only [rowW, List.length_append, List.length_cons, List.length_nil]; omega
def rowB (word : Bs) (ns : List Int) : Bs := rowW word ns ns.length

def chkC (i : Nat) (w : Bs) : Nat → Int
  | 0 => 0
  | k + 1 => chkC i w k + (((w.getD k 0).toNat : Nat) : Int) * ((k : Int) + 1) * ((i : Int) + 1)
def chkR (ws : List Bs) : Nat → Int
  | 0 => 0
  | i + 1 => chkR ws i + chkC i (ws.getD i []) (ws.getD i []).length
theorem chkC_succ {i : Nat} {w : Bs} {k : Nat} {c : UInt8} (h : w[k]? = some c) : chkC i w (k + 1) = chkC i w k + ((c.toNat : Nat) : Int) * ((k : Int) + 1) * ((i : Int) + 1) := by
  simp [chkC, List.getD, h]
theorem chkR_succ {ws : List Bs} {i : Nat} {w : Bs} (h : ws[i]? = some w) : chkR ws (i + 1) = chkR ws i + chkC i w w.length := by
  simp [chkR, List.getD, h]
def linesT (ws : List Bs) : Nat → Bs
  | 0 => []
  | i + 1 => linesT ws i ++ (ws.getD i [] ++ [10])
theorem linesT_succ {ws : List Bs} {i : Nat} {w : Bs} (h : ws[i]? = some w) : linesT ws (i + 1) = linesT ws i ++ (w ++ [10]) := by
  simp [linesT, List.getD, h]
def sealB (ws : List Bs) (m : Int) : Bs :=
  linesT ws ws.length ++ [101, 110, 100, 32] ++ decB (chkR ws ws.length % m / 100) ++ decB (chkR ws ws.length % m / 10 % 10) ++ decB (chkR ws ws.length % m % 10) ++ [10]

theorem u8_le (c : UInt8) : c.toNat ≤ 255 := by have := c.toNat_lt; omega
theorem chkC_b {i : Nat} {w : Bs} (hi : i ≤ 1000) : ∀ k, k ≤ 100 → 0 ≤ chkC i w k ∧ chkC i w k ≤ (k : Int) * 25525500
  | 0, _ => by simp [chkC]
  | k + 1, hk => by
    have ih := chkC_b (w := w) hi k (by omega)
    have h1 := u8_le (w.getD k 0)
    have h2 := mul_bd (a := (((w.getD k 0).toNat : Nat) : Int)) (b := (k : Int) + 1) (B := 255) (C := 100) (by omega) (by omega) (by omega) (by omega)
    have h3 := mul_bd (a := (((w.getD k 0).toNat : Nat) : Int) * ((k : Int) + 1)) (b := (i : Int) + 1) (B := 25500) (C := 1001) (by omega) (by omega) (by omega) (by omega)
    simp only [chkC]; omega
theorem chkR_b {ws : List Bs} (hw : ∀ w ∈ ws, w.length ≤ 100) : ∀ i, i ≤ ws.length → ws.length ≤ 1000 → 0 ≤ chkR ws i ∧ chkR ws i ≤ (i : Int) * 2552550000
  | 0, _, _ => by simp [chkR]
  | i + 1, hi, hn => by
    have ih := chkR_b hw i (by omega) hn
    obtain ⟨w, h⟩ := some_get (xs := ws) (k := i) (by omega)
    have h1 := hw w (List.mem_of_getElem? h)
    have h2 := chkC_b (i := i) (w := w) (by omega) w.length h1
    rw [chkR_succ h]; omega
theorem linesT_len {ws : List Bs} (hw : ∀ w ∈ ws, w.length ≤ 100) : ∀ i, i ≤ ws.length → (linesT ws i).length ≤ 101 * i
  | 0, _ => by simp [linesT]
  | i + 1, hi => by
    have ih := linesT_len hw i (by omega)
    obtain ⟨w, h⟩ := some_get (xs := ws) (k := i) (by omega)
    have h1 := hw w (List.mem_of_getElem? h)
    rw [linesT_succ h]
    simp only [List.length_append, List.length_cons, List.length_nil]; omega

/-! ### Books -/

@[reducible] def hdN (b : Bk) : List Int := [b.hands, b.unit, b.sheet, b.error, b.morning, b.post]
@[reducible] def lnN (l : Lin) : List Int := [l.hand, l.sheets, l.lo, l.hi, l.mor, l.pos, l.paid.p, l.paid.s, l.paid.d, l.paid.f]
def wPay : Bs := [112, 97, 121]
def wLine : Bs := [108, 105, 110, 101]
def hdB (b : Bk) : Bs := rowB wPay (hdN b)
def lnB (l : Lin) : Bs := rowB wLine (lnN l)
def rowsB (b : Bk) : List Bs := hdB b :: b.lines.map lnB
def textB (b : Bk) : Bs := sealB (rowsB b) 263
/-- What can be written: numbers of at most three digits. -/
def numsOk (b : Bk) : Prop := (∀ n ∈ hdN b, 0 ≤ n ∧ n ≤ 999) ∧ (∀ l ∈ b.lines, ∀ n ∈ lnN l, 0 ≤ n ∧ n ≤ 999) ∧ b.lines.length ≤ 900

theorem numsOk_of {b : Bk} (h : isBk b = true) : numsOk b := by
  have h1 := isBk_b h
  refine ⟨fun n hn => ?_, fun l hl n hn => ?_, by omega⟩
  · simp only [List.mem_cons, List.not_mem_nil, or_false] at hn
    omega
  · have h2 := isLin_b (isBk_l h hl)
    have h3 := isMon_b h2.2.2.2.2.2.2
    simp only [List.mem_cons, List.not_mem_nil, or_false] at hn
    omega
theorem rowsB_len (b : Bk) : (rowsB b).length = b.lines.length + 1 := by simp [rowsB]
theorem hdB_len (b : Bk) : (hdB b).length ≤ 27 := by have := rowW_len wPay (hdN b) 6; simp [wPay] at this; exact this.2
theorem lnB_len (l : Lin) : (lnB l).length ≤ 44 := by have := rowW_len wLine (lnN l) 10; simp [wLine] at this; exact this.2
theorem rowsB_each (b : Bk) : ∀ w ∈ rowsB b, w.length ≤ 100 := by
  intro w hw
  rcases List.mem_cons.1 hw with rfl | hw
  · have := hdB_len b; omega
  · obtain ⟨l, _, rfl⟩ := List.mem_map.1 hw
    have := lnB_len l; omega
theorem rowsB_hd (b : Bk) : (rowsB b)[0]? = some (hdB b) := rfl
theorem rowsB_ln {b : Bk} {k : Nat} {l : Lin} (h : b.lines[k]? = some l) : (rowsB b)[k + 1]? = some (lnB l) := by simp [rowsB, h]

/-! ### Numbers out of words -/

def isDg (c : UInt8) : Bool := decide (48 ≤ c.toNat) && decide (c.toNat ≤ 57)
def valK (w : Bs) : Nat → Int
  | 0 => 0
  | k + 1 => 10 * valK w k + (((w.getD k 0).toNat : Int) - 48)
theorem valK_succ {w : Bs} {k : Nat} {c : UInt8} (h : w[k]? = some c) : valK w (k + 1) = 10 * valK w k + ((c.toNat : Int) - 48) := by
  simp [valK, List.getD, h]
theorem valK_b {w : Bs} {k : Nat} (hd : ∀ j, j < k → ∀ c, w[j]? = some c → isDg c = true) (hk : k ≤ w.length) (h3 : k ≤ 3) : 0 ≤ valK w k ∧ valK w k ≤ 999 := by
  have key : ∀ j, j ≤ k → 0 ≤ valK w j ∧ (j = 0 → valK w j ≤ 0) ∧ (j = 1 → valK w j ≤ 9) ∧ (j = 2 → valK w j ≤ 99) ∧ (j = 3 → valK w j ≤ 999) := by
    intro j
    induction j with
    | zero => intro _; simp [valK]
    | succ j ih =>
      intro hj
      have ih := ih (by omega)
      obtain ⟨c, hc⟩ := some_get (xs := w) (k := j) (by omega)
      have h := hd j (by omega) c hc
      simp only [isDg, Bool.and_eq_true, decide_eq_true_eq] at h
      rw [valK_succ hc]
      refine ⟨by omega, by omega, fun h => ?_, fun h => ?_, fun h => ?_⟩ <;> omega
  have := key k (Nat.le_refl _)
  omega
def numB (w : Bs) : Option Int := if w ≠ [] ∧ w.length ≤ 3 ∧ w.all isDg = true ∧ decB (valK w w.length) = w then some (valK w w.length) else none
theorem numB_b {w : Bs} {n : Int} (h : numB w = some n) : 0 ≤ n ∧ n ≤ 999 := by
  simp only [numB] at h
  split at h
  · rename_i hc
    cases h
    exact valK_b (fun j _ c hj => List.all_eq_true.1 hc.2.2.1 c (List.mem_of_getElem? hj)) (Nat.le_refl _) hc.2.1
  · cases h

/-! ### Parts between one byte -/

def splitL (c : UInt8) : Bs → List Bs
  | [] => [[]]
  | x :: xs => if x = c then [] :: splitL c xs else match splitL c xs with
    | [] => [[x]]
    | w :: ws => (x :: w) :: ws
theorem splitL_len (c : UInt8) : ∀ s, 1 ≤ (splitL c s).length ∧ (splitL c s).length ≤ s.length + 1
  | [] => by simp [splitL]
  | x :: xs => by
    have ih := splitL_len c xs
    simp only [splitL]
    split
    · simp; omega
    · split
      · simp
      · rename_i w ws he; rw [he] at ih; simp at ih ⊢; omega

/-! ### Texts read -/

def numsB : List Bs → Option (List Int)
  | [] => some []
  | w :: ws => match numB w with
    | none => none
    | some n => match numsB ws with
      | none => none
      | some ns => some (n :: ns)
theorem numsB_snoc : ∀ (ws : List Bs) (w : Bs), numsB (ws ++ [w]) = match numsB ws with
    | none => none
    | some ns => match numB w with
      | none => none
      | some n => some (ns ++ [n])
  | [], w => by simp only [List.nil_append, numsB]
  | v :: ws, w => by
    rw [List.cons_append, numsB, numsB_snoc ws w, numsB]
    cases numB v with
    | none => rfl
    | some n =>
      cases numsB ws with
      | none => rfl
      | some ns => cases numB w <;> rfl
theorem numsB_none : ∀ {ws : List Bs} {w : Bs} {k : Nat}, ws[k]? = some w → numB w = none → numsB ws = none
  | v :: ws, w, 0, h, hn => by simp at h; subst h; simp [numsB, hn]
  | v :: ws, w, k + 1, h, hn => by
    rw [numsB, numsB_none (by simpa using h) hn]
    cases numB v <;> rfl
theorem numsB_b : ∀ {ws : List Bs} {ns : List Int}, numsB ws = some ns → ns.length = ws.length ∧ ∀ n ∈ ns, 0 ≤ n ∧ n ≤ 999
  | [], ns, h => by simp [numsB] at h; subst h; simp
  | v :: ws, ns, h => by
    rw [numsB] at h
    cases hv : numB v with
    | none => rw [hv] at h; cases h
    | some n =>
      rw [hv] at h
      cases hw : numsB ws with
      | none => rw [hw] at h; cases h
      | some us =>
        rw [hw] at h
        cases h
        obtain ⟨h1, h2⟩ := numsB_b hw
        refine ⟨by simp [h1], fun n hn => ?_⟩
        rcases List.mem_cons.1 hn with rfl | hn
        · exact numB_b hv
        · exact h2 n hn

/-- A row's numbers: those behind its first word. -/
def rowN (r : Bs) : Option (List Int) := numsB ((splitL 32 r).drop 1)
def bk0 : Bk := ⟨0, 0, 0, 0, 0, 0, []⟩
def hdOf (n : List Int) : Bk := ⟨n.getD 0 0, n.getD 1 0, n.getD 2 0, n.getD 3 0, n.getD 4 0, n.getD 5 0, []⟩
def lnOf (n : List Int) : Lin := ⟨n.getD 0 0, n.getD 1 0, n.getD 2 0, n.getD 3 0, n.getD 4 0, n.getD 5 0, ⟨n.getD 6 0, n.getD 7 0, n.getD 8 0, n.getD 9 0⟩⟩
def stepB (i : Nat) (r : Bs) (b : Bk) : Option Bk := match rowN r with
  | none => none
  | some n => if i = 0 then (if n.length = 6 then some (hdOf n) else none) else (if n.length = 10 then some { b with lines := b.lines ++ [lnOf n] } else none)
/-- The book of some rows. -/
def bkK (rows : List Bs) : Nat → Option Bk
  | 0 => some bk0
  | i + 1 => match bkK rows i with
    | none => none
    | some b => stepB i (rows.getD i []) b
theorem bkK_succ {rows : List Bs} {i : Nat} {b : Bk} {r : Bs} (hb : bkK rows i = some b) (hr : rows[i]? = some r) : bkK rows (i + 1) = stepB i r b := by
  simp [bkK, hb, List.getD, hr]
theorem bkK_none {rows : List Bs} {i : Nat} (h : bkK rows i = none) : ∀ j, i ≤ j → bkK rows j = none := by
  intro j hj
  induction j with
  | zero =>
    have : i = 0 := by omega
    rw [this] at h; exact h
  | succ j ih =>
    by_cases hi : i = j + 1
    · rw [← hi]; exact h
    · rw [bkK, ih (by omega)]
theorem bkK_ok {rows : List Bs} : ∀ {i : Nat} {b : Bk}, bkK rows i = some b → ((∀ n ∈ hdN b, 0 ≤ n ∧ n ≤ 999) ∧ (∀ l ∈ b.lines, ∀ n ∈ lnN l, 0 ≤ n ∧ n ≤ 999)) ∧ b.lines.length + 1 = max i 1
  | 0, b, h => by
    simp only [bkK, Option.some.injEq] at h; subst h
    exact ⟨⟨fun n hn => by (simp [hdN, bk0] at hn; first | done | omega), fun l hl => by simp [bk0] at hl⟩, rfl⟩
  | i + 1, b, h => by
    rw [bkK] at h
    cases hi : bkK rows i with
    | none => rw [hi] at h; cases h
    | some b0 =>
      rw [hi] at h
      have ih := bkK_ok hi
      simp only [stepB] at h
      cases hn : rowN (rows.getD i []) with
      | none => rw [hn] at h; cases h
      | some ns =>
        rw [hn] at h
        have hb := (numsB_b hn).2
        have hg : ∀ k, 0 ≤ ns.getD k 0 ∧ ns.getD k 0 ≤ 999 := by
          intro k
          rw [List.getD]
          cases hk : ns[k]? with
          | none => simp
          | some y => exact hb y (List.mem_of_getElem? hk)
        simp only at h
        split at h
        · rename_i h0
          split at h
          · cases h
            refine ⟨⟨fun n hn => ?_, fun l hl => by simp [hdOf] at hl⟩, by simp [hdOf, h0]⟩
            simp only [hdN, hdOf, List.mem_cons, List.not_mem_nil, or_false] at hn
            rcases hn with rfl | rfl | rfl | rfl | rfl | rfl <;> exact hg _
          · cases h
        · rename_i h0
          split at h
          · cases h
            refine ⟨⟨ih.1.1, fun l hl n hn => ?_⟩, by simp; omega⟩
            rcases List.mem_append.1 hl with hl | hl
            · exact ih.1.2 l hl n hn
            · simp only [List.mem_singleton] at hl
              subst hl
              simp only [lnN, lnOf, List.mem_cons, List.not_mem_nil, or_false] at hn
              rcases hn with rfl | rfl | rfl | rfl | rfl | rfl | rfl | rfl | rfl | rfl <;> exact hg _
          · cases h
def parseB (s : Bs) : Option Bk :=
  if 3 ≤ (splitL 10 s).length then match bkK (splitL 10 s) ((splitL 10 s).length - 2) with
    | none => none
    | some b => if textB b = s then some b else none
  else none
def payRead (s : Bs) : Bk × Int :=
  if 230 < s.length then (bk0, 3) else match parseB s with
    | none => (bk0, 4)
    | some b => if isBk b then (b, 0) else (bk0, 2)

end Go.Proofs


namespace Go.Proofs
open Go.Shelf
def Tryz.laysM171_ren : Go.Shelf.Ren := ⟨fun | 171 => 97 | 243 => 109 | 246 => 112 | 283 => 116 | 284 => 117 | 285 => 118 | 286 => 119 | 129 => 125 | 317 => 124 | 318 => 126 | 319 => 127 | 320 => 128 | 337 => 134 | 338 => 135 | n => n, fun | 3 => 3 | 9 => 9 | 2 => 2 | 4 => 4 | 171 => 144 | 0 => 0 | 53 => 145 | 37 => 65 | 5 => 5 | 173 => 148 | 212 => 154 | 51 => 155 | 20 => 20 | 213 => 156 | 46 => 157 | 232 => 166 | 233 => 167 | n => n, fun | 17 => 0 | 18 => 4 | 19 => 5 | n => n⟩
theorem Tryz.laysM171 : Go.Proofs.LaysM.n171 Tryz.prog Tryz.laysM171_ren := {
  mixed := by kernel_rfl
  f129 := Tryz.func125.trans (congrArg some (by kernel_rfl))
  f171 := Tryz.func97.trans (congrArg some (by kernel_rfl))
  f243 := Tryz.func109.trans (congrArg some (by kernel_rfl))
  f246 := Tryz.func112.trans (congrArg some (by kernel_rfl))
  f283 := Tryz.func116.trans (congrArg some (by kernel_rfl))
  f284 := Tryz.func117.trans (congrArg some (by kernel_rfl))
  f285 := Tryz.func118.trans (congrArg some (by kernel_rfl))
  f286 := Tryz.func119.trans (congrArg some (by kernel_rfl))
  f317 := Tryz.func124.trans (congrArg some (by kernel_rfl))
  f318 := Tryz.func126.trans (congrArg some (by kernel_rfl))
  f319 := Tryz.func127.trans (congrArg some (by kernel_rfl))
  f320 := Tryz.func128.trans (congrArg some (by kernel_rfl))
  f337 := Tryz.func134.trans (congrArg some (by kernel_rfl))
  f338 := Tryz.func135.trans (congrArg some (by kernel_rfl))
  t0 := Tryz.underlying0
  a0 := Tryz.isAgg0
  z0 := Tryz.sizeOf0
  v0 := Tryz.zeroValue0
  t2 := Tryz.underlying2
  a2 := Tryz.isAgg2
  z2 := Tryz.sizeOf2
  v2 := Tryz.zeroValue2
  t3 := Tryz.underlying3
  a3 := Tryz.isAgg3
  z3 := Tryz.sizeOf3
  v3 := Tryz.zeroValue3
  t4 := Tryz.underlying4
  a4 := Tryz.isAgg4
  z4 := Tryz.sizeOf4
  v4 := Tryz.zeroValue4
  t5 := Tryz.underlying5
  a5 := Tryz.isAgg5
  z5 := Tryz.sizeOf5
  v5 := Tryz.zeroValue5
  t9 := Tryz.underlying9
  a9 := Tryz.isAgg9
  z9 := Tryz.sizeOf9
  v9 := Tryz.zeroValue9
  t20 := Tryz.underlying20
  a20 := Tryz.isAgg20
  z20 := Tryz.sizeOf20
  v20 := Tryz.zeroValue20
  t37 := Tryz.underlying65
  a37 := Tryz.isAgg65
  z37 := Tryz.sizeOf65
  v37 := Tryz.zeroValue65
  t46 := Tryz.underlying157
  a46 := Tryz.isAgg157
  z46 := Tryz.sizeOf157
  v46 := Tryz.zeroValue157
  t51 := Tryz.underlying155
  a51 := Tryz.isAgg155
  z51 := Tryz.sizeOf155
  v51 := Tryz.zeroValue155
  t53 := Tryz.underlying145
  a53 := Tryz.isAgg145
  z53 := Tryz.sizeOf145
  v53 := Tryz.zeroValue145
  t171 := Tryz.underlying144
  a171 := Tryz.isAgg144
  z171 := Tryz.sizeOf144
  v171 := Tryz.zeroValue144
  t173 := Tryz.underlying148
  a173 := Tryz.isAgg148
  z173 := Tryz.sizeOf148
  v173 := Tryz.zeroValue148
  t212 := Tryz.underlying154
  a212 := Tryz.isAgg154
  z212 := Tryz.sizeOf154
  v212 := Tryz.zeroValue154
  t213 := Tryz.underlying156
  a213 := Tryz.isAgg156
  z213 := Tryz.sizeOf156
  t232 := Tryz.underlying166
  a232 := Tryz.isAgg166
  z232 := Tryz.sizeOf166
  v232 := Tryz.zeroValue166
  t233 := Tryz.underlying167
  a233 := Tryz.isAgg167
  z233 := Tryz.sizeOf167
  v233 := Tryz.zeroValue167
  g17 := by kernel_rfl
  g18 := by kernel_rfl
  g19 := by kernel_rfl
  i0 := by kernel_rfl
  i2 := by kernel_rfl
  i3 := by kernel_rfl
  i4 := by kernel_rfl
  i5 := by kernel_rfl
  i9 := by kernel_rfl
  i20 := by kernel_rfl
  i37 := by kernel_rfl
  i46 := by kernel_rfl
  i51 := by kernel_rfl
  i53 := by kernel_rfl
  i171 := by kernel_rfl
  i173 := by kernel_rfl
  i212 := by kernel_rfl
  i232 := by kernel_rfl
  i233 := by kernel_rfl
  m17 := by kernel_rfl
  m18 := by kernel_rfl
  m19 := by kernel_rfl }
open Go.RowKit Go.Sort Go.Lib in
theorem Tryz.strconv_Itoa (n : Int) (h0 : -9223372036854775808 ≤ n) (h1 : n ≤ 9223372036854775807) (w : World) (htab : Lib.TabIs Tryz.prog w "internal/strconv.uint64pow10" .u64 Lib.pow10Tab) :
    Calls Tryz.prog 97 #[.int .i64 n] w fun e w' => e = .returned (.string ⟨(Lib.itoa n).toArray⟩) ∧ ∃ k os, w' = grow (w.drewN k) os := Any.strconv_Itoa Tryz.laysM171 n h0 h1 w htab
def Tryz.lays146_ren : Go.Shelf.Ren := ⟨fun | 146 => 99 | 221 => 110 | 268 => 113 | 138 => 114 | 143 => 115 | 195 => 120 | 197 => 121 | 218 => 122 | 219 => 123 | 260 => 129 | 217 => 130 | 225 => 131 | 224 => 132 | 267 => 133 | 266 => 136 | 314 => 137 | n => n, fun | 9 => 9 | 31 => 96 | 3 => 3 | 4 => 4 | 0 => 0 | 105 => 150 | 21 => 21 | 5 => 5 | 46 => 157 | 119 => 160 | 139 => 163 | 138 => 162 | 146 => 164 | 51 => 155 | n => n, fun | 1 => 1 | 3 => 2 | 4 => 3 | n => n⟩
theorem Tryz.lays146 : Go.Proofs.Lays.n146 Tryz.prog Tryz.lays146_ren := {
  mixed := by kernel_rfl
  f138 := Tryz.func114.trans (congrArg some (by kernel_rfl))
  f143 := Tryz.func115.trans (congrArg some (by kernel_rfl))
  f146 := Tryz.func99.trans (congrArg some (by kernel_rfl))
  f195 := Tryz.func120.trans (congrArg some (by kernel_rfl))
  f197 := Tryz.func121.trans (congrArg some (by kernel_rfl))
  f217 := Tryz.func130.trans (congrArg some (by kernel_rfl))
  f218 := Tryz.func122.trans (congrArg some (by kernel_rfl))
  f219 := Tryz.func123.trans (congrArg some (by kernel_rfl))
  f221 := Tryz.func110.trans (congrArg some (by kernel_rfl))
  f224 := Tryz.func132.trans (congrArg some (by kernel_rfl))
  f225 := Tryz.func131.trans (congrArg some (by kernel_rfl))
  f260 := Tryz.func129.trans (congrArg some (by kernel_rfl))
  f266 := Tryz.func136.trans (congrArg some (by kernel_rfl))
  f267 := Tryz.func133.trans (congrArg some (by kernel_rfl))
  f268 := Tryz.func113.trans (congrArg some (by kernel_rfl))
  f314 := Tryz.func137.trans (congrArg some (by kernel_rfl))
  t0 := Tryz.underlying0
  a0 := Tryz.isAgg0
  z0 := Tryz.sizeOf0
  v0 := Tryz.zeroValue0
  t3 := Tryz.underlying3
  a3 := Tryz.isAgg3
  z3 := Tryz.sizeOf3
  v3 := Tryz.zeroValue3
  t4 := Tryz.underlying4
  a4 := Tryz.isAgg4
  z4 := Tryz.sizeOf4
  v4 := Tryz.zeroValue4
  t5 := Tryz.underlying5
  a5 := Tryz.isAgg5
  z5 := Tryz.sizeOf5
  v5 := Tryz.zeroValue5
  t9 := Tryz.underlying9
  a9 := Tryz.isAgg9
  z9 := Tryz.sizeOf9
  v9 := Tryz.zeroValue9
  t21 := Tryz.underlying21
  a21 := Tryz.isAgg21
  z21 := Tryz.sizeOf21
  v21 := Tryz.zeroValue21
  t31 := Tryz.underlying96
  a31 := Tryz.isAgg96
  z31 := Tryz.sizeOf96
  v31 := Tryz.zeroValue96
  t46 := Tryz.underlying157
  a46 := Tryz.isAgg157
  z46 := Tryz.sizeOf157
  v46 := Tryz.zeroValue157
  t51 := Tryz.underlying155
  a51 := Tryz.isAgg155
  z51 := Tryz.sizeOf155
  v51 := Tryz.zeroValue155
  t105 := Tryz.underlying150
  a105 := Tryz.isAgg150
  z105 := Tryz.sizeOf150
  v105 := Tryz.zeroValue150
  t119 := Tryz.underlying160
  a119 := Tryz.isAgg160
  z119 := Tryz.sizeOf160
  t138 := Tryz.underlying162
  a138 := Tryz.isAgg162
  z138 := Tryz.sizeOf162
  v138 := Tryz.zeroValue162
  t139 := Tryz.underlying163
  a139 := Tryz.isAgg163
  z139 := Tryz.sizeOf163
  v139 := Tryz.zeroValue163
  t146 := Tryz.underlying164
  a146 := Tryz.isAgg164
  z146 := Tryz.sizeOf164
  v146 := Tryz.zeroValue164
  g1 := by kernel_rfl
  g3 := by kernel_rfl
  g4 := by kernel_rfl }
open Go.RowKit Go.Lib in
theorem Tryz.strings_Split (s sep : ByteArray) (m : Int) (w : World) (hs : s.size < 4294967281) (hm : w.cell? ⟨1, 0, none⟩ = some (.int .i64 m)) (h1 : 1 ≤ sep.size) :
    Calls Tryz.prog 99 #[.string s, .string sep] w fun e w' =>
      e = .returned (.slice (some ⟨w.heap.size, 0, none⟩) (Lib.countB s sep + 1) (Lib.countB s sep + 1)) ∧ w' = w.alloc (.cells ((Lib.splitB sep 0 (Lib.countB s sep) s).map Value.string).toArray 9) := Any.strings_Split Tryz.lays146 (by kernel_rfl) s sep m w hs hm h1
end Go.Proofs


namespace Go.Proofs
open Go Go.Sx Go.RowKit

/-! # What the library does with texts -/

theorem idx_cons (c x : UInt8) (xs : Bs) : Lib.index (x :: xs) [c] = if x = c then 0 else if Lib.index xs [c] == -1 then -1 else Lib.index xs [c] + 1 := by
  rw [Lib.index]
  by_cases h : x = c
  · subst h; simp [List.isPrefixOf]
  · have h2 : ¬ (c = x) := fun e => h e.symm
    simp [List.isPrefixOf, h, h2]
theorem split_one (c : UInt8) : ∀ s : Bs, Lib.splitK [c] 0 (Lib.count s [c]) s = splitL c s
  | [] => by
    have h : Lib.index [] [c] = -1 := by simp [Lib.index, List.isPrefixOf]
    rw [Lib.count_miss h]; rfl
  | x :: xs => by
    have ih := split_one c xs
    have hi := idx_cons c x xs
    simp only [splitL]
    by_cases h : x = c
    · rw [if_pos h] at hi ⊢
      have hi' : Lib.index (x :: xs) [c] = ((0 : Nat) : Int) := hi
      rw [Lib.count_hit (by simp) hi']
      simp only [Nat.zero_add, List.length_singleton, List.drop_succ_cons, List.drop_zero]
      rw [Nat.add_comm 1, Lib.splitK, if_neg (by rw [hi]; decide), hi]
      simp only [Int.toNat_zero, Nat.add_zero, List.take_zero, Nat.zero_add, List.length_singleton, List.drop_succ_cons, List.drop_zero, ih]
    · rw [if_neg h] at hi ⊢
      rcases Lib.index_spec xs [c] with ⟨h1, _⟩ | ⟨i, h1, _⟩
      · rw [h1] at hi
        have hm : Lib.index (x :: xs) [c] = -1 := by rw [hi]; rfl
        rw [Lib.count_miss hm]
        rw [Lib.count_miss h1] at ih
        rw [← ih]; rfl
      · have hne : ¬ (Lib.index xs [c] == -1) = true := fun e => by have := beq_iff_eq.1 e; omega
        rw [if_neg hne, h1] at hi
        have hm : Lib.index (x :: xs) [c] = ((i + 1 : Nat) : Int) := by rw [hi]; simp
        rw [Lib.count_hit (by simp) hm]
        rw [Lib.count_hit (by simp) h1] at ih
        simp only [List.length_singleton, List.drop_succ_cons] at ih ⊢
        rw [Nat.add_comm 1, Lib.splitK, if_neg hne, h1] at ih
        rw [Nat.add_comm 1, Lib.splitK, if_neg (fun e => by have := beq_iff_eq.1 e; omega), hm, ← ih]
        simp only [Int.toNat_natCast, Nat.add_zero, List.take_succ_cons, List.length_singleton, List.drop_succ_cons]

/-- What the library's variables hold. -/
structure Gl (w : World) : Prop where
  tab : Lib.TabIs Tryz.prog w "internal/strconv.uint64pow10" .u64 Lib.pow10Tab
  mx : ∃ m, w.cell? ⟨1, 0, none⟩ = some (.int .i64 m)
  size : 3 < w.heap.size
theorem gl_cong {w w' : World} (h : Gl w) (hs : w.heap.size ≤ w'.heap.size) (hk : ∀ k, k ≤ 3 → w'.heap[k]? = w.heap[k]?) : Gl w' := by
  obtain ⟨h1, ⟨m, h2⟩, h3⟩ := h
  refine ⟨?_, ⟨m, ?_⟩, by omega⟩
  · have hg : Tryz.prog.globalNamed "internal/strconv.uint64pow10" = some 0 := by kernel_rfl
    simp only [Lib.TabIs, World.var?, hg, Option.bind_some] at h1 ⊢
    rw [hk 0 (by omega)]; exact h1
  · simp only [World.cell?] at h2 ⊢
    rw [hk 1 (by omega)]; exact h2
theorem gl_up {w w' : World} (h : Gl w) (hb : BelowH w w') : Gl w' := gl_cong h hb.1 (fun k hk => hb.2 k (Nat.lt_of_le_of_lt hk h.size))

theorem below_grow {w : World} {k : Nat} {os : Array Obj} : RowKit.Below w.heap.size w (Sort.grow (w.drewN k) os) := by
  have hh : (w.drewN k).heap = w.heap := by induction k <;> simp_all [World.drewN]
  have h1 : (w.drewN k).os = w.os := by induction k <;> simp_all [World.drewN]
  have h2 : (w.drewN k).tape = w.tape := by induction k <;> simp_all [World.drewN]
  have h3 : (w.drewN k).output = w.output := by induction k <;> simp_all [World.drewN]
  refine ⟨h1, h2, h3, by simp [Sort.grow, hh], fun j hj => ?_⟩
  simp only [Sort.grow, hh]
  rw [Array.getElem?_append_left hj]

theorem itoa_c (n : Int) (w : World) (h : 0 ≤ n ∧ n ≤ 999) (hg : Gl w) : Calls Tryz.prog 97 #[.int .i64 n] w (RetV w (strV (decB n))) := by
  refine (Tryz.strconv_Itoa n (by omega) (by omega) w hg.tab).mono ?_
  rintro e w' ⟨rfl, k, os, rfl⟩
  exact ⟨by rw [itoa_dec h], below_grow⟩

def RStr (xs : List Bs) : Nat → World → Value → Prop := fun lo w1 v => ∃ a1 c1, v = .slice a1 xs.length c1 ∧ Ro w1 lo w1.heap.size a1 xs.length c1 1 (strs xs)

theorem split_c (s : Bs) (c : UInt8) (w : World) (hl : s.length ≤ 1000) (hg : Gl w) : Calls Tryz.prog 99 #[strV s, .string ⟨#[c]⟩] w (Ret w (RStr (splitL c s))) := by
  obtain ⟨m, hm⟩ := hg.mx
  have hsz : ByteArray.size ⟨s.toArray⟩ = s.length := by simp [ByteArray.size]
  refine (Tryz.strings_Split ⟨s.toArray⟩ ⟨#[c]⟩ m w (by omega) hm (by simp [ByteArray.size])).mono ?_
  rintro e w' ⟨rfl, rfl⟩
  have h1 : (Lib.splitB ⟨#[c]⟩ 0 (Lib.countB ⟨s.toArray⟩ ⟨#[c]⟩) ⟨s.toArray⟩).map (·.data.toList) = splitL c s := by
    rw [Lib.splitB_data]
    exact split_one c s
  have h2 : (Lib.splitB ⟨#[c]⟩ 0 (Lib.countB ⟨s.toArray⟩ ⟨#[c]⟩) ⟨s.toArray⟩).map Value.string = (strs (splitL c s)).flatten := by
    rw [← h1]
    simp only [strs, List.map_map]
    generalize Lib.splitB _ _ _ _ = L
    induction L with
    | nil => rfl
    | cons y L ih => simp [ih]
  have hlen : (splitL c s).length = Lib.countB ⟨s.toArray⟩ ⟨#[c]⟩ + 1 := by
    rw [← h1, List.length_map]
    exact Lib.splitB_all _ (by simp [ByteArray.size]) 0 _ _ rfl
  have hb : RowKit.Below w.heap.size w (w.alloc (.cells ((Lib.splitB ⟨#[c]⟩ 0 (Lib.countB ⟨s.toArray⟩ ⟨#[c]⟩) ⟨s.toArray⟩).map Value.string).toArray 9)) := (RowKit.Below.refl _ _).alloc (Nat.le_refl _) _
  refine ⟨_, rfl, hb, _, _, by rw [hlen], ?_⟩
  have hro := RowOk.ro (w := w.alloc (.cells ((Lib.splitB ⟨#[c]⟩ 0 (Lib.countB ⟨s.toArray⟩ ⟨#[c]⟩) ⟨s.toArray⟩).map Value.string).toArray 9)) (a := some ⟨w.heap.size, 0, none⟩) (n := (splitL c s).length) (cap := Lib.countB ⟨s.toArray⟩ ⟨#[c]⟩ + 1) (t := 9) (sz := 1) (xs := strs (splitL c s)) ⟨by simp, by simp, .inr ⟨w.heap.size, [], rfl, by omega, by rw [hlen]; simp, by
    rw [List.append_nil, ← h2]
    exact (Array.getElem?_push_size : (w.heap.push _)[w.heap.size]? = some _)⟩⟩
  refine ⟨hro.len, hro.each, hro.le, ?_⟩
  rcases hro.here with h5 | ⟨ad, g1, g2, g3, g4, g5⟩
  · exact .inl h5
  · cases g1
    exact .inr ⟨_, rfl, g2, Nat.le_refl _, g4, g5⟩

end Go.Proofs


namespace Go.Proofs
open Go Go.Sx Go.RowKit

instance Tryz.mH : Meth Tryz.prog 119 "ephemerist/pay.numbers" 153 := ⟨by kernel_rfl⟩
instance Tryz.mI : Meth Tryz.prog 122 "ephemerist/pay.numbers" 154 := ⟨by kernel_rfl⟩

set_option maxRecDepth 20000 in
theorem hd_numbers (b : Bk) (a : Option Addr) (c : Nat) (w : World)  : Calls Tryz.prog 153 #[bkV b a c] w (Ret w (RSl (hdN b))) := by
  refine calls_T (av := [_]) Tryz.func153 rfl rfl rfl ?_
  refine t_seq ?_
  refine t_reg ?_
  refine to_box rfl rfl (fun b1 => ?_)
  refine to_as rfl rfl ?_
  refine to_nil ?_
  refine tn_code ?_
  refine t_seq ?_
  refine t_reg ?_
  first | refine to_fa rfl rfl rfl (by simp only [Nat.reduceAdd]; rfl) rfl ?_ | refine to_fae rfl rfl rfl (by simp only [Nat.reduceAdd]; rfl) rfl ?_
  first | refine to_fa rfl rfl rfl (by simp only [Nat.reduceAdd]; rfl) rfl ?_ | refine to_fae rfl rfl rfl (by simp only [Nat.reduceAdd]; rfl) rfl ?_
  first | refine to_lds rfl rfl rfl ?_ | refine to_ldes rfl (by assumption) rfl rfl ?_
  first | refine to_fa rfl rfl rfl (by simp only [Nat.reduceAdd]; rfl) rfl ?_ | refine to_fae rfl rfl rfl (by simp only [Nat.reduceAdd]; rfl) rfl ?_
  first | refine to_fa rfl rfl rfl (by simp only [Nat.reduceAdd]; rfl) rfl ?_ | refine to_fae rfl rfl rfl (by simp only [Nat.reduceAdd]; rfl) rfl ?_
  first | refine to_lds rfl rfl rfl ?_ | refine to_ldes rfl (by assumption) rfl rfl ?_
  first | refine to_fa rfl rfl rfl (by simp only [Nat.reduceAdd]; rfl) rfl ?_ | refine to_fae rfl rfl rfl (by simp only [Nat.reduceAdd]; rfl) rfl ?_
  first | refine to_fa rfl rfl rfl (by simp only [Nat.reduceAdd]; rfl) rfl ?_ | refine to_fae rfl rfl rfl (by simp only [Nat.reduceAdd]; rfl) rfl ?_
  first | refine to_lds rfl rfl rfl ?_ | refine to_ldes rfl (by assumption) rfl rfl ?_
  first | refine to_fa rfl rfl rfl (by simp only [Nat.reduceAdd]; rfl) rfl ?_ | refine to_fae rfl rfl rfl (by simp only [Nat.reduceAdd]; rfl) rfl ?_
  first | refine to_fa rfl rfl rfl (by simp only [Nat.reduceAdd]; rfl) rfl ?_ | refine to_fae rfl rfl rfl (by simp only [Nat.reduceAdd]; rfl) rfl ?_
  first | refine to_lds rfl rfl rfl ?_ | refine to_ldes rfl (by assumption) rfl rfl ?_
  first | refine to_fa rfl rfl rfl (by simp only [Nat.reduceAdd]; rfl) rfl ?_ | refine to_fae rfl rfl rfl (by simp only [Nat.reduceAdd]; rfl) rfl ?_
  first | refine to_fa rfl rfl rfl (by simp only [Nat.reduceAdd]; rfl) rfl ?_ | refine to_fae rfl rfl rfl (by simp only [Nat.reduceAdd]; rfl) rfl ?_
  first | refine to_lds rfl rfl rfl ?_ | refine to_ldes rfl (by assumption) rfl rfl ?_
  first | refine to_fa rfl rfl rfl (by simp only [Nat.reduceAdd]; rfl) rfl ?_ | refine to_fae rfl rfl rfl (by simp only [Nat.reduceAdd]; rfl) rfl ?_
  first | refine to_fa rfl rfl rfl (by simp only [Nat.reduceAdd]; rfl) rfl ?_ | refine to_fae rfl rfl rfl (by simp only [Nat.reduceAdd]; rfl) rfl ?_
  first | refine to_lds rfl rfl rfl ?_ | refine to_ldes rfl (by assumption) rfl rfl ?_
  refine to_bsl rfl rfl rfl rfl (fun a21 => ?_)
  refine to_as rfl rfl ?_
  refine to_nil ?_
  refine tn_code ?_
  refine t_ret1 rfl rfl (res_tmp rfl) (fun w' s => ?_)
  exact ⟨_, _, rfl, ro_row s⟩

set_option maxRecDepth 20000 in
theorem it_numbers (l : Lin) (w : World)  : Calls Tryz.prog 154 #[linV l] w (Ret w (RSl (lnN l))) := by
  refine calls_T (av := [_]) Tryz.func154 rfl rfl rfl ?_
  refine t_seq ?_
  refine t_reg ?_
  refine to_box rfl rfl (fun b1 => ?_)
  refine to_as rfl rfl ?_
  refine to_nil ?_
  refine tn_code ?_
  refine t_seq ?_
  refine t_reg ?_
  first | refine to_fa rfl rfl rfl (by simp only [Nat.reduceAdd]; rfl) rfl ?_ | refine to_fae rfl rfl rfl (by simp only [Nat.reduceAdd]; rfl) rfl ?_
  first | refine to_fa rfl rfl rfl (by simp only [Nat.reduceAdd]; rfl) rfl ?_ | refine to_fae rfl rfl rfl (by simp only [Nat.reduceAdd]; rfl) rfl ?_
  first | refine to_lda rfl rfl rfl ?_ | refine to_ldea rfl (by assumption) rfl rfl ?_
  refine to_alloc rfl (fun b3 => ?_)
  first | refine to_st rfl rfl rfl rfl ?_ | refine to_ste rfl rfl (by assumption) rfl rfl ?_
  refine to_nil ?_
  refine tn_code ?_
  refine t_seq ?_
  refine t_reg ?_
  first | refine to_fa rfl rfl rfl (by simp only [Nat.reduceAdd]; rfl) rfl ?_ | refine to_fae rfl rfl rfl (by simp only [Nat.reduceAdd]; rfl) rfl ?_
  first | refine to_fa rfl rfl rfl (by simp only [Nat.reduceAdd]; rfl) rfl ?_ | refine to_fae rfl rfl rfl (by simp only [Nat.reduceAdd]; rfl) rfl ?_
  first | refine to_lds rfl rfl rfl ?_ | refine to_ldes rfl (by assumption) rfl rfl ?_
  first | refine to_fa rfl rfl rfl (by simp only [Nat.reduceAdd]; rfl) rfl ?_ | refine to_fae rfl rfl rfl (by simp only [Nat.reduceAdd]; rfl) rfl ?_
  first | refine to_fa rfl rfl rfl (by simp only [Nat.reduceAdd]; rfl) rfl ?_ | refine to_fae rfl rfl rfl (by simp only [Nat.reduceAdd]; rfl) rfl ?_
  first | refine to_lds rfl rfl rfl ?_ | refine to_ldes rfl (by assumption) rfl rfl ?_
  first | refine to_fa rfl rfl rfl (by simp only [Nat.reduceAdd]; rfl) rfl ?_ | refine to_fae rfl rfl rfl (by simp only [Nat.reduceAdd]; rfl) rfl ?_
  first | refine to_fa rfl rfl rfl (by simp only [Nat.reduceAdd]; rfl) rfl ?_ | refine to_fae rfl rfl rfl (by simp only [Nat.reduceAdd]; rfl) rfl ?_
  first | refine to_fa rfl rfl rfl (by simp only [Nat.reduceAdd]; rfl) rfl ?_ | refine to_fae rfl rfl rfl (by simp only [Nat.reduceAdd]; rfl) rfl ?_
  first | refine to_lds rfl rfl rfl ?_ | refine to_ldes rfl (by assumption) rfl rfl ?_
  first | refine to_fa rfl rfl rfl (by simp only [Nat.reduceAdd]; rfl) rfl ?_ | refine to_fae rfl rfl rfl (by simp only [Nat.reduceAdd]; rfl) rfl ?_
  first | refine to_fa rfl rfl rfl (by simp only [Nat.reduceAdd]; rfl) rfl ?_ | refine to_fae rfl rfl rfl (by simp only [Nat.reduceAdd]; rfl) rfl ?_
  first | refine to_fa rfl rfl rfl (by simp only [Nat.reduceAdd]; rfl) rfl ?_ | refine to_fae rfl rfl rfl (by simp only [Nat.reduceAdd]; rfl) rfl ?_
  first | refine to_lds rfl rfl rfl ?_ | refine to_ldes rfl (by assumption) rfl rfl ?_
  first | refine to_fa rfl rfl rfl (by simp only [Nat.reduceAdd]; rfl) rfl ?_ | refine to_fae rfl rfl rfl (by simp only [Nat.reduceAdd]; rfl) rfl ?_
  first | refine to_fa rfl rfl rfl (by simp only [Nat.reduceAdd]; rfl) rfl ?_ | refine to_fae rfl rfl rfl (by simp only [Nat.reduceAdd]; rfl) rfl ?_
  first | refine to_lds rfl rfl rfl ?_ | refine to_ldes rfl (by assumption) rfl rfl ?_
  first | refine to_fa rfl rfl rfl (by simp only [Nat.reduceAdd]; rfl) rfl ?_ | refine to_fae rfl rfl rfl (by simp only [Nat.reduceAdd]; rfl) rfl ?_
  first | refine to_fa rfl rfl rfl (by simp only [Nat.reduceAdd]; rfl) rfl ?_ | refine to_fae rfl rfl rfl (by simp only [Nat.reduceAdd]; rfl) rfl ?_
  first | refine to_lds rfl rfl rfl ?_ | refine to_ldes rfl (by assumption) rfl rfl ?_
  first | refine to_fa rfl rfl rfl (by simp only [Nat.reduceAdd]; rfl) rfl ?_ | refine to_fae rfl rfl rfl (by simp only [Nat.reduceAdd]; rfl) rfl ?_
  first | refine to_lds rfl rfl rfl ?_ | refine to_ldes rfl (by assumption) rfl rfl ?_
  first | refine to_fa rfl rfl rfl (by simp only [Nat.reduceAdd]; rfl) rfl ?_ | refine to_fae rfl rfl rfl (by simp only [Nat.reduceAdd]; rfl) rfl ?_
  first | refine to_lds rfl rfl rfl ?_ | refine to_ldes rfl (by assumption) rfl rfl ?_
  first | refine to_fa rfl rfl rfl (by simp only [Nat.reduceAdd]; rfl) rfl ?_ | refine to_fae rfl rfl rfl (by simp only [Nat.reduceAdd]; rfl) rfl ?_
  first | refine to_lds rfl rfl rfl ?_ | refine to_ldes rfl (by assumption) rfl rfl ?_
  first | refine to_fa rfl rfl rfl (by simp only [Nat.reduceAdd]; rfl) rfl ?_ | refine to_fae rfl rfl rfl (by simp only [Nat.reduceAdd]; rfl) rfl ?_
  first | refine to_lds rfl rfl rfl ?_ | refine to_ldes rfl (by assumption) rfl rfl ?_
  refine to_bsl rfl rfl rfl rfl (fun a35 => ?_)
  refine to_as rfl rfl ?_
  refine to_nil ?_
  refine tn_code ?_
  refine t_ret1 rfl rfl (res_tmp rfl) (fun w' s => ?_)
  exact ⟨_, _, rfl, ro_row s⟩

set_option maxRecDepth 20000 in
theorem written_hd (b : Bk) (a : Option Addr) (c : Nat) (w : World) (hn : ∀ n ∈ hdN b, 0 ≤ n ∧ n ≤ 999) (hg : Gl w) : Calls Tryz.prog 96 #[.iface 119 (bkV b a c)] w (RetV w (strV (hdB b))) := by
  refine calls_T0 (av := [_]) Tryz.func96 rfl rfl rfl ?_
  refine t_seq ?_
  refine t_reg ?_
  refine to_as rfl rfl ?_
  refine to_nil ?_
  refine tn_code ?_
  refine t_seq ?_
  refine t_reg ?_
  refine to_as rfl rfl ?_
  refine to_nil ?_
  refine tn_code ?_
  refine t_seq ?_
  refine t_seq ?_
  refine t_reg ?_
  refine to_mv rfl rfl ?_
  refine to_nil ?_
  refine tn_code ?_
  refine t_blk ?_
  refine t_seq ?_
  refine t_reg ?_
  refine to_taT rfl rfl rfl ?_
  refine to_ex rfl rfl rfl ?_
  refine to_ex rfl rfl rfl ?_
  refine to_nil ?_
  refine tn_code ?_
  refine t_ifT rfl ?_
  refine t_reg ?_
  refine to_as rfl rfl ?_
  refine to_nil ?_
  refine tn_blk ?_
  refine tn_code ?_
  refine t_seq ?_
  refine t_seq ?_
  refine t_reg ?_
  refine to_mv rfl rfl ?_
  refine to_invR rfl (fun w s => hd_numbers b a c w) rfl (fun v14 lo14 w14 hlo14 hR14 => ?_)
  obtain ⟨a14, c14, rfl, hro14⟩ := hR14
  refine to_lenS rfl rfl ?_
  refine to_mv rfl rfl ?_
  refine to_nil ?_
  refine tn_code ?_
  refine t_blk ?_
  refine t_loop2 (ι := Nat) (fun k => k ≤ (hdN b).length) (fun k => [(3, strV (rowW wPay (hdN b) k)), (14, .slice a14 (hdN b).length c14), (15, .int .i64 ((hdN b).length : Int)), (16, .int .i64 (k : Int))]) (fun k => [.snap lo14 w14.heap.size w14, .snap 0 w.heap.size w]) (fun k => (hdN b).length - k) (0) [.snap lo14 w14.heap.size w14, .snap 0 w.heap.size w] (rfl) (Nat.zero_le _) (⟨rfl, rfl, rfl, rfl, trivial⟩) ?_
  rintro k hk
  show T _ _ _ ⟨_, [(3, strV (rowW wPay (hdN b) k)), (14, .slice a14 (hdN b).length c14), (15, .int .i64 ((hdN b).length : Int)), (16, .int .i64 (k : Int))], _⟩ [.snap lo14 w14.heap.size w14, .snap 0 w.heap.size w]
  refine t_seq ?_
  refine t_reg ?_
  refine to_lss rfl rfl rfl ?_
  refine to_nil ?_
  refine tn_code ?_
  refine t_seq ?_
  refine t_if rfl (fun h1 => ?_) (fun h1 => ?_)
  · try simp only [decide_eq_true_eq, decide_eq_false_iff_not, Bool.not_eq_true', Bool.not_eq_false', Int.not_lt, Int.not_le, ne_eq, Decidable.not_not] at h1
    try have h1b := inB_iff.1 h1
    obtain ⟨y, hy⟩ := some_get (xs := hdN b) (k := k) (by omega)
    have hx := map_get (f := intC) hy
    have hyb := hn y (List.mem_of_getElem? hy)
    have hdl := decB_len y
    have hrl := rowW_len wPay (hdN b) k
    have hwl : (wPay).length ≤ 4 := by decide
    have hnl : (hdN b).length ≤ 10 := by simp only [List.length_cons, List.length_nil]; omega
    refine t_skip ?_
    refine tn_code ?_
    refine t_seq ?_
    refine t_blk ?_
    refine t_seq ?_
    refine t_reg ?_
    first | refine to_ix rfl rfl rfl (by first | omega | decide) (by first | omega | decide) rfl ?_ | refine to_ixi rfl rfl rfl (by omega) (by omega) (by omega) rfl ?_
    first | refine to_lds rfl rfl rfl ?_ | refine to_ldes rfl (by assumption) rfl rfl ?_
    refine to_as rfl rfl ?_
    refine to_nil ?_
    refine tn_code ?_
    refine t_reg ?_
    refine to_mv rfl rfl ?_
    refine to_mv rfl rfl ?_
    refine to_call0 rfl rfl (fun w s => itoa_c y w hyb (gl_up hg (belowH_of s))) rfl ?_
    refine to_sadd rfl rfl (by first | omega | (simp only [List.length_append, List.length_cons, List.length_nil]; omega)) rfl ?_
    refine to_sadd rfl rfl (by first | omega | (simp only [List.length_append, List.length_cons, List.length_nil]; omega)) rfl ?_
    refine to_as rfl rfl ?_
    refine to_nil ?_
    refine tn_blk ?_
    refine tn_code ?_
    refine t_reg ?_
    refine to_add rfl rfl (by omega) rfl ?_
    refine to_mv rfl rfl ?_
    refine to_nil ?_
    exact tn_loop2 (k + 1) [.snap lo14 w14.heap.size w14, .snap 0 w.heap.size w] (rfl) (by omega) (by omega) (⟨congrArg (fun z => some (strV z)) (rowW_succ hy).symm, rfl, rfl, rfl, trivial⟩)
  · try simp only [decide_eq_true_eq, decide_eq_false_iff_not, Bool.not_eq_true', Bool.not_eq_false', Int.not_lt, Int.not_le, ne_eq, Decidable.not_not] at h1
    try have h1b := inB_iff.1 h1
    have hk2 : k = (hdN b).length := by omega
    subst hk2
    refine t_exit ?_
    refine tx_code ?_
    refine tx_inv ?_
    refine tx_blk ?_
    refine tn_code ?_
    refine t_seq ?_
    refine t_reg ?_
    refine to_mv rfl rfl ?_
    refine to_as rfl rfl ?_
    refine to_nil ?_
    refine tn_code ?_
    refine t_ret1 rfl rfl (res_tmp rfl) (fun w' s => ?_)
    rfl

set_option maxRecDepth 20000 in
theorem written_it (l : Lin) (w : World) (hn : ∀ n ∈ lnN l, 0 ≤ n ∧ n ≤ 999) (hg : Gl w) : Calls Tryz.prog 96 #[.iface 122 (linV l)] w (RetV w (strV (lnB l))) := by
  refine calls_T0 (av := [_]) Tryz.func96 rfl rfl rfl ?_
  refine t_seq ?_
  refine t_reg ?_
  refine to_as rfl rfl ?_
  refine to_nil ?_
  refine tn_code ?_
  refine t_seq ?_
  refine t_reg ?_
  refine to_as rfl rfl ?_
  refine to_nil ?_
  refine tn_code ?_
  refine t_seq ?_
  refine t_seq ?_
  refine t_reg ?_
  refine to_mv rfl rfl ?_
  refine to_nil ?_
  refine tn_code ?_
  refine t_blk ?_
  refine t_seq ?_
  refine t_reg ?_
  refine to_taF rfl rfl rfl rfl rfl ?_
  refine to_ex rfl rfl rfl ?_
  refine to_ex rfl rfl rfl ?_
  refine to_nil ?_
  refine tn_code ?_
  refine t_ifF rfl ?_
  refine t_seq ?_
  refine t_reg ?_
  refine to_taT rfl rfl rfl ?_
  refine to_ex rfl rfl rfl ?_
  refine to_ex rfl rfl rfl ?_
  refine to_nil ?_
  refine tn_code ?_
  refine t_ifT rfl ?_
  refine t_reg ?_
  refine to_as rfl rfl ?_
  refine to_nil ?_
  refine tn_blk ?_
  refine tn_code ?_
  refine t_seq ?_
  refine t_seq ?_
  refine t_reg ?_
  refine to_mv rfl rfl ?_
  refine to_invR rfl (fun w s => it_numbers l w) rfl (fun v14 lo14 w14 hlo14 hR14 => ?_)
  obtain ⟨a14, c14, rfl, hro14⟩ := hR14
  refine to_lenS rfl rfl ?_
  refine to_mv rfl rfl ?_
  refine to_nil ?_
  refine tn_code ?_
  refine t_blk ?_
  refine t_loop2 (ι := Nat) (fun k => k ≤ (lnN l).length) (fun k => [(3, strV (rowW wLine (lnN l) k)), (14, .slice a14 (lnN l).length c14), (15, .int .i64 ((lnN l).length : Int)), (16, .int .i64 (k : Int))]) (fun k => [.snap lo14 w14.heap.size w14, .snap 0 w.heap.size w]) (fun k => (lnN l).length - k) (0) [.snap lo14 w14.heap.size w14, .snap 0 w.heap.size w] (rfl) (Nat.zero_le _) (⟨rfl, rfl, rfl, rfl, trivial⟩) ?_
  rintro k hk
  show T _ _ _ ⟨_, [(3, strV (rowW wLine (lnN l) k)), (14, .slice a14 (lnN l).length c14), (15, .int .i64 ((lnN l).length : Int)), (16, .int .i64 (k : Int))], _⟩ [.snap lo14 w14.heap.size w14, .snap 0 w.heap.size w]
  refine t_seq ?_
  refine t_reg ?_
  refine to_lss rfl rfl rfl ?_
  refine to_nil ?_
  refine tn_code ?_
  refine t_seq ?_
  refine t_if rfl (fun h1 => ?_) (fun h1 => ?_)
  · try simp only [decide_eq_true_eq, decide_eq_false_iff_not, Bool.not_eq_true', Bool.not_eq_false', Int.not_lt, Int.not_le, ne_eq, Decidable.not_not] at h1
    try have h1b := inB_iff.1 h1
    obtain ⟨y, hy⟩ := some_get (xs := lnN l) (k := k) (by omega)
    have hx := map_get (f := intC) hy
    have hyb := hn y (List.mem_of_getElem? hy)
    have hdl := decB_len y
    have hrl := rowW_len wLine (lnN l) k
    have hwl : (wLine).length ≤ 4 := by decide
    have hnl : (lnN l).length ≤ 10 := by simp only [List.length_cons, List.length_nil]; omega
    refine t_skip ?_
    refine tn_code ?_
    refine t_seq ?_
    refine t_blk ?_
    refine t_seq ?_
    refine t_reg ?_
    first | refine to_ix rfl rfl rfl (by first | omega | decide) (by first | omega | decide) rfl ?_ | refine to_ixi rfl rfl rfl (by omega) (by omega) (by omega) rfl ?_
    first | refine to_lds rfl rfl rfl ?_ | refine to_ldes rfl (by assumption) rfl rfl ?_
    refine to_as rfl rfl ?_
    refine to_nil ?_
    refine tn_code ?_
    refine t_reg ?_
    refine to_mv rfl rfl ?_
    refine to_mv rfl rfl ?_
    refine to_call0 rfl rfl (fun w s => itoa_c y w hyb (gl_up hg (belowH_of s))) rfl ?_
    refine to_sadd rfl rfl (by first | omega | (simp only [List.length_append, List.length_cons, List.length_nil]; omega)) rfl ?_
    refine to_sadd rfl rfl (by first | omega | (simp only [List.length_append, List.length_cons, List.length_nil]; omega)) rfl ?_
    refine to_as rfl rfl ?_
    refine to_nil ?_
    refine tn_blk ?_
    refine tn_code ?_
    refine t_reg ?_
    refine to_add rfl rfl (by omega) rfl ?_
    refine to_mv rfl rfl ?_
    refine to_nil ?_
    exact tn_loop2 (k + 1) [.snap lo14 w14.heap.size w14, .snap 0 w.heap.size w] (rfl) (by omega) (by omega) (⟨congrArg (fun z => some (strV z)) (rowW_succ hy).symm, rfl, rfl, rfl, trivial⟩)
  · try simp only [decide_eq_true_eq, decide_eq_false_iff_not, Bool.not_eq_true', Bool.not_eq_false', Int.not_lt, Int.not_le, ne_eq, Decidable.not_not] at h1
    try have h1b := inB_iff.1 h1
    have hk2 : k = (lnN l).length := by omega
    subst hk2
    refine t_exit ?_
    refine tx_code ?_
    refine tx_inv ?_
    refine tx_blk ?_
    refine tn_code ?_
    refine t_seq ?_
    refine t_reg ?_
    refine to_mv rfl rfl ?_
    refine to_as rfl rfl ?_
    refine to_nil ?_
    refine tn_code ?_
    refine t_ret1 rfl rfl (res_tmp rfl) (fun w' s => ?_)
    rfl

end Go.Proofs


namespace Go.Proofs
open Go Go.Sx Go.RowKit

/-- The lines as interface values. -/
def ifsK (b : Bk) (a : Option Addr) (c k : Nat) : List (List Value) := [.iface 119 (bkV b a c)] :: (b.lines.take k).map fun l => [.iface 122 (linV l)]
theorem ifsK_succ {b : Bk} {a : Option Addr} {c k : Nat} {l : Lin} (h : b.lines[k]? = some l) : ifsK b a c (k + 1) = ifsK b a c k ++ [[.iface 122 (linV l)]] := by
  simp only [ifsK, take_snoc h, List.map_append, List.cons_append]; rfl
theorem ifs_at {b : Bk} {a : Option Addr} {c : Nat} (hn : numsOk b) {i : Nat} (hi : i < b.lines.length + 1) : ∃ v wd, (ifsK b a c b.lines.length)[i]? = some [v] ∧ (rowsB b)[i]? = some wd ∧ scal v = true ∧ ∀ w, Gl w → Calls Tryz.prog 96 #[v] w (RetV w (strV wd)) := by
  cases i with
  | zero => exact ⟨_, _, rfl, rfl, rfl, fun w hg => written_hd b a c w hn.1 hg⟩
  | succ k =>
    obtain ⟨l, hl⟩ := some_get (xs := b.lines) (k := k) (by omega)
    refine ⟨_, _, ?_, rowsB_ln hl, rfl, fun w hg => written_it l w (hn.2.1 l (List.mem_of_getElem? hl)) hg⟩
    simp [ifsK, hl]

set_option maxRecDepth 20000 in
theorem pay_text (b : Bk) (a : Option Addr) (c : Nat) (w : World) (hr : Ro w 0 w.heap.size a b.lines.length c 10 (b.lines.map linC)) (hn : numsOk b) (hg : Gl w) : Calls Tryz.prog 67 #[bkV b a c] w (RetV w (strV (textB b))) := by
  have hnl := hn.2.2
  have hrl := rowsB_len b
  have hre := rowsB_each b
  refine calls_T0 (av := [_]) Tryz.func67 rfl rfl rfl ?_
  refine t_seq ?_
  refine t_reg ?_
  refine to_box rfl rfl (fun b1 => ?_)
  refine to_as rfl rfl ?_
  refine to_nil ?_
  refine tn_code ?_
  refine t_seq ?_
  refine t_reg ?_
  first | refine to_lda rfl rfl rfl ?_ | refine to_ldea rfl (by assumption) rfl rfl ?_
  refine to_bs rfl rfl ?_
  refine to_mi rfl rfl rfl ?_
  refine to_bsl rfl rfl rfl rfl (fun a15 => ?_)
  refine to_as rfl rfl ?_
  refine to_nil ?_
  refine tn_code ?_
  refine t_seq ?_
  refine t_seq ?_
  refine t_reg ?_
  first | refine to_fa rfl rfl rfl (by simp only [Nat.reduceAdd]; rfl) rfl ?_ | refine to_fae rfl rfl rfl (by simp only [Nat.reduceAdd]; rfl) rfl ?_
  first | refine to_lds rfl rfl rfl ?_ | refine to_ldes rfl (by assumption) rfl rfl ?_
  refine to_lenS rfl rfl ?_
  refine to_mv rfl rfl ?_
  refine to_nil ?_
  refine tn_code ?_
  refine t_blk ?_
  refine t_loop2 (ι := Nat × Option Addr × Nat) (fun ((k, a', c') : Nat × Option Addr × Nat) => k ≤ b.lines.length) (fun ((k, a', c') : Nat × Option Addr × Nat) => [(1, (.pointer (some ⟨b1, 0, none⟩))), (3, .slice a' (k + 1) c'), (17, .slice a b.lines.length c), (18, .int .i64 (b.lines.length : Int)), (19, .int .i64 (k : Int))]) (fun ((k, a', c') : Nat × Option Addr × Nat) => [.row a' (k + 1) c' 124 1 (ifsK b a c k), .own b1 (isC (bkC b a c) 24), .snap 0 w.heap.size w]) (fun ((k, a', c') : Nat × Option Addr × Nat) => b.lines.length - k) ((0, a15, 1)) [.row a15 1 1 124 1 [[.iface 119 (bkV b a c)]], .own b1 (isC (bkC b a c) 24), .snap 0 w.heap.size w] (rfl) (Nat.zero_le _) (⟨rfl, rfl, rfl, rfl, rfl, trivial⟩) ?_
  rintro ⟨k, a', c'⟩ hk
  try dsimp only at hk
  show T _ _ _ ⟨_, [(1, (.pointer (some ⟨b1, 0, none⟩))), (3, .slice a' (k + 1) c'), (17, .slice a b.lines.length c), (18, .int .i64 (b.lines.length : Int)), (19, .int .i64 (k : Int))], _⟩ [.row a' (k + 1) c' 124 1 (ifsK b a c k), .own b1 (isC (bkC b a c) 24), .snap 0 w.heap.size w]
  refine t_seq ?_
  refine t_reg ?_
  refine to_lss rfl rfl rfl ?_
  refine to_nil ?_
  refine tn_code ?_
  refine t_seq ?_
  refine t_if rfl (fun h1 => ?_) (fun h1 => ?_)
  · try simp only [decide_eq_true_eq, decide_eq_false_iff_not, Bool.not_eq_true', Bool.not_eq_false', Int.not_lt, Int.not_le, ne_eq, Decidable.not_not] at h1
    try have h1b := inB_iff.1 h1
    obtain ⟨l, hl⟩ := some_get (xs := b.lines) (k := k) (by omega)
    have hx := map_get (f := linC) hl
    refine t_skip ?_
    refine tn_code ?_
    refine t_seq ?_
    refine t_blk ?_
    refine t_seq ?_
    refine t_reg ?_
    first | refine to_ix rfl rfl rfl (by first | omega | decide) (by first | omega | decide) rfl ?_ | refine to_ixi rfl rfl rfl (by omega) (by omega) (by omega) rfl ?_
    first | refine to_lda rfl rfl rfl ?_ | refine to_ldea rfl (by assumption) rfl rfl ?_
    refine to_alloc rfl (fun b5 => ?_)
    first | refine to_st rfl rfl rfl rfl ?_ | refine to_ste rfl rfl (by assumption) rfl rfl ?_
    refine to_nil ?_
    refine tn_code ?_
    refine t_reg ?_
    refine to_mv rfl rfl ?_
    first | refine to_lda rfl rfl rfl ?_ | refine to_ldea rfl (by assumption) rfl rfl ?_
    refine to_bs rfl rfl ?_
    refine to_mi rfl rfl rfl ?_
    refine to_bsl rfl rfl rfl rfl (fun a27 => ?_)
    refine to_app rfl rfl rfl (by simp [scals, scal]) (by decide) (by omega) (by decide) rfl (fun a28 c28 => ?_)
    refine to_as rfl rfl ?_
    refine to_nil ?_
    refine tn_blk ?_
    refine tn_code ?_
    refine t_reg ?_
    refine to_add rfl rfl (by omega) rfl ?_
    refine to_mv rfl rfl ?_
    refine to_nil ?_
    exact tn_loop2 ((k + 1, a28, c28)) [.row a28 (k + 1 + 1) c28 124 1 (ifsK b a c k ++ [[.iface 122 (linV l)]]), .own b1 (isC (bkC b a c) 24), .snap 0 w.heap.size w] (by dsimp only; rw [ifsK_succ hl]) (by dsimp only; omega) (by dsimp only; omega) (⟨rfl, rfl, rfl, rfl, rfl, trivial⟩)
  · try simp only [decide_eq_true_eq, decide_eq_false_iff_not, Bool.not_eq_true', Bool.not_eq_false', Int.not_lt, Int.not_le, ne_eq, Decidable.not_not] at h1
    try have h1b := inB_iff.1 h1
    have hk2 : k = b.lines.length := by omega
    subst hk2
    refine t_exit ?_
    refine tx_code ?_
    refine tx_inv ?_
    refine tx_blk ?_
    refine tn_code ?_
    refine t_seq ?_
    refine t_reg ?_
    refine to_as rfl rfl ?_
    refine to_as rfl rfl ?_
    refine to_nil ?_
    refine tn_code ?_
    refine t_seq ?_
    refine t_seq ?_
    refine t_reg ?_
    refine to_mv rfl rfl ?_
    refine to_lenS rfl rfl ?_
    refine to_mv rfl rfl ?_
    refine to_nil ?_
    refine tn_code ?_
    refine t_blk ?_
    refine t_loop2 (ι := Nat) (fun i => i ≤ (rowsB b).length) (fun i => [(6, strV (linesT (rowsB b) i)), (7, .int .i64 (chkR (rowsB b) i)), (30, .slice a' (b.lines.length + 1) c'), (31, .int .i64 ((b.lines.length + 1 : Nat) : Int)), (32, .int .i64 (i : Int))]) (fun i => [.row a' (b.lines.length + 1) c' 124 1 (ifsK b a c b.lines.length), .snap 0 w.heap.size w]) (fun i => (rowsB b).length - i) (0) [.row a' (b.lines.length + 1) c' 124 1 (ifsK b a c b.lines.length), .snap 0 w.heap.size w] (rfl) (Nat.zero_le _) (⟨rfl, rfl, rfl, rfl, rfl, trivial⟩) ?_
    rintro i hk
    show T _ _ _ ⟨_, [(6, strV (linesT (rowsB b) i)), (7, .int .i64 (chkR (rowsB b) i)), (30, .slice a' (b.lines.length + 1) c'), (31, .int .i64 ((b.lines.length + 1 : Nat) : Int)), (32, .int .i64 (i : Int))], _⟩ [.row a' (b.lines.length + 1) c' 124 1 (ifsK b a c b.lines.length), .snap 0 w.heap.size w]
    refine t_seq ?_
    refine t_reg ?_
    refine to_lss rfl rfl rfl ?_
    refine to_nil ?_
    refine tn_code ?_
    refine t_seq ?_
    refine t_if rfl (fun h2 => ?_) (fun h2 => ?_)
    · try simp only [decide_eq_true_eq, decide_eq_false_iff_not, Bool.not_eq_true', Bool.not_eq_false', Int.not_lt, Int.not_le, ne_eq, Decidable.not_not] at h2
      try have h2b := inB_iff.1 h2
      obtain ⟨v, wd, hx, hw, hvs, hcw⟩ := ifs_at (a := a) (c := c) hn (i := i) (by omega)
      have hwl := hre wd (List.mem_of_getElem? hw)
      have hll := linesT_len hre i (by omega)
      have hrb := chkR_b hre i (by omega) (by omega)
      refine t_skip ?_
      refine tn_code ?_
      refine t_seq ?_
      refine t_blk ?_
      refine t_seq ?_
      refine t_reg ?_
      refine to_mv rfl rfl ?_
      first | refine to_ix rfl rfl rfl (by first | omega | decide) (by first | omega | decide) rfl ?_ | refine to_ixi rfl rfl rfl (by omega) (by omega) (by omega) rfl ?_
      first | refine to_lds rfl rfl rfl ?_ | refine to_ldes rfl (by assumption) rfl rfl ?_
      refine to_as rfl rfl ?_
      refine to_as rfl rfl ?_
      refine to_nil ?_
      refine tn_code ?_
      refine t_seq ?_
      refine t_reg ?_
      refine to_mv rfl rfl ?_
      refine to_call0 rfl rfl (fun w s => hcw w (gl_up hg (belowH_of s))) rfl ?_
      refine to_as rfl rfl ?_
      refine to_nil ?_
      refine tn_code ?_
      refine t_seq ?_
      refine t_seq ?_
      refine t_reg ?_
      refine to_mv rfl rfl ?_
      refine to_lenL rfl rfl ?_
      refine to_mv rfl rfl ?_
      refine to_nil ?_
      refine tn_code ?_
      refine t_blk ?_
      refine t_loop2 (ι := Nat) (fun k => k ≤ wd.length) (fun k => [(6, strV (linesT (rowsB b) i)), (7, .int .i64 (chkR (rowsB b) i + chkC i wd k)), (8, .int .i64 (i : Int)), (10, strV wd), (30, .slice a' (b.lines.length + 1) c'), (31, .int .i64 ((b.lines.length + 1 : Nat) : Int)), (32, .int .i64 (i : Int)), (40, .int .i64 (wd.length : Int)), (41, .int .i64 (k : Int))]) (fun k => [.row a' (b.lines.length + 1) c' 124 1 (ifsK b a c b.lines.length), .snap 0 w.heap.size w]) (fun k => wd.length - k) (0) [.row a' (b.lines.length + 1) c' 124 1 (ifsK b a c b.lines.length), .snap 0 w.heap.size w] (rfl) (Nat.zero_le _) (⟨rfl, congrArg (fun z => some (Value.int .i64 z)) (Int.add_zero _).symm, rfl, rfl, rfl, rfl, rfl, rfl, rfl, trivial⟩) ?_
      rintro k hk
      show T _ _ _ ⟨_, [(6, strV (linesT (rowsB b) i)), (7, .int .i64 (chkR (rowsB b) i + chkC i wd k)), (8, .int .i64 (i : Int)), (10, strV wd), (30, .slice a' (b.lines.length + 1) c'), (31, .int .i64 ((b.lines.length + 1 : Nat) : Int)), (32, .int .i64 (i : Int)), (40, .int .i64 (wd.length : Int)), (41, .int .i64 (k : Int))], _⟩ [.row a' (b.lines.length + 1) c' 124 1 (ifsK b a c b.lines.length), .snap 0 w.heap.size w]
      refine t_seq ?_
      refine t_reg ?_
      refine to_lss rfl rfl rfl ?_
      refine to_nil ?_
      refine tn_code ?_
      refine t_seq ?_
      refine t_if rfl (fun h3 => ?_) (fun h3 => ?_)
      · try simp only [decide_eq_true_eq, decide_eq_false_iff_not, Bool.not_eq_true', Bool.not_eq_false', Int.not_lt, Int.not_le, ne_eq, Decidable.not_not] at h3
        try have h3b := inB_iff.1 h3
        obtain ⟨cc, hc⟩ := some_get (xs := wd) (k := k) (by omega)
        have hcu := u8_le cc
        have hm1 := mul_bd (a := ((cc.toNat : Nat) : Int)) (b := (k : Int) + 1) (B := 255) (C := 100) (by omega) (by omega) (by omega) (by omega)
        have hm2 := mul_bd (a := ((cc.toNat : Nat) : Int) * ((k : Int) + 1)) (b := (i : Int) + 1) (B := 25500) (C := 1001) (by omega) (by omega) (by omega) (by omega)
        have hcb := chkC_b (i := i) (w := wd) (by omega) k (by omega)
        refine t_skip ?_
        refine tn_code ?_
        refine t_seq ?_
        refine t_blk ?_
        refine t_seq ?_
        refine t_reg ?_
        refine to_mv rfl rfl ?_
        refine to_as rfl rfl ?_
        refine to_nil ?_
        refine tn_code ?_
        refine t_reg ?_
        refine to_mv rfl rfl ?_
        refine to_mv rfl rfl ?_
        refine to_mv rfl rfl ?_
        refine to_sidx rfl rfl (by assumption) rfl ?_
        refine to_cv rfl (by first | exact wrap_id (by omega) | exact IntWalk.u8_in _ (by omega) | exact IntWalk.i32_in _ (by omega)) rfl ?_
        refine to_mv rfl rfl ?_
        refine to_add rfl rfl (by omega) rfl ?_
        refine to_mul rfl rfl (by first | omega | exact mul_ok (by omega) (by omega) (by omega) (by omega)) rfl ?_
        refine to_mv rfl rfl ?_
        refine to_add rfl rfl (by omega) rfl ?_
        refine to_mul rfl rfl (by first | omega | exact mul_ok (by omega) (by omega) (by omega) (by omega)) rfl ?_
        refine to_add rfl rfl (by omega) rfl ?_
        refine to_as rfl rfl ?_
        refine to_nil ?_
        refine tn_blk ?_
        refine tn_code ?_
        refine t_reg ?_
        refine to_add rfl rfl (by omega) rfl ?_
        refine to_mv rfl rfl ?_
        refine to_nil ?_
        exact tn_loop2 (k + 1) [.row a' (b.lines.length + 1) c' 124 1 (ifsK b a c b.lines.length), .snap 0 w.heap.size w] (rfl) (by omega) (by omega) (⟨rfl, congrArg (fun z => some (Value.int .i64 z)) (by rw [chkC_succ hc, Int.add_assoc]), rfl, rfl, rfl, rfl, rfl, rfl, rfl, trivial⟩)
      · try simp only [decide_eq_true_eq, decide_eq_false_iff_not, Bool.not_eq_true', Bool.not_eq_false', Int.not_lt, Int.not_le, ne_eq, Decidable.not_not] at h3
        try have h3b := inB_iff.1 h3
        have hk2 : k = wd.length := by omega
        subst hk2
        have hcb := chkC_b (i := i) (w := wd) (by omega) wd.length (by omega)
        refine t_exit ?_
        refine tx_code ?_
        refine tx_inv ?_
        refine tx_blk ?_
        refine tn_code ?_
        refine t_reg ?_
        refine to_mv rfl rfl ?_
        refine to_mv rfl rfl ?_
        refine to_sadd rfl rfl (by first | omega | (simp only [List.length_append, List.length_cons, List.length_nil]; omega)) rfl ?_
        refine to_sadd rfl rfl (by first | omega | (simp only [List.length_append, List.length_cons, List.length_nil]; omega)) rfl ?_
        refine to_as rfl rfl ?_
        refine to_nil ?_
        refine tn_blk ?_
        refine tn_code ?_
        refine t_reg ?_
        refine to_add rfl rfl (by omega) rfl ?_
        refine to_mv rfl rfl ?_
        refine to_nil ?_
        exact tn_loop2 (i + 1) [.row a' (b.lines.length + 1) c' 124 1 (ifsK b a c b.lines.length), .snap 0 w.heap.size w] (rfl) (by omega) (by omega) (⟨congrArg (fun z => some (strV z)) (linesT_succ hw).symm, congrArg (fun z => some (Value.int .i64 z)) (chkR_succ hw).symm, rfl, rfl, rfl, trivial⟩)
    · try simp only [decide_eq_true_eq, decide_eq_false_iff_not, Bool.not_eq_true', Bool.not_eq_false', Int.not_lt, Int.not_le, ne_eq, Decidable.not_not] at h2
      try have h2b := inB_iff.1 h2
      have hi2 : i = (rowsB b).length := by omega
      subst hi2
      have hll := linesT_len hre (rowsB b).length (Nat.le_refl _)
      have hrb := chkR_b hre (rowsB b).length (Nat.le_refl _) (by omega)
      have hd1 := decB_len (chkR (rowsB b) (rowsB b).length % 263 / 100)
      have hd2 := decB_len (chkR (rowsB b) (rowsB b).length % 263 / 10 % 10)
      have hd3 := decB_len (chkR (rowsB b) (rowsB b).length % 263 % 10)
      refine t_exit ?_
      refine tx_code ?_
      refine tx_inv ?_
      refine tx_blk ?_
      refine tn_code ?_
      refine t_seq ?_
      refine t_reg ?_
      refine to_mv rfl rfl ?_
      refine to_rem rfl rfl (by omega) (by omega) rfl ?_
      refine to_as rfl rfl ?_
      refine to_nil ?_
      refine tn_code ?_
      refine t_seq ?_
      refine t_reg ?_
      refine to_mv rfl rfl ?_
      refine to_sadd rfl rfl (by first | omega | (simp only [List.length_append, List.length_cons, List.length_nil]; omega)) rfl ?_
      refine to_mv rfl rfl ?_
      refine to_quo rfl rfl (by omega) (by omega) rfl ?_
      refine to_call0 rfl rfl (fun w s => itoa_c _ w (by omega) (gl_up hg (belowH_of s))) rfl ?_
      refine to_sadd rfl rfl (by first | omega | (simp only [List.length_append, List.length_cons, List.length_nil]; omega)) rfl ?_
      refine to_mv rfl rfl ?_
      refine to_quo rfl rfl (by omega) (by omega) rfl ?_
      refine to_rem rfl rfl (by omega) (by omega) rfl ?_
      refine to_call0 rfl rfl (fun w s => itoa_c _ w (by omega) (gl_up hg (belowH_of s))) rfl ?_
      refine to_sadd rfl rfl (by first | omega | (simp only [List.length_append, List.length_cons, List.length_nil]; omega)) rfl ?_
      refine to_mv rfl rfl ?_
      refine to_rem rfl rfl (by omega) (by omega) rfl ?_
      refine to_call0 rfl rfl (fun w s => itoa_c _ w (by omega) (gl_up hg (belowH_of s))) rfl ?_
      refine to_sadd rfl rfl (by first | omega | (simp only [List.length_append, List.length_cons, List.length_nil]; omega)) rfl ?_
      refine to_sadd rfl rfl (by first | omega | (simp only [List.length_append, List.length_cons, List.length_nil]; omega)) rfl ?_
      refine to_as rfl rfl ?_
      refine to_nil ?_
      refine tn_code ?_
      refine t_ret1 rfl rfl (res_tmp rfl) (fun w' s => ?_)
      rfl

end Go.Proofs


namespace Go.Proofs
open Go Go.Sx Go.RowKit

theorem decB_step {n : Int} (h : 10 ≤ n ∧ n ≤ 999) : decB n = decB (n / 10) ++ [dg1 (n % 10)] := by
  simp only [decB]
  rw [if_neg (by omega)]
  by_cases h2 : n < 100
  · rw [if_pos h2, if_pos (by omega)]; rfl
  · rw [if_neg h2, if_neg (by omega), if_pos (by omega)]
    have e : n / 10 / 10 = n / 100 := by omega
    rw [e]; rfl
theorem dg1_eq {n : Int} (h : 0 ≤ n) : UInt8.ofNat (48 + n).toNat = dg1 n := by
  simp only [dg1]
  rw [show (48 + n).toNat = 48 + n.toNat from by omega]

set_option maxRecDepth 20000 in
theorem dec_step (n : Int) (w : World) (h : 0 ≤ n ∧ n ≤ 999) (hrec : 10 ≤ n → ∀ w, Calls Tryz.prog 102 #[.int .i64 (n / 10)] w (RetV w (strV (decB (n / 10))))) : Calls Tryz.prog 102 #[(.int .i64 n)] w (RetV w (strV (decB n))) := by
  refine calls_T0 (av := [_]) Tryz.func102 rfl rfl rfl ?_
  refine t_seq ?_
  refine t_reg ?_
  refine to_as rfl rfl ?_
  refine to_nil ?_
  refine tn_code ?_
  refine t_seq ?_
  refine t_seq ?_
  refine t_reg ?_
  refine to_mv rfl rfl ?_
  refine to_gtr rfl rfl rfl ?_
  refine to_mv rfl rfl ?_
  refine to_gs rfl rfl rfl (fun h1 => ?_) (fun h1 => ?_)
  · try simp only [decide_eq_true_eq, decide_eq_false_iff_not, Bool.not_eq_true', Bool.not_eq_false', Int.not_lt, Int.not_le, ne_eq, Decidable.not_not] at h1
    try have h1b := inB_iff.1 h1
    refine to_gt rfl rfl ?_
    refine to_mv rfl rfl ?_
    refine to_gt rfl rfl ?_
    refine to_lss rfl rfl rfl ?_
    refine to_pkT rfl rfl rfl ?_
    refine to_nil ?_
    refine tn_code ?_
    refine t_if rfl (fun h2 => ?_) (fun h2 => ?_)
    · try simp only [decide_eq_true_eq, decide_eq_false_iff_not, Bool.not_eq_true', Bool.not_eq_false', Int.not_lt, Int.not_le, ne_eq, Decidable.not_not] at h2
      try have h2b := inB_iff.1 h2
      exfalso; omega
    · try simp only [decide_eq_true_eq, decide_eq_false_iff_not, Bool.not_eq_true', Bool.not_eq_false', Int.not_lt, Int.not_le, ne_eq, Decidable.not_not] at h2
      try have h2b := inB_iff.1 h2
      refine t_skip ?_
      refine tn_code ?_
      refine t_seq ?_
      refine t_seq ?_
      refine t_reg ?_
      refine to_mv rfl rfl ?_
      refine to_lss rfl rfl rfl ?_
      refine to_nil ?_
      refine tn_code ?_
      refine t_if rfl (fun h3 => ?_) (fun h3 => ?_)
      · try simp only [decide_eq_true_eq, decide_eq_false_iff_not, Bool.not_eq_true', Bool.not_eq_false', Int.not_lt, Int.not_le, ne_eq, Decidable.not_not] at h3
        try have h3b := inB_iff.1 h3
        exfalso; omega
      · try simp only [decide_eq_true_eq, decide_eq_false_iff_not, Bool.not_eq_true', Bool.not_eq_false', Int.not_lt, Int.not_le, ne_eq, Decidable.not_not] at h3
        try have h3b := inB_iff.1 h3
        refine t_skip ?_
        refine tn_code ?_
        refine t_seq ?_
        refine t_seq ?_
        refine t_reg ?_
        refine to_mv rfl rfl ?_
        refine to_lss rfl rfl rfl ?_
        refine to_nil ?_
        refine tn_code ?_
        refine t_if rfl (fun h4 => ?_) (fun h4 => ?_)
        · try simp only [decide_eq_true_eq, decide_eq_false_iff_not, Bool.not_eq_true', Bool.not_eq_false', Int.not_lt, Int.not_le, ne_eq, Decidable.not_not] at h4
          try have h4b := inB_iff.1 h4
          refine t_seq ?_
          refine t_reg ?_
          refine to_mv rfl rfl ?_
          refine to_add rfl rfl (by omega) rfl ?_
          refine to_cv rfl (by first | exact wrap_id (by omega) | exact IntWalk.u8_in _ (by omega) | exact IntWalk.i32_in _ (by omega)) rfl ?_
          refine to_bsl rfl rfl rfl rfl (fun a32 => ?_)
          refine to_bts1 rfl rfl ?_
          refine to_as rfl rfl ?_
          refine to_nil ?_
          refine tn_code ?_
          refine t_ret1 rfl rfl (res_tmp rfl) (fun w' s => ?_)
          first | (rw [decB_one (n := n) (by omega)]; rw [dg1_eq (n := n) (by omega)]) | (rw [decB_step (n := n) (by omega)]; rw [dg1_eq (n := n % 10) (by omega)])
        · try simp only [decide_eq_true_eq, decide_eq_false_iff_not, Bool.not_eq_true', Bool.not_eq_false', Int.not_lt, Int.not_le, ne_eq, Decidable.not_not] at h4
          try have h4b := inB_iff.1 h4
          refine t_skip ?_
          refine tn_code ?_
          refine t_seq ?_
          have hdl := decB_len (n / 10)
          refine t_regM [7, 8] [.snap 0 w.heap.size w] rfl (by kernel_rfl) (by kernel_rfl) ?_
          refine tm_q ?e1 rfl ?q1 ?r1
          case q1 =>
            refine to_mv rfl rfl ?_
            exact tmq_end
          refine tm_q ?e2 rfl ?q2 ?r2
          case q2 =>
            refine to_quo rfl rfl (by omega) (by omega) rfl ?_
            exact tmq_end
          refine tm_q ?e3 rfl ?q3 ?r3
          case q3 =>
            refine to_call0 rfl rfl (fun w s => hrec (by omega) w) rfl ?_
            exact tmq_end
          refine tm_q ?e4 rfl ?q4 ?r4
          case q4 =>
            refine to_mv rfl rfl ?_
            exact tmq_end
          refine tm_q ?e5 rfl ?q5 ?r5
          case q5 =>
            refine to_rem rfl rfl (by omega) (by omega) rfl ?_
            exact tmq_end
          refine tm_q ?e6 rfl ?q6 ?r6
          case q6 =>
            refine to_add rfl rfl (by omega) rfl ?_
            exact tmq_end
          refine tm_q ?e7 rfl ?q7 ?r7
          case q7 =>
            refine to_cv rfl (by first | exact wrap_id (by omega) | exact IntWalk.u8_in _ (by omega) | exact IntWalk.i32_in _ (by omega)) rfl ?_
            exact tmq_end
          refine tm_s rfl ?_ (fun _ h => by cases h) rfl
          refine to_bsl rfl rfl rfl rfl (fun a41 => ?_)
          refine tm_se rfl ?_
          refine tm_s rfl ?_ (fun _ h => by cases h) rfl
          refine to_bts1 rfl rfl ?_
          refine tm_se rfl ?_
          refine tm_q ?e8 rfl ?q8 ?r8
          case q8 =>
            refine to_sadd rfl rfl (by first | omega | (simp only [List.length_append, List.length_cons, List.length_nil]; omega)) rfl ?_
            exact tmq_end
          refine tm_q ?e9 rfl ?q9 ?r9
          case q9 =>
            refine to_as rfl rfl ?_
            exact tmq_end
          refine tm_nil ?_
          refine tn_code ?_
          refine t_ret1 rfl rfl (res_tmp rfl) (fun w' s => ?_)
          first | (rw [decB_one (n := n) (by omega)]; rw [dg1_eq (n := n) (by omega)]) | (rw [decB_step (n := n) (by omega)]; rw [dg1_eq (n := n % 10) (by omega)])
  · try simp only [decide_eq_true_eq, decide_eq_false_iff_not, Bool.not_eq_true', Bool.not_eq_false', Int.not_lt, Int.not_le, ne_eq, Decidable.not_not] at h1
    try have h1b := inB_iff.1 h1
    refine to_gf rfl rfl rfl rfl ?_
    refine to_gf rfl rfl rfl rfl ?_
    refine to_pkF rfl rfl rfl ?_
    refine to_nil ?_
    refine tn_code ?_
    refine t_ifF rfl ?_
    refine t_skip ?_
    refine tn_code ?_
    refine t_seq ?_
    refine t_seq ?_
    refine t_reg ?_
    refine to_mv rfl rfl ?_
    refine to_lss rfl rfl rfl ?_
    refine to_nil ?_
    refine tn_code ?_
    refine t_if rfl (fun h5 => ?_) (fun h5 => ?_)
    · try simp only [decide_eq_true_eq, decide_eq_false_iff_not, Bool.not_eq_true', Bool.not_eq_false', Int.not_lt, Int.not_le, ne_eq, Decidable.not_not] at h5
      try have h5b := inB_iff.1 h5
      exfalso; omega
    · try simp only [decide_eq_true_eq, decide_eq_false_iff_not, Bool.not_eq_true', Bool.not_eq_false', Int.not_lt, Int.not_le, ne_eq, Decidable.not_not] at h5
      try have h5b := inB_iff.1 h5
      refine t_skip ?_
      refine tn_code ?_
      refine t_seq ?_
      refine t_seq ?_
      refine t_reg ?_
      refine to_mv rfl rfl ?_
      refine to_lss rfl rfl rfl ?_
      refine to_nil ?_
      refine tn_code ?_
      refine t_if rfl (fun h6 => ?_) (fun h6 => ?_)
      · try simp only [decide_eq_true_eq, decide_eq_false_iff_not, Bool.not_eq_true', Bool.not_eq_false', Int.not_lt, Int.not_le, ne_eq, Decidable.not_not] at h6
        try have h6b := inB_iff.1 h6
        refine t_seq ?_
        refine t_reg ?_
        refine to_mv rfl rfl ?_
        refine to_add rfl rfl (by omega) rfl ?_
        refine to_cv rfl (by first | exact wrap_id (by omega) | exact IntWalk.u8_in _ (by omega) | exact IntWalk.i32_in _ (by omega)) rfl ?_
        refine to_bsl rfl rfl rfl rfl (fun a32 => ?_)
        refine to_bts1 rfl rfl ?_
        refine to_as rfl rfl ?_
        refine to_nil ?_
        refine tn_code ?_
        refine t_ret1 rfl rfl (res_tmp rfl) (fun w' s => ?_)
        first | (rw [decB_one (n := n) (by omega)]; rw [dg1_eq (n := n) (by omega)]) | (rw [decB_step (n := n) (by omega)]; rw [dg1_eq (n := n % 10) (by omega)])
      · try simp only [decide_eq_true_eq, decide_eq_false_iff_not, Bool.not_eq_true', Bool.not_eq_false', Int.not_lt, Int.not_le, ne_eq, Decidable.not_not] at h6
        try have h6b := inB_iff.1 h6
        refine t_skip ?_
        refine tn_code ?_
        refine t_seq ?_
        have hdl := decB_len (n / 10)
        refine t_regM [7, 8] [.snap 0 w.heap.size w] rfl (by kernel_rfl) (by kernel_rfl) ?_
        refine tm_q ?e10 rfl ?q10 ?r10
        case q10 =>
          refine to_mv rfl rfl ?_
          exact tmq_end
        refine tm_q ?e11 rfl ?q11 ?r11
        case q11 =>
          refine to_quo rfl rfl (by omega) (by omega) rfl ?_
          exact tmq_end
        refine tm_q ?e12 rfl ?q12 ?r12
        case q12 =>
          refine to_call0 rfl rfl (fun w s => hrec (by omega) w) rfl ?_
          exact tmq_end
        refine tm_q ?e13 rfl ?q13 ?r13
        case q13 =>
          refine to_mv rfl rfl ?_
          exact tmq_end
        refine tm_q ?e14 rfl ?q14 ?r14
        case q14 =>
          refine to_rem rfl rfl (by omega) (by omega) rfl ?_
          exact tmq_end
        refine tm_q ?e15 rfl ?q15 ?r15
        case q15 =>
          refine to_add rfl rfl (by omega) rfl ?_
          exact tmq_end
        refine tm_q ?e16 rfl ?q16 ?r16
        case q16 =>
          refine to_cv rfl (by first | exact wrap_id (by omega) | exact IntWalk.u8_in _ (by omega) | exact IntWalk.i32_in _ (by omega)) rfl ?_
          exact tmq_end
        refine tm_s rfl ?_ (fun _ h => by cases h) rfl
        refine to_bsl rfl rfl rfl rfl (fun a41 => ?_)
        refine tm_se rfl ?_
        refine tm_s rfl ?_ (fun _ h => by cases h) rfl
        refine to_bts1 rfl rfl ?_
        refine tm_se rfl ?_
        refine tm_q ?e17 rfl ?q17 ?r17
        case q17 =>
          refine to_sadd rfl rfl (by first | omega | (simp only [List.length_append, List.length_cons, List.length_nil]; omega)) rfl ?_
          exact tmq_end
        refine tm_q ?e18 rfl ?q18 ?r18
        case q18 =>
          refine to_as rfl rfl ?_
          exact tmq_end
        refine tm_nil ?_
        refine tn_code ?_
        refine t_ret1 rfl rfl (res_tmp rfl) (fun w' s => ?_)
        first | (rw [decB_one (n := n) (by omega)]; rw [dg1_eq (n := n) (by omega)]) | (rw [decB_step (n := n) (by omega)]; rw [dg1_eq (n := n % 10) (by omega)])

theorem T_Decimal (n : Int) (w : World) (h : 0 ≤ n ∧ n ≤ 999) : Calls Tryz.prog 102 #[.int .i64 n] w (RetV w (strV (decB n))) :=
  dec_step n w h (fun h1 w => dec_step (n / 10) w (by omega) (fun h2 w => dec_step (n / 10 / 10) w (by omega) (fun h3 => by omega)))

set_option maxRecDepth 20000 in
theorem T_Row (word : Bs) (ns : List Int) (a : Option Addr) (c : Nat) (w : World) (hr : Ro w 0 w.heap.size a ns.length c 1 (ints ns)) (hb : ∀ n ∈ ns, 0 ≤ n ∧ n ≤ 999) (hl : ns.length ≤ 100) (hwl : word.length ≤ 1000) : Calls Tryz.prog 71 #[strV word, .slice a ns.length c] w (RetV w (strV (rowB word ns))) := by
  refine calls_T0 (av := [_, _]) Tryz.func71 rfl rfl rfl ?_
  refine t_seq ?_
  refine t_reg ?_
  refine to_as rfl rfl ?_
  refine to_nil ?_
  refine tn_code ?_
  refine t_seq ?_
  refine t_seq ?_
  refine t_reg ?_
  refine to_as rfl rfl ?_
  refine to_nil ?_
  refine tn_code ?_
  refine t_blk ?_
  refine t_loop2 (ι := Nat) (fun k => k ≤ ns.length) (fun k => [(0, strV (rowW word ns k)), (1, .slice a ns.length c), (5, .int .i64 (k : Int))]) (fun k => [.snap 0 w.heap.size w]) (fun k => ns.length - k) (0) [.snap 0 w.heap.size w] (rfl) (Nat.zero_le _) (⟨rfl, rfl, rfl, trivial⟩) ?_
  rintro k hk
  show T _ _ _ ⟨_, [(0, strV (rowW word ns k)), (1, .slice a ns.length c), (5, .int .i64 (k : Int))], _⟩ [.snap 0 w.heap.size w]
  refine t_seq ?_
  refine t_seq ?_
  refine t_reg ?_
  refine to_mv rfl rfl ?_
  refine to_mv rfl rfl ?_
  refine to_lenS rfl rfl ?_
  refine to_lss rfl rfl rfl ?_
  refine to_nil ?_
  refine tn_code ?_
  refine t_if rfl (fun h1 => ?_) (fun h1 => ?_)
  · try simp only [decide_eq_true_eq, decide_eq_false_iff_not, Bool.not_eq_true', Bool.not_eq_false', Int.not_lt, Int.not_le, ne_eq, Decidable.not_not] at h1
    try have h1b := inB_iff.1 h1
    obtain ⟨y, hy⟩ := some_get (xs := ns) (k := k) (by omega)
    have hx := map_get (f := intC) hy
    have hyb := hb y (List.mem_of_getElem? hy)
    have hdl := decB_len y
    have hrl := rowW_len word ns k
    refine t_skip ?_
    refine tn_code ?_
    refine t_seq ?_
    refine t_blk ?_
    refine t_reg ?_
    refine to_mv rfl rfl ?_
    refine to_sadd rfl rfl (by first | omega | (simp only [List.length_append, List.length_cons, List.length_nil]; omega)) rfl ?_
    refine to_mv rfl rfl ?_
    refine to_mv rfl rfl ?_
    first | refine to_ix rfl rfl rfl (by first | omega | decide) (by first | omega | decide) rfl ?_ | refine to_ixi rfl rfl rfl (by omega) (by omega) (by omega) rfl ?_
    first | refine to_lds rfl rfl rfl ?_ | refine to_ldes rfl (by assumption) rfl rfl ?_
    refine to_call0 rfl rfl (fun w s => T_Decimal _ w (by omega)) rfl ?_
    refine to_sadd rfl rfl (by first | omega | (simp only [List.length_append, List.length_cons, List.length_nil]; omega)) rfl ?_
    refine to_as rfl rfl ?_
    refine to_nil ?_
    refine tn_blk ?_
    refine tn_code ?_
    refine t_reg ?_
    refine to_mv rfl rfl ?_
    refine to_add rfl rfl (by omega) rfl ?_
    refine to_as rfl rfl ?_
    refine to_nil ?_
    exact tn_loop2 (k + 1) [.snap 0 w.heap.size w] (rfl) (by omega) (by omega) (⟨congrArg (fun z => some (strV z)) ((rowW_succ hy).trans (List.append_assoc _ _ _).symm).symm, rfl, rfl, trivial⟩)
  · try simp only [decide_eq_true_eq, decide_eq_false_iff_not, Bool.not_eq_true', Bool.not_eq_false', Int.not_lt, Int.not_le, ne_eq, Decidable.not_not] at h1
    try have h1b := inB_iff.1 h1
    have hk2 : k = ns.length := by omega
    subst hk2
    refine t_exit ?_
    refine tx_code ?_
    refine tx_inv ?_
    refine tx_blk ?_
    refine tn_code ?_
    refine t_seq ?_
    refine t_reg ?_
    refine to_mv rfl rfl ?_
    refine to_as rfl rfl ?_
    refine to_nil ?_
    refine tn_code ?_
    refine t_ret1 rfl rfl (res_tmp rfl) (fun w' s => ?_)
    rfl

set_option maxRecDepth 20000 in
theorem T_Sealed (ws : List Bs) (a : Option Addr) (c : Nat) (w : World) (hr : Ro w 0 w.heap.size a ws.length c 1 (strs ws)) (hre : ∀ r ∈ ws, r.length ≤ 100) (hl : ws.length ≤ 1000) : Calls Tryz.prog 72 #[.slice a ws.length c, (.int .i64 263)] w (RetV w (strV (sealB ws 263))) := by
  refine calls_T0 (av := [_, _]) Tryz.func72 rfl rfl rfl ?_
  refine t_seq ?_
  refine t_reg ?_
  refine to_as rfl rfl ?_
  refine to_nil ?_
  refine tn_code ?_
  refine t_seq ?_
  refine t_reg ?_
  refine to_as rfl rfl ?_
  refine to_as rfl rfl ?_
  refine to_nil ?_
  refine tn_code ?_
  refine t_seq ?_
  refine t_seq ?_
  refine t_reg ?_
  refine to_as rfl rfl ?_
  refine to_nil ?_
  refine tn_code ?_
  refine t_blk ?_
  refine t_loop2 (ι := Nat) (fun i => i ≤ ws.length) (fun i => [(0, .slice a ws.length c), (1, .int .i64 263), (5, strV (linesT ws i)), (6, .int .i64 (chkR ws i)), (7, .int .i64 (i : Int))]) (fun i => [.snap 0 w.heap.size w]) (fun i => ws.length - i) (0) [.snap 0 w.heap.size w] (rfl) (Nat.zero_le _) (⟨rfl, rfl, rfl, rfl, rfl, trivial⟩) ?_
  rintro i hk
  show T _ _ _ ⟨_, [(0, .slice a ws.length c), (1, .int .i64 263), (5, strV (linesT ws i)), (6, .int .i64 (chkR ws i)), (7, .int .i64 (i : Int))], _⟩ [.snap 0 w.heap.size w]
  refine t_seq ?_
  refine t_seq ?_
  refine t_reg ?_
  refine to_mv rfl rfl ?_
  refine to_mv rfl rfl ?_
  refine to_lenS rfl rfl ?_
  refine to_lss rfl rfl rfl ?_
  refine to_nil ?_
  refine tn_code ?_
  refine t_if rfl (fun h1 => ?_) (fun h1 => ?_)
  · try simp only [decide_eq_true_eq, decide_eq_false_iff_not, Bool.not_eq_true', Bool.not_eq_false', Int.not_lt, Int.not_le, ne_eq, Decidable.not_not] at h1
    try have h1b := inB_iff.1 h1
    obtain ⟨wd, hw⟩ := some_get (xs := ws) (k := i) (by omega)
    have hx := map_get (f := strC) hw
    have hwl := hre wd (List.mem_of_getElem? hw)
    have hll := linesT_len hre i (by omega)
    have hrb := chkR_b hre i (by omega) (by omega)
    refine t_skip ?_
    refine tn_code ?_
    refine t_seq ?_
    refine t_blk ?_
    refine t_seq ?_
    refine t_seq ?_
    refine t_reg ?_
    refine to_as rfl rfl ?_
    refine to_nil ?_
    refine tn_code ?_
    refine t_blk ?_
    refine t_loop2 (ι := Nat) (fun k => k ≤ wd.length) (fun k => [(0, .slice a ws.length c), (1, .int .i64 263), (5, strV (linesT ws i)), (6, .int .i64 (chkR ws i + chkC i wd k)), (7, .int .i64 (i : Int)), (8, .int .i64 (k : Int))]) (fun k => [.snap 0 w.heap.size w]) (fun k => wd.length - k) (0) [.snap 0 w.heap.size w] (rfl) (Nat.zero_le _) (⟨rfl, rfl, rfl, congrArg (fun z => some (Value.int .i64 z)) (Int.add_zero _).symm, rfl, rfl, trivial⟩) ?_
    rintro k hk
    show T _ _ _ ⟨_, [(0, .slice a ws.length c), (1, .int .i64 263), (5, strV (linesT ws i)), (6, .int .i64 (chkR ws i + chkC i wd k)), (7, .int .i64 (i : Int)), (8, .int .i64 (k : Int))], _⟩ [.snap 0 w.heap.size w]
    refine t_seq ?_
    refine t_seq ?_
    refine t_reg ?_
    refine to_mv rfl rfl ?_
    refine to_mv rfl rfl ?_
    refine to_mv rfl rfl ?_
    first | refine to_ix rfl rfl rfl (by first | omega | decide) (by first | omega | decide) rfl ?_ | refine to_ixi rfl rfl rfl (by omega) (by omega) (by omega) rfl ?_
    first | refine to_lds rfl rfl rfl ?_ | refine to_ldes rfl (by assumption) rfl rfl ?_
    refine to_lenL rfl rfl ?_
    refine to_lss rfl rfl rfl ?_
    refine to_nil ?_
    refine tn_code ?_
    refine t_if rfl (fun h2 => ?_) (fun h2 => ?_)
    · try simp only [decide_eq_true_eq, decide_eq_false_iff_not, Bool.not_eq_true', Bool.not_eq_false', Int.not_lt, Int.not_le, ne_eq, Decidable.not_not] at h2
      try have h2b := inB_iff.1 h2
      obtain ⟨cc, hc⟩ := some_get (xs := wd) (k := k) (by omega)
      have hcu := u8_le cc
      have hm1 := mul_bd (a := ((cc.toNat : Nat) : Int)) (b := (k : Int) + 1) (B := 255) (C := 100) (by omega) (by omega) (by omega) (by omega)
      have hm2 := mul_bd (a := ((cc.toNat : Nat) : Int) * ((k : Int) + 1)) (b := (i : Int) + 1) (B := 25500) (C := 1001) (by omega) (by omega) (by omega) (by omega)
      have hcb := chkC_b (i := i) (w := wd) (by omega) k (by omega)
      refine t_skip ?_
      refine tn_code ?_
      refine t_seq ?_
      refine t_blk ?_
      refine t_reg ?_
      refine to_mv rfl rfl ?_
      refine to_mv rfl rfl ?_
      refine to_mv rfl rfl ?_
      first | refine to_ix rfl rfl rfl (by first | omega | decide) (by first | omega | decide) rfl ?_ | refine to_ixi rfl rfl rfl (by omega) (by omega) (by omega) rfl ?_
      first | refine to_lds rfl rfl rfl ?_ | refine to_ldes rfl (by assumption) rfl rfl ?_
      refine to_mv rfl rfl ?_
      refine to_sidx rfl rfl (by assumption) rfl ?_
      refine to_cv rfl (by first | exact wrap_id (by omega) | exact IntWalk.u8_in _ (by omega) | exact IntWalk.i32_in _ (by omega)) rfl ?_
      refine to_mv rfl rfl ?_
      refine to_add rfl rfl (by omega) rfl ?_
      refine to_mul rfl rfl (by first | omega | exact mul_ok (by omega) (by omega) (by omega) (by omega)) rfl ?_
      refine to_mv rfl rfl ?_
      refine to_add rfl rfl (by omega) rfl ?_
      refine to_mul rfl rfl (by first | omega | exact mul_ok (by omega) (by omega) (by omega) (by omega)) rfl ?_
      refine to_add rfl rfl (by omega) rfl ?_
      refine to_as rfl rfl ?_
      refine to_nil ?_
      refine tn_blk ?_
      refine tn_code ?_
      refine t_reg ?_
      refine to_mv rfl rfl ?_
      refine to_add rfl rfl (by omega) rfl ?_
      refine to_as rfl rfl ?_
      refine to_nil ?_
      exact tn_loop2 (k + 1) [.snap 0 w.heap.size w] (rfl) (by omega) (by omega) (⟨rfl, rfl, rfl, congrArg (fun z => some (Value.int .i64 z)) (by rw [chkC_succ hc, Int.add_assoc]), rfl, rfl, trivial⟩)
    · try simp only [decide_eq_true_eq, decide_eq_false_iff_not, Bool.not_eq_true', Bool.not_eq_false', Int.not_lt, Int.not_le, ne_eq, Decidable.not_not] at h2
      try have h2b := inB_iff.1 h2
      have hk2 : k = wd.length := by omega
      subst hk2
      have hcb := chkC_b (i := i) (w := wd) (by omega) wd.length (by omega)
      refine t_exit ?_
      refine tx_code ?_
      refine tx_inv ?_
      refine tx_blk ?_
      refine tn_code ?_
      refine t_reg ?_
      refine to_mv rfl rfl ?_
      refine to_mv rfl rfl ?_
      refine to_mv rfl rfl ?_
      first | refine to_ix rfl rfl rfl (by first | omega | decide) (by first | omega | decide) rfl ?_ | refine to_ixi rfl rfl rfl (by omega) (by omega) (by omega) rfl ?_
      first | refine to_lds rfl rfl rfl ?_ | refine to_ldes rfl (by assumption) rfl rfl ?_
      refine to_sadd rfl rfl (by first | omega | (simp only [List.length_append, List.length_cons, List.length_nil]; omega)) rfl ?_
      refine to_sadd rfl rfl (by first | omega | (simp only [List.length_append, List.length_cons, List.length_nil]; omega)) rfl ?_
      refine to_as rfl rfl ?_
      refine to_nil ?_
      refine tn_blk ?_
      refine tn_code ?_
      refine t_reg ?_
      refine to_mv rfl rfl ?_
      refine to_add rfl rfl (by omega) rfl ?_
      refine to_as rfl rfl ?_
      refine to_nil ?_
      exact tn_loop2 (i + 1) [.snap 0 w.heap.size w] (rfl) (by omega) (by omega) (⟨rfl, rfl, congrArg (fun z => some (strV z)) ((linesT_succ hw).trans (List.append_assoc _ _ _).symm).symm, congrArg (fun z => some (Value.int .i64 z)) (chkR_succ hw).symm, rfl, trivial⟩)
  · try simp only [decide_eq_true_eq, decide_eq_false_iff_not, Bool.not_eq_true', Bool.not_eq_false', Int.not_lt, Int.not_le, ne_eq, Decidable.not_not] at h1
    try have h1b := inB_iff.1 h1
    have hi2 : i = ws.length := by omega
    subst hi2
    have hll := linesT_len hre ws.length (Nat.le_refl _)
    have hrb := chkR_b hre ws.length (Nat.le_refl _) (by omega)
    have hd1 := decB_len (chkR ws ws.length % 263 / 100)
    have hd2 := decB_len (chkR ws ws.length % 263 / 10 % 10)
    have hd3 := decB_len (chkR ws ws.length % 263 % 10)
    refine t_exit ?_
    refine tx_code ?_
    refine tx_inv ?_
    refine tx_blk ?_
    refine tn_code ?_
    refine t_seq ?_
    refine t_reg ?_
    refine to_mv rfl rfl ?_
    refine to_mv rfl rfl ?_
    refine to_rem rfl rfl (by omega) (by omega) rfl ?_
    refine to_as rfl rfl ?_
    refine to_nil ?_
    refine tn_code ?_
    refine t_seq ?_
    refine t_reg ?_
    refine to_mv rfl rfl ?_
    refine to_sadd rfl rfl (by first | omega | (simp only [List.length_append, List.length_cons, List.length_nil]; omega)) rfl ?_
    refine to_mv rfl rfl ?_
    refine to_quo rfl rfl (by omega) (by omega) rfl ?_
    refine to_call0 rfl rfl (fun w s => T_Decimal _ w (by omega)) rfl ?_
    refine to_sadd rfl rfl (by first | omega | (simp only [List.length_append, List.length_cons, List.length_nil]; omega)) rfl ?_
    refine to_mv rfl rfl ?_
    refine to_quo rfl rfl (by omega) (by omega) rfl ?_
    refine to_rem rfl rfl (by omega) (by omega) rfl ?_
    refine to_call0 rfl rfl (fun w s => T_Decimal _ w (by omega)) rfl ?_
    refine to_sadd rfl rfl (by first | omega | (simp only [List.length_append, List.length_cons, List.length_nil]; omega)) rfl ?_
    refine to_mv rfl rfl ?_
    refine to_rem rfl rfl (by omega) (by omega) rfl ?_
    refine to_call0 rfl rfl (fun w s => T_Decimal _ w (by omega)) rfl ?_
    refine to_sadd rfl rfl (by first | omega | (simp only [List.length_append, List.length_cons, List.length_nil]; omega)) rfl ?_
    refine to_sadd rfl rfl (by first | omega | (simp only [List.length_append, List.length_cons, List.length_nil]; omega)) rfl ?_
    refine to_as rfl rfl ?_
    refine to_nil ?_
    refine tn_code ?_
    refine t_ret1 rfl rfl (res_tmp rfl) (fun w' s => ?_)
    rfl

def rowsK (b : Bk) (k : Nat) : List Bs := hdB b :: (b.lines.take k).map lnB
theorem rowsK_succ {b : Bk} {k : Nat} {l : Lin} (h : b.lines[k]? = some l) : strs (rowsK b (k + 1)) = strs (rowsK b k) ++ [strC (lnB l)] := by
  simp only [rowsK, take_snoc h, List.map_append, List.cons_append, List.map_cons, List.map_nil]
theorem rowsK_all (b : Bk) : rowsK b b.lines.length = rowsB b := by simp [rowsK, rowsB]

set_option maxRecDepth 20000 in
theorem ref_Print (b : Bk) (a : Option Addr) (c : Nat) (w : World) (hr : Ro w 0 w.heap.size a b.lines.length c 10 (b.lines.map linC)) (hn : numsOk b) : Calls Tryz.prog 34 #[bkV b a c] w (RetV w (strV (textB b))) := by
  have hnl := hn.2.2
  have hrl := rowsB_len b
  have hre := rowsB_each b
  refine calls_T0 (av := [_]) Tryz.func34 rfl rfl rfl ?_
  refine t_seq ?_
  refine t_reg ?_
  refine to_box rfl rfl (fun b1 => ?_)
  refine to_as rfl rfl ?_
  refine to_nil ?_
  refine tn_code ?_
  refine t_seq ?_
  refine t_reg ?_
  first | refine to_fa rfl rfl rfl (by simp only [Nat.reduceAdd]; rfl) rfl ?_ | refine to_fae rfl rfl rfl (by simp only [Nat.reduceAdd]; rfl) rfl ?_
  first | refine to_lds rfl rfl rfl ?_ | refine to_ldes rfl (by assumption) rfl rfl ?_
  first | refine to_fa rfl rfl rfl (by simp only [Nat.reduceAdd]; rfl) rfl ?_ | refine to_fae rfl rfl rfl (by simp only [Nat.reduceAdd]; rfl) rfl ?_
  first | refine to_lds rfl rfl rfl ?_ | refine to_ldes rfl (by assumption) rfl rfl ?_
  first | refine to_fa rfl rfl rfl (by simp only [Nat.reduceAdd]; rfl) rfl ?_ | refine to_fae rfl rfl rfl (by simp only [Nat.reduceAdd]; rfl) rfl ?_
  first | refine to_lds rfl rfl rfl ?_ | refine to_ldes rfl (by assumption) rfl rfl ?_
  first | refine to_fa rfl rfl rfl (by simp only [Nat.reduceAdd]; rfl) rfl ?_ | refine to_fae rfl rfl rfl (by simp only [Nat.reduceAdd]; rfl) rfl ?_
  first | refine to_lds rfl rfl rfl ?_ | refine to_ldes rfl (by assumption) rfl rfl ?_
  first | refine to_fa rfl rfl rfl (by simp only [Nat.reduceAdd]; rfl) rfl ?_ | refine to_fae rfl rfl rfl (by simp only [Nat.reduceAdd]; rfl) rfl ?_
  first | refine to_lds rfl rfl rfl ?_ | refine to_ldes rfl (by assumption) rfl rfl ?_
  first | refine to_fa rfl rfl rfl (by simp only [Nat.reduceAdd]; rfl) rfl ?_ | refine to_fae rfl rfl rfl (by simp only [Nat.reduceAdd]; rfl) rfl ?_
  first | refine to_lds rfl rfl rfl ?_ | refine to_ldes rfl (by assumption) rfl rfl ?_
  refine to_bsl rfl rfl rfl rfl (fun a18 => ?_)
  refine to_call0 rfl rfl (fun w s => T_Row wPay (hdN b) _ _ w (rdw s) hn.1 (by simp) (by decide)) rfl ?_
  refine to_bsl rfl rfl rfl rfl (fun a20 => ?_)
  refine to_as rfl rfl ?_
  refine to_nil ?_
  refine tn_code ?_
  refine t_seq ?_
  refine t_seq ?_
  refine t_reg ?_
  refine to_as rfl rfl ?_
  refine to_nil ?_
  refine tn_code ?_
  refine t_blk ?_
  refine t_loop2 (ι := Nat × Option Addr × Nat) (fun ((k, a', c') : Nat × Option Addr × Nat) => k ≤ b.lines.length) (fun ((k, a', c') : Nat × Option Addr × Nat) => [(1, (.pointer (some ⟨b1, 0, none⟩))), (3, .slice a' (k + 1) c'), (4, .int .i64 (k : Int))]) (fun ((k, a', c') : Nat × Option Addr × Nat) => [.row a' (k + 1) c' 9 1 (strs (rowsK b k)), .own b1 (isC (bkC b a c) 24), .snap 0 w.heap.size w]) (fun ((k, a', c') : Nat × Option Addr × Nat) => b.lines.length - k) ((0, a20, 1)) [.row a20 1 1 9 1 [[strV (rowB wPay (hdN b))]], .own b1 (isC (bkC b a c) 24), .snap 0 w.heap.size w] (rfl) (Nat.zero_le _) (⟨rfl, rfl, rfl, trivial⟩) ?_
  rintro ⟨k, a', c'⟩ hk
  try dsimp only at hk
  show T _ _ _ ⟨_, [(1, (.pointer (some ⟨b1, 0, none⟩))), (3, .slice a' (k + 1) c'), (4, .int .i64 (k : Int))], _⟩ [.row a' (k + 1) c' 9 1 (strs (rowsK b k)), .own b1 (isC (bkC b a c) 24), .snap 0 w.heap.size w]
  refine t_seq ?_
  refine t_seq ?_
  refine t_reg ?_
  refine to_mv rfl rfl ?_
  first | refine to_fa rfl rfl rfl (by simp only [Nat.reduceAdd]; rfl) rfl ?_ | refine to_fae rfl rfl rfl (by simp only [Nat.reduceAdd]; rfl) rfl ?_
  first | refine to_lds rfl rfl rfl ?_ | refine to_ldes rfl (by assumption) rfl rfl ?_
  refine to_lenS rfl rfl ?_
  refine to_lss rfl rfl rfl ?_
  refine to_nil ?_
  refine tn_code ?_
  refine t_if rfl (fun h1 => ?_) (fun h1 => ?_)
  · try simp only [decide_eq_true_eq, decide_eq_false_iff_not, Bool.not_eq_true', Bool.not_eq_false', Int.not_lt, Int.not_le, ne_eq, Decidable.not_not] at h1
    try have h1b := inB_iff.1 h1
    obtain ⟨l, hl⟩ := some_get (xs := b.lines) (k := k) (by omega)
    have hx := map_get (f := linC) hl
    refine t_skip ?_
    refine tn_code ?_
    refine t_seq ?_
    refine t_blk ?_
    refine t_seq ?_
    refine t_reg ?_
    first | refine to_fa rfl rfl rfl (by simp only [Nat.reduceAdd]; rfl) rfl ?_ | refine to_fae rfl rfl rfl (by simp only [Nat.reduceAdd]; rfl) rfl ?_
    first | refine to_lds rfl rfl rfl ?_ | refine to_ldes rfl (by assumption) rfl rfl ?_
    refine to_mv rfl rfl ?_
    first | refine to_ix rfl rfl rfl (by first | omega | decide) (by first | omega | decide) rfl ?_ | refine to_ixi rfl rfl rfl (by omega) (by omega) (by omega) rfl ?_
    first | refine to_lda rfl rfl rfl ?_ | refine to_ldea rfl (by assumption) rfl rfl ?_
    refine to_alloc rfl (fun b5 => ?_)
    first | refine to_st rfl rfl rfl rfl ?_ | refine to_ste rfl rfl (by assumption) rfl rfl ?_
    refine to_nil ?_
    refine tn_code ?_
    refine t_reg ?_
    refine to_mv rfl rfl ?_
    first | refine to_fa rfl rfl rfl (by simp only [Nat.reduceAdd]; rfl) rfl ?_ | refine to_fae rfl rfl rfl (by simp only [Nat.reduceAdd]; rfl) rfl ?_
    first | refine to_lds rfl rfl rfl ?_ | refine to_ldes rfl (by assumption) rfl rfl ?_
    first | refine to_fa rfl rfl rfl (by simp only [Nat.reduceAdd]; rfl) rfl ?_ | refine to_fae rfl rfl rfl (by simp only [Nat.reduceAdd]; rfl) rfl ?_
    first | refine to_lds rfl rfl rfl ?_ | refine to_ldes rfl (by assumption) rfl rfl ?_
    first | refine to_fa rfl rfl rfl (by simp only [Nat.reduceAdd]; rfl) rfl ?_ | refine to_fae rfl rfl rfl (by simp only [Nat.reduceAdd]; rfl) rfl ?_
    first | refine to_fa rfl rfl rfl (by simp only [Nat.reduceAdd]; rfl) rfl ?_ | refine to_fae rfl rfl rfl (by simp only [Nat.reduceAdd]; rfl) rfl ?_
    first | refine to_lds rfl rfl rfl ?_ | refine to_ldes rfl (by assumption) rfl rfl ?_
    first | refine to_fa rfl rfl rfl (by simp only [Nat.reduceAdd]; rfl) rfl ?_ | refine to_fae rfl rfl rfl (by simp only [Nat.reduceAdd]; rfl) rfl ?_
    first | refine to_fa rfl rfl rfl (by simp only [Nat.reduceAdd]; rfl) rfl ?_ | refine to_fae rfl rfl rfl (by simp only [Nat.reduceAdd]; rfl) rfl ?_
    first | refine to_lds rfl rfl rfl ?_ | refine to_ldes rfl (by assumption) rfl rfl ?_
    first | refine to_fa rfl rfl rfl (by simp only [Nat.reduceAdd]; rfl) rfl ?_ | refine to_fae rfl rfl rfl (by simp only [Nat.reduceAdd]; rfl) rfl ?_
    first | refine to_lds rfl rfl rfl ?_ | refine to_ldes rfl (by assumption) rfl rfl ?_
    first | refine to_fa rfl rfl rfl (by simp only [Nat.reduceAdd]; rfl) rfl ?_ | refine to_fae rfl rfl rfl (by simp only [Nat.reduceAdd]; rfl) rfl ?_
    first | refine to_lds rfl rfl rfl ?_ | refine to_ldes rfl (by assumption) rfl rfl ?_
    first | refine to_fa rfl rfl rfl (by simp only [Nat.reduceAdd]; rfl) rfl ?_ | refine to_fae rfl rfl rfl (by simp only [Nat.reduceAdd]; rfl) rfl ?_
    first | refine to_fa rfl rfl rfl (by simp only [Nat.reduceAdd]; rfl) rfl ?_ | refine to_fae rfl rfl rfl (by simp only [Nat.reduceAdd]; rfl) rfl ?_
    first | refine to_lds rfl rfl rfl ?_ | refine to_ldes rfl (by assumption) rfl rfl ?_
    first | refine to_fa rfl rfl rfl (by simp only [Nat.reduceAdd]; rfl) rfl ?_ | refine to_fae rfl rfl rfl (by simp only [Nat.reduceAdd]; rfl) rfl ?_
    first | refine to_fa rfl rfl rfl (by simp only [Nat.reduceAdd]; rfl) rfl ?_ | refine to_fae rfl rfl rfl (by simp only [Nat.reduceAdd]; rfl) rfl ?_
    first | refine to_lds rfl rfl rfl ?_ | refine to_ldes rfl (by assumption) rfl rfl ?_
    first | refine to_fa rfl rfl rfl (by simp only [Nat.reduceAdd]; rfl) rfl ?_ | refine to_fae rfl rfl rfl (by simp only [Nat.reduceAdd]; rfl) rfl ?_
    first | refine to_fa rfl rfl rfl (by simp only [Nat.reduceAdd]; rfl) rfl ?_ | refine to_fae rfl rfl rfl (by simp only [Nat.reduceAdd]; rfl) rfl ?_
    first | refine to_lds rfl rfl rfl ?_ | refine to_ldes rfl (by assumption) rfl rfl ?_
    first | refine to_fa rfl rfl rfl (by simp only [Nat.reduceAdd]; rfl) rfl ?_ | refine to_fae rfl rfl rfl (by simp only [Nat.reduceAdd]; rfl) rfl ?_
    first | refine to_fa rfl rfl rfl (by simp only [Nat.reduceAdd]; rfl) rfl ?_ | refine to_fae rfl rfl rfl (by simp only [Nat.reduceAdd]; rfl) rfl ?_
    first | refine to_lds rfl rfl rfl ?_ | refine to_ldes rfl (by assumption) rfl rfl ?_
    refine to_bsl rfl rfl rfl rfl (fun a60 => ?_)
    refine to_call0 rfl rfl (fun w s => T_Row wLine (lnN l) _ _ w (rdw s) (hn.2.1 l (List.mem_of_getElem? hl)) (by simp) (by decide)) rfl ?_
    refine to_bsl rfl rfl rfl rfl (fun a62 => ?_)
    refine to_app rfl rfl rfl (by simp [scals, scal]) (by decide) (by omega) (by decide) rfl (fun a63 c63 => ?_)
    refine to_as rfl rfl ?_
    refine to_nil ?_
    refine tn_blk ?_
    refine tn_code ?_
    refine t_reg ?_
    refine to_mv rfl rfl ?_
    refine to_add rfl rfl (by omega) rfl ?_
    refine to_as rfl rfl ?_
    refine to_nil ?_
    exact tn_loop2 ((k + 1, a63, c63)) [.row a63 (k + 1 + 1) c63 9 1 (strs (rowsK b k) ++ [strC (rowB wLine (lnN l))]), .own b1 (isC (bkC b a c) 24), .snap 0 w.heap.size w] (by dsimp only; rw [rowsK_succ hl]; rfl) (by dsimp only; omega) (by dsimp only; omega) (⟨rfl, rfl, rfl, trivial⟩)
  · try simp only [decide_eq_true_eq, decide_eq_false_iff_not, Bool.not_eq_true', Bool.not_eq_false', Int.not_lt, Int.not_le, ne_eq, Decidable.not_not] at h1
    try have h1b := inB_iff.1 h1
    have hk2 : k = b.lines.length := by omega
    subst hk2
    rw [rowsK_all]
    rw [← hrl]
    refine t_exit ?_
    refine tx_code ?_
    refine tx_inv ?_
    refine tx_blk ?_
    refine tn_code ?_
    refine t_seq ?_
    refine t_reg ?_
    refine to_mv rfl rfl ?_
    refine to_call0 rfl rfl (fun w s => T_Sealed (rowsB b) _ _ w (rdw s) hre (by omega)) rfl ?_
    refine to_as rfl rfl ?_
    refine to_nil ?_
    refine tn_code ?_
    refine t_ret1 rfl rfl (res_tmp rfl) (fun w' s => ?_)
    rfl

end Go.Proofs

