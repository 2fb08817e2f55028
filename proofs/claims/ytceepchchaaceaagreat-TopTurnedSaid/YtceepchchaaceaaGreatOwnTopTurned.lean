/- TopTurned: for every input the law returns true, and each argument reads behind the call as it read before. No condition beyond the row's own. -/
import Derived.Test.YtceepchchaaceaaGreatOwnF
import Derived.Test.YtceepchchaaceaaGreatRows
import Derived.WalkKit
import Derived.ProofKit
set_option linter.unusedVariables false
set_option linter.unusedSimpArgs false
namespace Go.Proofs
open Go Go.Sx Go.RowKit

/-! ### The plain law: figures that are copied -/
def cntK (E : List Sp) (i : Int) (k : Nat) : Nat := ((E.take k).filter fun v => decide (v.1 = i)).length
theorem cntK_le (E : List Sp) (i : Int) (k : Nat) : cntK E i k ≤ k := Nat.le_trans (List.length_filter_le _ _) (List.length_take_le _ _)
theorem cntK_t {E : List Sp} {i : Int} {k : Nat} {v : Sp} (hv : E[k]? = some v) (h : v.1 = i) : cntK E i (k + 1) = cntK E i k + 1 := by
  rw [cntK, take_snoc hv, List.filter_append]; simp [cntK, h]
theorem cntK_f {E : List Sp} {i : Int} {k : Nat} {v : Sp} (hv : E[k]? = some v) (h : ¬ v.1 = i) : cntK E i (k + 1) = cntK E i k := by
  rw [cntK, take_snoc hv, List.filter_append]; simp [cntK, h]
theorem erR_fil (cs : List Cp) (st : List Li) (i j : Nat) : ∀ p, (erR cs st j p).filter (fun v => decide (v.1 = (i : Int))) = if j = i then erR cs st i p else []
  | 0 => by simp [erR]
  | p + 1 => by
    have ih := erR_fil cs st i j p
    by_cases hj : j = i
    · subst hj
      simp only [if_true] at ih ⊢
      simp only [erR]
      split
      · rw [List.filter_append, ih]; simp
      · exact ih
    · simp only [if_neg hj] at ih ⊢
      simp only [erR]
      split
      · rw [List.filter_append, ih]
        have : ¬ ((j : Int) = (i : Int)) := by omega
        simp [this]
      · exact ih
theorem erA_fil (cs : List Cp) (st : List Li) (m i : Nat) : ∀ k, (erA cs st m k).filter (fun v => decide (v.1 = (i : Int))) = if i < k then erR cs st i m else []
  | 0 => by simp [erA]
  | k + 1 => by
    have ih := erA_fil cs st m i k
    simp only [erA, List.filter_append, ih, erR_fil]
    by_cases h1 : i < k
    · rw [if_pos h1, if_neg (show ¬ k = i by omega), if_pos (show i < k + 1 by omega)]; simp
    · rw [if_neg h1]
      by_cases h2 : k = i
      · rw [if_pos h2, if_pos (show i < k + 1 by omega)]; simp
      · rw [if_neg h2, if_neg (show ¬ i < k + 1 by omega)]; simp
def difI (a b : Int) : Int := if a = b then 0 else 1
theorem difI_bad (b a : Int) : ((if decide (b ≠ a) = true then 1 else 0 : Nat) : Int) = difI a b := by
  simp only [difI, decide_eq_true_eq]
  by_cases h : a = b
  · rw [if_pos h, if_neg (fun hh => hh h.symm)]; rfl
  · rw [if_neg h, if_pos (fun hh => h hh.symm)]; rfl
theorem erR_lens {cs : List Cp} {st : List Li} {i p : Nat} : (erR cs st i (p + 1)).length = (erR cs st i p).length + if badA cs st i p = true then 1 else 0 := by
  simp only [erR]
  split <;> simp [*]
theorem cnt_main {cs : List Cp} {st : List Li} {i pn : Nat} {x : Cp} {a0 a1 a2 b0 b1 b2 : Int} {aa ab : Option Addr} {ac bc : Nat} (hi : 0 < i) (hil : i < st.length) (hx : cs[i]? = some x) (hxp : x.p = (pn : Int)) (hlA : st[pn]? = some ⟨[a0, a1, a2], aa, ac⟩) (hlB : st[i]? = some ⟨[b0, b1, b2], ab, bc⟩) :
    (cntK (erA cs st 3 st.length) i (erA cs st 3 st.length).length : Int) = difI a0 b0 + difI a1 b1 + difI a2 b2 := by
  have hp : x.p.toNat = pn := by omega
  have hlA' : st[x.p.toNat]? = some ⟨[a0, a1, a2], aa, ac⟩ := by rw [hp]; exact hlA
  rw [cntK, List.take_length, erA_fil, if_pos hil]
  have h0 := bad_at (p := 0) hi hlB hx hlA' rfl rfl
  have h1 := bad_at (p := 1) hi hlB hx hlA' rfl rfl
  have h2 := bad_at (p := 2) hi hlB hx hlA' rfl rfl
  rw [erR_lens, erR_lens, erR_lens, h0, h1, h2]
  simp only [Int.natCast_add, difI_bad]
  simp [erR]
theorem kind_of {x y : Int} (hx : 0 ≤ x) (hy : 0 ≤ y) (h : ¬ y = x) : kindF x y = 0 ∨ kindF x y = 1 ∨ kindF x y = 2 := by
  simp only [kindF]
  split
  · exact .inr (.inl rfl)
  · split
    · exact .inr (.inr rfl)
    · split
      · rename_i h3
        simp only [decide_eq_true_eq] at h3
        omega
      · exact .inl rfl
theorem lw_eq {a0 a1 a2 b0 b1 b2 : Int} (ha0 : 0 ≤ a0 ∧ a0 ≤ 9) (ha1 : 0 ≤ a1 ∧ a1 ≤ 9) (ha2 : 0 ≤ a2 ∧ a2 ≤ 9) (hb0 : 0 ≤ b0 ∧ b0 ≤ 9) (hb1 : 0 ≤ b1 ∧ b1 ≤ 9) (hb2 : 0 ≤ b2 ∧ b2 ≤ 9) (h : 100 * b0 + 10 * b1 + b2 = 100 * a0 + 10 * a1 + a2) : difI a0 b0 + difI a1 b1 + difI a2 b2 = 0 := by
  simp only [difI]
  split <;> split <;> split <;> omega
theorem lw_bad {a0 a1 a2 b0 b1 b2 : Int} (ha0 : 0 ≤ a0 ∧ a0 ≤ 9) (ha1 : 0 ≤ a1 ∧ a1 ≤ 9) (ha2 : 0 ≤ a2 ∧ a2 ≤ 9) (hb0 : 0 ≤ b0 ∧ b0 ≤ 9) (hb1 : 0 ≤ b1 ∧ b1 ≤ 9) (hb2 : 0 ≤ b2 ∧ b2 ≤ 9) (h : ¬ 100 * b0 + 10 * b1 + b2 = 100 * a0 + 10 * a1 + a2) : 0 < difI a0 b0 + difI a1 b1 + difI a2 b2 := by
  simp only [difI]
  split <;> split <;> split <;> omega
theorem lw_turn {a0 a1 a2 b0 b1 b2 : Int} (ha0 : 0 ≤ a0 ∧ a0 ≤ 9) (ha1 : 0 ≤ a1 ∧ a1 ≤ 9) (ha2 : 0 ≤ a2 ∧ a2 ≤ 9) (hb0 : 0 ≤ b0 ∧ b0 ≤ 9) (hb1 : 0 ≤ b1 ∧ b1 ≤ 9) (hb2 : 0 ≤ b2 ∧ b2 ≤ 9) (h : ¬ 100 * b0 + 10 * b1 + b2 = 100 * a0 + 10 * a1 + a2) (hk : kindF (100 * a0 + 10 * a1 + a2) (100 * b0 + 10 * b1 + b2) = 1) : difI a0 b0 + difI a1 b1 + difI a2 b2 = 2 := by
  have e1 : (100 * a0 + 10 * a1 + a2) / 100 = a0 := by omega
  have e2 : (100 * a0 + 10 * a1 + a2) / 10 % 10 = a1 := by omega
  have e3 : (100 * a0 + 10 * a1 + a2) % 10 = a2 := by omega
  have ht : turnB (100 * a0 + 10 * a1 + a2) (100 * b0 + 10 * b1 + b2) = true := by
    simp only [kindF] at hk
    split at hk
    · assumption
    · split at hk
      · omega
      · split at hk <;> omega
  simp only [turnB, e1, e2, e3, Bool.or_eq_true, decide_eq_true_eq] at ht
  simp only [difI]
  rcases ht with ht | ht <;> (split <;> split <;> split <;> omega)
theorem lw_carr {a0 a1 a2 b0 b1 b2 : Int} (ha0 : 0 ≤ a0 ∧ a0 ≤ 9) (ha1 : 0 ≤ a1 ∧ a1 ≤ 9) (ha2 : 0 ≤ a2 ∧ a2 ≤ 9) (hb0 : 0 ≤ b0 ∧ b0 ≤ 9) (hb1 : 0 ≤ b1 ∧ b1 ≤ 9) (hb2 : 0 ≤ b2 ∧ b2 ≤ 9) (h : ¬ 100 * b0 + 10 * b1 + b2 = 100 * a0 + 10 * a1 + a2) (hk : kindF (100 * a0 + 10 * a1 + a2) (100 * b0 + 10 * b1 + b2) = 2) : difI a0 b0 + difI a1 b1 + difI a2 b2 = 1 := by
  have e1 : (100 * a0 + 10 * a1 + a2) / 100 = a0 := by omega
  have e2 : (100 * a0 + 10 * a1 + a2) / 10 % 10 = a1 := by omega
  have e3 : (100 * a0 + 10 * a1 + a2) % 10 = a2 := by omega
  have ht : carrB (100 * a0 + 10 * a1 + a2) (100 * b0 + 10 * b1 + b2) = true := by
    simp only [kindF] at hk
    split at hk
    · omega
    · split at hk
      · assumption
      · split at hk <;> omega
  simp only [carrB, e1, e2, e3, Bool.or_eq_true, Bool.and_eq_true, decide_eq_true_eq] at ht
  simp only [difI]
  rcases ht with ht | ht <;> (split <;> split <;> split <;> omega)
theorem hErr_eq {x y : Int} {lo : Nat} {w1 : World} {v : Value} (h : HErr x y lo w1 v) (he : y = x) : ∃ a1 c1, v = .tuple #[.slice a1 0 c1, .int .i64 0] := by
  rcases h with ⟨_, a1, c1, hv, _⟩ | ⟨⟨h1, _⟩, _⟩
  · rw [errL_eq he] at hv; exact ⟨a1, c1, hv⟩
  · exact absurd he h1
theorem hErr_k {x y k : Int} {lo : Nat} {w1 : World} {v : Value} (h : HErr x y lo w1 v) (he : ¬ y = x) (hk : kindF x y = k) (h0 : k ≠ 0) : ∃ a1 c1, v = .tuple #[.slice a1 1 c1, .int .i64 0] ∧ Ro w1 lo w1.heap.size a1 1 c1 2 [[.int .i64 0, .int .i64 k]] := by
  rcases h with ⟨_, a1, c1, hv, hr⟩ | ⟨⟨_, h1⟩, _⟩
  · rw [errL_ne he, hk] at hv hr; exact ⟨a1, c1, hv, hr⟩
  · rw [hk] at h1; exact absurd h1 h0
theorem hErr_b {x y : Int} {lo : Nat} {w1 : World} {v : Value} (h : HErr x y lo w1 v) (he : ¬ y = x) (hk : kindF x y = 0) : v = .tuple #[.slice none 0 0, .int .i64 5] := by
  rcases h with ⟨h1, _⟩ | ⟨_, h1⟩
  · exact absurd ⟨he, hk⟩ h1
  · exact h1

end Go.Proofs


namespace Go.Proofs
open Go Go.Sx Go.RowKit

set_option maxRecDepth 20000 in
theorem top_c1 (pl : Int) (cs : List Cp) (ca : Option Addr) (cc : Nat) (st : List Li) (sa : Option Addr) (sc : Nat) (fr : Int) (w : World) (hct : Ro w 0 w.heap.size ca cs.length cc 2 (cs.map cpC)) (hcs : ∀ x ∈ cs, 0 < x.s.length → Ro w 0 w.heap.size x.a x.s.length x.c 1 (ints x.s)) (hst : Ro w 0 w.heap.size sa st.length sc 1 (st.map liC)) (hss : ∀ x ∈ st, 0 < x.xs.length → Ro w 0 w.heap.size x.a x.xs.length x.c 1 (ints x.xs)) (h1 : 10 < cs.length) : Calls Tryz.prog 3 #[trV pl cs ca cc, .slice sa st.length sc, .int .i64 fr] w (RetV w (.bool true)) := by
  refine calls_T0 (av := [_, _, _]) Tryz.func3 rfl rfl rfl ?_
  refine t_seq ?_
  refine t_reg ?_
  refine to_box rfl rfl (fun b3 => ?_)
  refine to_as rfl rfl ?_
  refine to_nil ?_
  refine tn_code ?_
  refine t_seq ?_
  refine t_seq ?_
  refine t_reg ?_
  first | refine to_fa rfl rfl rfl (by simp only [Nat.reduceAdd]; rfl) rfl ?_ | refine to_fae rfl rfl rfl (by simp only [Nat.reduceAdd]; rfl) rfl ?_
  first | refine to_lds rfl rfl rfl ?_ | refine to_ldes rfl (by assumption) rfl rfl ?_
  refine to_lenS rfl rfl ?_
  refine to_gtr rfl rfl rfl ?_
  refine to_fix (s := 19) (b' := true) rfl (decide_eq_true (by omega)) ?_
  refine to_mv rfl rfl ?_
  refine to_gf rfl rfl rfl rfl ?_
  refine to_gf rfl rfl rfl rfl ?_
  refine to_gf rfl rfl rfl rfl ?_
  refine to_pkT rfl rfl rfl ?_
  refine to_mv rfl rfl ?_
  refine to_gf rfl rfl rfl rfl ?_
  refine to_gf rfl rfl rfl rfl ?_
  refine to_gf rfl rfl rfl rfl ?_
  refine to_pkT rfl rfl rfl ?_
  refine to_mv rfl rfl ?_
  refine to_gf rfl rfl rfl rfl ?_
  refine to_gf rfl rfl rfl rfl ?_
  refine to_gf rfl rfl rfl rfl ?_
  refine to_pkT rfl rfl rfl ?_
  refine to_mv rfl rfl ?_
  refine to_gf rfl rfl rfl rfl ?_
  refine to_gf rfl rfl rfl rfl ?_
  refine to_gf rfl rfl rfl rfl ?_
  refine to_gf rfl rfl rfl rfl ?_
  refine to_pkT rfl rfl rfl ?_
  refine to_mv rfl rfl ?_
  refine to_gf rfl rfl rfl rfl ?_
  refine to_gf rfl rfl rfl rfl ?_
  refine to_pkT rfl rfl rfl ?_
  refine to_mv rfl rfl ?_
  refine to_gf rfl rfl rfl rfl ?_
  refine to_gf rfl rfl rfl rfl ?_
  refine to_gf rfl rfl rfl rfl ?_
  refine to_gf rfl rfl rfl rfl ?_
  refine to_pkT rfl rfl rfl ?_
  refine to_nil ?_
  refine tn_code ?_
  refine t_ifT rfl ?_
  refine t_seq ?_
  refine t_reg ?_
  refine to_call0 rfl rfl (fun w s => top_known w) rfl ?_
  refine to_as rfl rfl ?_
  refine to_nil ?_
  refine tn_code ?_
  refine t_ret1 rfl rfl (res_tmp rfl) (fun w' s => ?_)
  rfl

set_option maxRecDepth 20000 in
theorem top_c2 (pl : Int) (cs : List Cp) (ca : Option Addr) (cc : Nat) (st : List Li) (sa : Option Addr) (sc : Nat) (fr : Int) (w : World) (hct : Ro w 0 w.heap.size ca cs.length cc 2 (cs.map cpC)) (hcs : ∀ x ∈ cs, 0 < x.s.length → Ro w 0 w.heap.size x.a x.s.length x.c 1 (ints x.s)) (hst : Ro w 0 w.heap.size sa st.length sc 1 (st.map liC)) (hss : ∀ x ∈ st, 0 < x.xs.length → Ro w 0 w.heap.size x.a x.xs.length x.c 1 (ints x.xs)) (h1 : ¬ 10 < cs.length) (h2 : 10 < st.length) : Calls Tryz.prog 3 #[trV pl cs ca cc, .slice sa st.length sc, .int .i64 fr] w (RetV w (.bool true)) := by
  refine calls_T0 (av := [_, _, _]) Tryz.func3 rfl rfl rfl ?_
  refine t_seq ?_
  refine t_reg ?_
  refine to_box rfl rfl (fun b3 => ?_)
  refine to_as rfl rfl ?_
  refine to_nil ?_
  refine tn_code ?_
  refine t_seq ?_
  refine t_seq ?_
  refine t_reg ?_
  first | refine to_fa rfl rfl rfl (by simp only [Nat.reduceAdd]; rfl) rfl ?_ | refine to_fae rfl rfl rfl (by simp only [Nat.reduceAdd]; rfl) rfl ?_
  first | refine to_lds rfl rfl rfl ?_ | refine to_ldes rfl (by assumption) rfl rfl ?_
  refine to_lenS rfl rfl ?_
  refine to_gtr rfl rfl rfl ?_
  refine to_fix (s := 19) (b' := false) rfl (decide_eq_false (by omega)) ?_
  refine to_mv rfl rfl ?_
  refine to_gt rfl rfl ?_
  refine to_mv rfl rfl ?_
  refine to_gt rfl rfl ?_
  refine to_lenS rfl rfl ?_
  refine to_gt rfl rfl ?_
  refine to_gtr rfl rfl rfl ?_
  refine to_fix (s := 23) (b' := true) rfl (decide_eq_true (by omega)) ?_
  refine to_pkF rfl rfl rfl ?_
  refine to_mv rfl rfl ?_
  refine to_gf rfl rfl rfl rfl ?_
  refine to_gf rfl rfl rfl rfl ?_
  refine to_gf rfl rfl rfl rfl ?_
  refine to_pkT rfl rfl rfl ?_
  refine to_mv rfl rfl ?_
  refine to_gf rfl rfl rfl rfl ?_
  refine to_gf rfl rfl rfl rfl ?_
  refine to_gf rfl rfl rfl rfl ?_
  refine to_pkT rfl rfl rfl ?_
  refine to_mv rfl rfl ?_
  refine to_gf rfl rfl rfl rfl ?_
  refine to_gf rfl rfl rfl rfl ?_
  refine to_gf rfl rfl rfl rfl ?_
  refine to_gf rfl rfl rfl rfl ?_
  refine to_pkT rfl rfl rfl ?_
  refine to_mv rfl rfl ?_
  refine to_gf rfl rfl rfl rfl ?_
  refine to_gf rfl rfl rfl rfl ?_
  refine to_pkT rfl rfl rfl ?_
  refine to_mv rfl rfl ?_
  refine to_gf rfl rfl rfl rfl ?_
  refine to_gf rfl rfl rfl rfl ?_
  refine to_gf rfl rfl rfl rfl ?_
  refine to_gf rfl rfl rfl rfl ?_
  refine to_pkT rfl rfl rfl ?_
  refine to_nil ?_
  refine tn_code ?_
  refine t_ifT rfl ?_
  refine t_seq ?_
  refine t_reg ?_
  refine to_call0 rfl rfl (fun w s => top_known w) rfl ?_
  refine to_as rfl rfl ?_
  refine to_nil ?_
  refine tn_code ?_
  refine t_ret1 rfl rfl (res_tmp rfl) (fun w' s => ?_)
  rfl

set_option maxRecDepth 20000 in
theorem top_c3 (pl : Int) (cs : List Cp) (ca : Option Addr) (cc : Nat) (st : List Li) (sa : Option Addr) (sc : Nat) (fr : Int) (w : World) (hct : Ro w 0 w.heap.size ca cs.length cc 2 (cs.map cpC)) (hcs : ∀ x ∈ cs, 0 < x.s.length → Ro w 0 w.heap.size x.a x.s.length x.c 1 (ints x.s)) (hst : Ro w 0 w.heap.size sa st.length sc 1 (st.map liC)) (hss : ∀ x ∈ st, 0 < x.xs.length → Ro w 0 w.heap.size x.a x.xs.length x.c 1 (ints x.xs)) (h1 : ¬ 10 < cs.length) (h2 : ¬ 10 < st.length) (hTf : isTr pl cs = false) : Calls Tryz.prog 3 #[trV pl cs ca cc, .slice sa st.length sc, .int .i64 fr] w (RetV w (.bool true)) := by
  refine calls_T0 (av := [_, _, _]) Tryz.func3 rfl rfl rfl ?_
  refine t_seq ?_
  refine t_reg ?_
  refine to_box rfl rfl (fun b3 => ?_)
  refine to_as rfl rfl ?_
  refine to_nil ?_
  refine tn_code ?_
  refine t_seq ?_
  refine t_seq ?_
  refine t_reg ?_
  first | refine to_fa rfl rfl rfl (by simp only [Nat.reduceAdd]; rfl) rfl ?_ | refine to_fae rfl rfl rfl (by simp only [Nat.reduceAdd]; rfl) rfl ?_
  first | refine to_lds rfl rfl rfl ?_ | refine to_ldes rfl (by assumption) rfl rfl ?_
  refine to_lenS rfl rfl ?_
  refine to_gtr rfl rfl rfl ?_
  refine to_fix (s := 19) (b' := false) rfl (decide_eq_false (by omega)) ?_
  refine to_mv rfl rfl ?_
  refine to_gt rfl rfl ?_
  refine to_mv rfl rfl ?_
  refine to_gt rfl rfl ?_
  refine to_lenS rfl rfl ?_
  refine to_gt rfl rfl ?_
  refine to_gtr rfl rfl rfl ?_
  refine to_fix (s := 23) (b' := false) rfl (decide_eq_false (by omega)) ?_
  refine to_pkF rfl rfl rfl ?_
  refine to_mv rfl rfl ?_
  refine to_gt rfl rfl ?_
  first | refine to_lda rfl rfl rfl ?_ | refine to_ldea rfl (by assumption) rfl rfl ?_
  refine to_gt rfl rfl ?_
  refine to_call0 rfl rfl (fun w s => s7_Tree pl cs ca cc w (rdw s) (fun x hx h0 => by haveI := hcs x hx h0; exact rdw s) (by omega)) rfl ?_
  refine to_fix (s := 27) (b' := false) rfl (hTf) ?_
  refine to_gt rfl rfl ?_
  refine to_not rfl rfl ?_
  refine to_pkF rfl rfl rfl ?_
  refine to_mv rfl rfl ?_
  refine to_gf rfl rfl rfl rfl ?_
  refine to_gf rfl rfl rfl rfl ?_
  refine to_gf rfl rfl rfl rfl ?_
  refine to_pkT rfl rfl rfl ?_
  refine to_mv rfl rfl ?_
  refine to_gf rfl rfl rfl rfl ?_
  refine to_gf rfl rfl rfl rfl ?_
  refine to_gf rfl rfl rfl rfl ?_
  refine to_gf rfl rfl rfl rfl ?_
  refine to_pkT rfl rfl rfl ?_
  refine to_mv rfl rfl ?_
  refine to_gf rfl rfl rfl rfl ?_
  refine to_gf rfl rfl rfl rfl ?_
  refine to_pkT rfl rfl rfl ?_
  refine to_mv rfl rfl ?_
  refine to_gf rfl rfl rfl rfl ?_
  refine to_gf rfl rfl rfl rfl ?_
  refine to_gf rfl rfl rfl rfl ?_
  refine to_gf rfl rfl rfl rfl ?_
  refine to_pkT rfl rfl rfl ?_
  refine to_nil ?_
  refine tn_code ?_
  refine t_ifT rfl ?_
  refine t_seq ?_
  refine t_reg ?_
  refine to_call0 rfl rfl (fun w s => top_known w) rfl ?_
  refine to_as rfl rfl ?_
  refine to_nil ?_
  refine tn_code ?_
  refine t_ret1 rfl rfl (res_tmp rfl) (fun w' s => ?_)
  rfl

set_option maxRecDepth 20000 in
theorem top_c4 (pl : Int) (cs : List Cp) (ca : Option Addr) (cc : Nat) (st : List Li) (sa : Option Addr) (sc : Nat) (fr : Int) (w : World) (hct : Ro w 0 w.heap.size ca cs.length cc 2 (cs.map cpC)) (hcs : ∀ x ∈ cs, 0 < x.s.length → Ro w 0 w.heap.size x.a x.s.length x.c 1 (ints x.s)) (hst : Ro w 0 w.heap.size sa st.length sc 1 (st.map liC)) (hss : ∀ x ∈ st, 0 < x.xs.length → Ro w 0 w.heap.size x.a x.xs.length x.c 1 (ints x.xs)) (h1 : ¬ 10 < cs.length) (h2 : ¬ 10 < st.length) (hT : isTr pl cs = true) (h4 : ¬ pl = 3) : Calls Tryz.prog 3 #[trV pl cs ca cc, .slice sa st.length sc, .int .i64 fr] w (RetV w (.bool true)) := by
  refine calls_T0 (av := [_, _, _]) Tryz.func3 rfl rfl rfl ?_
  refine t_seq ?_
  refine t_reg ?_
  refine to_box rfl rfl (fun b3 => ?_)
  refine to_as rfl rfl ?_
  refine to_nil ?_
  refine tn_code ?_
  refine t_seq ?_
  refine t_seq ?_
  refine t_reg ?_
  first | refine to_fa rfl rfl rfl (by simp only [Nat.reduceAdd]; rfl) rfl ?_ | refine to_fae rfl rfl rfl (by simp only [Nat.reduceAdd]; rfl) rfl ?_
  first | refine to_lds rfl rfl rfl ?_ | refine to_ldes rfl (by assumption) rfl rfl ?_
  refine to_lenS rfl rfl ?_
  refine to_gtr rfl rfl rfl ?_
  refine to_fix (s := 19) (b' := false) rfl (decide_eq_false (by omega)) ?_
  refine to_mv rfl rfl ?_
  refine to_gt rfl rfl ?_
  refine to_mv rfl rfl ?_
  refine to_gt rfl rfl ?_
  refine to_lenS rfl rfl ?_
  refine to_gt rfl rfl ?_
  refine to_gtr rfl rfl rfl ?_
  refine to_fix (s := 23) (b' := false) rfl (decide_eq_false (by omega)) ?_
  refine to_pkF rfl rfl rfl ?_
  refine to_mv rfl rfl ?_
  refine to_gt rfl rfl ?_
  first | refine to_lda rfl rfl rfl ?_ | refine to_ldea rfl (by assumption) rfl rfl ?_
  refine to_gt rfl rfl ?_
  refine to_call0 rfl rfl (fun w s => s7_Tree pl cs ca cc w (rdw s) (fun x hx h0 => by haveI := hcs x hx h0; exact rdw s) (by omega)) rfl ?_
  refine to_fix (s := 27) (b' := true) rfl (hT) ?_
  refine to_gt rfl rfl ?_
  refine to_not rfl rfl ?_
  refine to_pkF rfl rfl rfl ?_
  refine to_mv rfl rfl ?_
  refine to_gt rfl rfl ?_
  first | refine to_fa rfl rfl rfl (by simp only [Nat.reduceAdd]; rfl) rfl ?_ | refine to_fae rfl rfl rfl (by simp only [Nat.reduceAdd]; rfl) rfl ?_
  refine to_gt rfl rfl ?_
  first | refine to_lds rfl rfl rfl ?_ | refine to_ldes rfl (by assumption) rfl rfl ?_
  refine to_gt rfl rfl ?_
  refine to_neq rfl rfl rfl ?_
  refine to_fix (s := 33) (b' := true) rfl (decide_eq_true (by omega)) ?_
  refine to_pkF rfl rfl rfl ?_
  refine to_mv rfl rfl ?_
  refine to_gf rfl rfl rfl rfl ?_
  refine to_gf rfl rfl rfl rfl ?_
  refine to_gf rfl rfl rfl rfl ?_
  refine to_gf rfl rfl rfl rfl ?_
  refine to_pkT rfl rfl rfl ?_
  refine to_mv rfl rfl ?_
  refine to_gf rfl rfl rfl rfl ?_
  refine to_gf rfl rfl rfl rfl ?_
  refine to_pkT rfl rfl rfl ?_
  refine to_mv rfl rfl ?_
  refine to_gf rfl rfl rfl rfl ?_
  refine to_gf rfl rfl rfl rfl ?_
  refine to_gf rfl rfl rfl rfl ?_
  refine to_gf rfl rfl rfl rfl ?_
  refine to_pkT rfl rfl rfl ?_
  refine to_nil ?_
  refine tn_code ?_
  refine t_ifT rfl ?_
  refine t_seq ?_
  refine t_reg ?_
  refine to_call0 rfl rfl (fun w s => top_known w) rfl ?_
  refine to_as rfl rfl ?_
  refine to_nil ?_
  refine tn_code ?_
  refine t_ret1 rfl rfl (res_tmp rfl) (fun w' s => ?_)
  rfl

set_option maxRecDepth 20000 in
theorem top_c5 (pl : Int) (cs : List Cp) (ca : Option Addr) (cc : Nat) (st : List Li) (sa : Option Addr) (sc : Nat) (fr : Int) (w : World) (hct : Ro w 0 w.heap.size ca cs.length cc 2 (cs.map cpC)) (hcs : ∀ x ∈ cs, 0 < x.s.length → Ro w 0 w.heap.size x.a x.s.length x.c 1 (ints x.s)) (hst : Ro w 0 w.heap.size sa st.length sc 1 (st.map liC)) (hss : ∀ x ∈ st, 0 < x.xs.length → Ro w 0 w.heap.size x.a x.xs.length x.c 1 (ints x.xs)) (h1 : ¬ 10 < cs.length) (h2 : ¬ 10 < st.length) (hT : isTr pl cs = true) (h4 : pl = 3) (hCf : inB fr 0 (cs.length - 1) = false) : Calls Tryz.prog 3 #[trV pl cs ca cc, .slice sa st.length sc, .int .i64 fr] w (RetV w (.bool true)) := by
  refine calls_T0 (av := [_, _, _]) Tryz.func3 rfl rfl rfl ?_
  refine t_seq ?_
  refine t_reg ?_
  refine to_box rfl rfl (fun b3 => ?_)
  refine to_as rfl rfl ?_
  refine to_nil ?_
  refine tn_code ?_
  refine t_seq ?_
  refine t_seq ?_
  refine t_reg ?_
  first | refine to_fa rfl rfl rfl (by simp only [Nat.reduceAdd]; rfl) rfl ?_ | refine to_fae rfl rfl rfl (by simp only [Nat.reduceAdd]; rfl) rfl ?_
  first | refine to_lds rfl rfl rfl ?_ | refine to_ldes rfl (by assumption) rfl rfl ?_
  refine to_lenS rfl rfl ?_
  refine to_gtr rfl rfl rfl ?_
  refine to_fix (s := 19) (b' := false) rfl (decide_eq_false (by omega)) ?_
  refine to_mv rfl rfl ?_
  refine to_gt rfl rfl ?_
  refine to_mv rfl rfl ?_
  refine to_gt rfl rfl ?_
  refine to_lenS rfl rfl ?_
  refine to_gt rfl rfl ?_
  refine to_gtr rfl rfl rfl ?_
  refine to_fix (s := 23) (b' := false) rfl (decide_eq_false (by omega)) ?_
  refine to_pkF rfl rfl rfl ?_
  refine to_mv rfl rfl ?_
  refine to_gt rfl rfl ?_
  first | refine to_lda rfl rfl rfl ?_ | refine to_ldea rfl (by assumption) rfl rfl ?_
  refine to_gt rfl rfl ?_
  refine to_call0 rfl rfl (fun w s => s7_Tree pl cs ca cc w (rdw s) (fun x hx h0 => by haveI := hcs x hx h0; exact rdw s) (by omega)) rfl ?_
  refine to_fix (s := 27) (b' := true) rfl (hT) ?_
  refine to_gt rfl rfl ?_
  refine to_not rfl rfl ?_
  refine to_pkF rfl rfl rfl ?_
  refine to_mv rfl rfl ?_
  refine to_gt rfl rfl ?_
  first | refine to_fa rfl rfl rfl (by simp only [Nat.reduceAdd]; rfl) rfl ?_ | refine to_fae rfl rfl rfl (by simp only [Nat.reduceAdd]; rfl) rfl ?_
  refine to_gt rfl rfl ?_
  first | refine to_lds rfl rfl rfl ?_ | refine to_ldes rfl (by assumption) rfl rfl ?_
  refine to_gt rfl rfl ?_
  refine to_neq rfl rfl rfl ?_
  refine to_fix (s := 33) (b' := false) rfl (decide_eq_false (by omega)) ?_
  refine to_pkF rfl rfl rfl ?_
  refine to_mv rfl rfl ?_
  refine to_gt rfl rfl ?_
  first | refine to_lda rfl rfl rfl ?_ | refine to_ldea rfl (by assumption) rfl rfl ?_
  refine to_gt rfl rfl ?_
  refine to_mv rfl rfl ?_
  refine to_gt rfl rfl ?_
  refine to_call0 rfl rfl (fun w s => s7_Copy pl cs ca cc _ w (by omega)) rfl ?_
  refine to_fix (s := 38) (b' := false) rfl (hCf) ?_
  refine to_gt rfl rfl ?_
  refine to_not rfl rfl ?_
  refine to_pkF rfl rfl rfl ?_
  refine to_mv rfl rfl ?_
  refine to_gf rfl rfl rfl rfl ?_
  refine to_gf rfl rfl rfl rfl ?_
  refine to_pkT rfl rfl rfl ?_
  refine to_mv rfl rfl ?_
  refine to_gf rfl rfl rfl rfl ?_
  refine to_gf rfl rfl rfl rfl ?_
  refine to_gf rfl rfl rfl rfl ?_
  refine to_gf rfl rfl rfl rfl ?_
  refine to_pkT rfl rfl rfl ?_
  refine to_nil ?_
  refine tn_code ?_
  refine t_ifT rfl ?_
  refine t_seq ?_
  refine t_reg ?_
  refine to_call0 rfl rfl (fun w s => top_known w) rfl ?_
  refine to_as rfl rfl ?_
  refine to_nil ?_
  refine tn_code ?_
  refine t_ret1 rfl rfl (res_tmp rfl) (fun w' s => ?_)
  rfl

set_option maxRecDepth 20000 in
theorem top_c6 (pl : Int) (cs : List Cp) (ca : Option Addr) (cc : Nat) (st : List Li) (sa : Option Addr) (sc : Nat) (fr : Int) (w : World) (hct : Ro w 0 w.heap.size ca cs.length cc 2 (cs.map cpC)) (hcs : ∀ x ∈ cs, 0 < x.s.length → Ro w 0 w.heap.size x.a x.s.length x.c 1 (ints x.s)) (hst : Ro w 0 w.heap.size sa st.length sc 1 (st.map liC)) (hss : ∀ x ∈ st, 0 < x.xs.length → Ro w 0 w.heap.size x.a x.xs.length x.c 1 (ints x.xs)) (h1 : ¬ 10 < cs.length) (h2 : ¬ 10 < st.length) (hT : isTr pl cs = true) (h4 : pl = 3) (hC : inB fr 0 (cs.length - 1) = true) (h6 : fr = 0) : Calls Tryz.prog 3 #[trV pl cs ca cc, .slice sa st.length sc, .int .i64 fr] w (RetV w (.bool true)) := by
  refine calls_T0 (av := [_, _, _]) Tryz.func3 rfl rfl rfl ?_
  refine t_seq ?_
  refine t_reg ?_
  refine to_box rfl rfl (fun b3 => ?_)
  refine to_as rfl rfl ?_
  refine to_nil ?_
  refine tn_code ?_
  refine t_seq ?_
  refine t_seq ?_
  refine t_reg ?_
  first | refine to_fa rfl rfl rfl (by simp only [Nat.reduceAdd]; rfl) rfl ?_ | refine to_fae rfl rfl rfl (by simp only [Nat.reduceAdd]; rfl) rfl ?_
  first | refine to_lds rfl rfl rfl ?_ | refine to_ldes rfl (by assumption) rfl rfl ?_
  refine to_lenS rfl rfl ?_
  refine to_gtr rfl rfl rfl ?_
  refine to_fix (s := 19) (b' := false) rfl (decide_eq_false (by omega)) ?_
  refine to_mv rfl rfl ?_
  refine to_gt rfl rfl ?_
  refine to_mv rfl rfl ?_
  refine to_gt rfl rfl ?_
  refine to_lenS rfl rfl ?_
  refine to_gt rfl rfl ?_
  refine to_gtr rfl rfl rfl ?_
  refine to_fix (s := 23) (b' := false) rfl (decide_eq_false (by omega)) ?_
  refine to_pkF rfl rfl rfl ?_
  refine to_mv rfl rfl ?_
  refine to_gt rfl rfl ?_
  first | refine to_lda rfl rfl rfl ?_ | refine to_ldea rfl (by assumption) rfl rfl ?_
  refine to_gt rfl rfl ?_
  refine to_call0 rfl rfl (fun w s => s7_Tree pl cs ca cc w (rdw s) (fun x hx h0 => by haveI := hcs x hx h0; exact rdw s) (by omega)) rfl ?_
  refine to_fix (s := 27) (b' := true) rfl (hT) ?_
  refine to_gt rfl rfl ?_
  refine to_not rfl rfl ?_
  refine to_pkF rfl rfl rfl ?_
  refine to_mv rfl rfl ?_
  refine to_gt rfl rfl ?_
  first | refine to_fa rfl rfl rfl (by simp only [Nat.reduceAdd]; rfl) rfl ?_ | refine to_fae rfl rfl rfl (by simp only [Nat.reduceAdd]; rfl) rfl ?_
  refine to_gt rfl rfl ?_
  first | refine to_lds rfl rfl rfl ?_ | refine to_ldes rfl (by assumption) rfl rfl ?_
  refine to_gt rfl rfl ?_
  refine to_neq rfl rfl rfl ?_
  refine to_fix (s := 33) (b' := false) rfl (decide_eq_false (by omega)) ?_
  refine to_pkF rfl rfl rfl ?_
  refine to_mv rfl rfl ?_
  refine to_gt rfl rfl ?_
  first | refine to_lda rfl rfl rfl ?_ | refine to_ldea rfl (by assumption) rfl rfl ?_
  refine to_gt rfl rfl ?_
  refine to_mv rfl rfl ?_
  refine to_gt rfl rfl ?_
  refine to_call0 rfl rfl (fun w s => s7_Copy pl cs ca cc _ w (by omega)) rfl ?_
  refine to_fix (s := 38) (b' := true) rfl (hC) ?_
  refine to_gt rfl rfl ?_
  refine to_not rfl rfl ?_
  refine to_pkF rfl rfl rfl ?_
  refine to_mv rfl rfl ?_
  refine to_gt rfl rfl ?_
  refine to_mv rfl rfl ?_
  refine to_gt rfl rfl ?_
  refine to_eql rfl rfl rfl ?_
  refine to_fix (s := 43) (b' := true) rfl (decide_eq_true (by omega)) ?_
  refine to_pkF rfl rfl rfl ?_
  refine to_mv rfl rfl ?_
  refine to_gf rfl rfl rfl rfl ?_
  refine to_gf rfl rfl rfl rfl ?_
  refine to_gf rfl rfl rfl rfl ?_
  refine to_gf rfl rfl rfl rfl ?_
  refine to_pkT rfl rfl rfl ?_
  refine to_nil ?_
  refine tn_code ?_
  refine t_ifT rfl ?_
  refine t_seq ?_
  refine t_reg ?_
  refine to_call0 rfl rfl (fun w s => top_known w) rfl ?_
  refine to_as rfl rfl ?_
  refine to_nil ?_
  refine tn_code ?_
  refine t_ret1 rfl rfl (res_tmp rfl) (fun w' s => ?_)
  rfl

set_option maxRecDepth 20000 in
theorem top_c7 (pl : Int) (cs : List Cp) (ca : Option Addr) (cc : Nat) (st : List Li) (sa : Option Addr) (sc : Nat) (fr : Int) (w : World) (hct : Ro w 0 w.heap.size ca cs.length cc 2 (cs.map cpC)) (hcs : ∀ x ∈ cs, 0 < x.s.length → Ro w 0 w.heap.size x.a x.s.length x.c 1 (ints x.s)) (hst : Ro w 0 w.heap.size sa st.length sc 1 (st.map liC)) (hss : ∀ x ∈ st, 0 < x.xs.length → Ro w 0 w.heap.size x.a x.xs.length x.c 1 (ints x.xs)) (h1 : ¬ 10 < cs.length) (h2 : ¬ 10 < st.length) (hT : isTr pl cs = true) (h4 : pl = 3) (hC : inB fr 0 (cs.length - 1) = true) (h6 : ¬ fr = 0) (hSf : isSt pl cs st = false) : Calls Tryz.prog 3 #[trV pl cs ca cc, .slice sa st.length sc, .int .i64 fr] w (RetV w (.bool true)) := by
  refine calls_T0 (av := [_, _, _]) Tryz.func3 rfl rfl rfl ?_
  refine t_seq ?_
  refine t_reg ?_
  refine to_box rfl rfl (fun b3 => ?_)
  refine to_as rfl rfl ?_
  refine to_nil ?_
  refine tn_code ?_
  refine t_seq ?_
  refine t_seq ?_
  refine t_reg ?_
  first | refine to_fa rfl rfl rfl (by simp only [Nat.reduceAdd]; rfl) rfl ?_ | refine to_fae rfl rfl rfl (by simp only [Nat.reduceAdd]; rfl) rfl ?_
  first | refine to_lds rfl rfl rfl ?_ | refine to_ldes rfl (by assumption) rfl rfl ?_
  refine to_lenS rfl rfl ?_
  refine to_gtr rfl rfl rfl ?_
  refine to_fix (s := 19) (b' := false) rfl (decide_eq_false (by omega)) ?_
  refine to_mv rfl rfl ?_
  refine to_gt rfl rfl ?_
  refine to_mv rfl rfl ?_
  refine to_gt rfl rfl ?_
  refine to_lenS rfl rfl ?_
  refine to_gt rfl rfl ?_
  refine to_gtr rfl rfl rfl ?_
  refine to_fix (s := 23) (b' := false) rfl (decide_eq_false (by omega)) ?_
  refine to_pkF rfl rfl rfl ?_
  refine to_mv rfl rfl ?_
  refine to_gt rfl rfl ?_
  first | refine to_lda rfl rfl rfl ?_ | refine to_ldea rfl (by assumption) rfl rfl ?_
  refine to_gt rfl rfl ?_
  refine to_call0 rfl rfl (fun w s => s7_Tree pl cs ca cc w (rdw s) (fun x hx h0 => by haveI := hcs x hx h0; exact rdw s) (by omega)) rfl ?_
  refine to_fix (s := 27) (b' := true) rfl (hT) ?_
  refine to_gt rfl rfl ?_
  refine to_not rfl rfl ?_
  refine to_pkF rfl rfl rfl ?_
  refine to_mv rfl rfl ?_
  refine to_gt rfl rfl ?_
  first | refine to_fa rfl rfl rfl (by simp only [Nat.reduceAdd]; rfl) rfl ?_ | refine to_fae rfl rfl rfl (by simp only [Nat.reduceAdd]; rfl) rfl ?_
  refine to_gt rfl rfl ?_
  first | refine to_lds rfl rfl rfl ?_ | refine to_ldes rfl (by assumption) rfl rfl ?_
  refine to_gt rfl rfl ?_
  refine to_neq rfl rfl rfl ?_
  refine to_fix (s := 33) (b' := false) rfl (decide_eq_false (by omega)) ?_
  refine to_pkF rfl rfl rfl ?_
  refine to_mv rfl rfl ?_
  refine to_gt rfl rfl ?_
  first | refine to_lda rfl rfl rfl ?_ | refine to_ldea rfl (by assumption) rfl rfl ?_
  refine to_gt rfl rfl ?_
  refine to_mv rfl rfl ?_
  refine to_gt rfl rfl ?_
  refine to_call0 rfl rfl (fun w s => s7_Copy pl cs ca cc _ w (by omega)) rfl ?_
  refine to_fix (s := 38) (b' := true) rfl (hC) ?_
  refine to_gt rfl rfl ?_
  refine to_not rfl rfl ?_
  refine to_pkF rfl rfl rfl ?_
  refine to_mv rfl rfl ?_
  refine to_gt rfl rfl ?_
  refine to_mv rfl rfl ?_
  refine to_gt rfl rfl ?_
  refine to_eql rfl rfl rfl ?_
  refine to_fix (s := 43) (b' := false) rfl (decide_eq_false (by omega)) ?_
  refine to_pkF rfl rfl rfl ?_
  refine to_mv rfl rfl ?_
  refine to_gt rfl rfl ?_
  first | refine to_lda rfl rfl rfl ?_ | refine to_ldea rfl (by assumption) rfl rfl ?_
  refine to_gt rfl rfl ?_
  refine to_mv rfl rfl ?_
  refine to_gt rfl rfl ?_
  refine to_call0 rfl rfl (fun w s => s7_Story pl cs ca cc st sa sc w (rdw s) (fun x hx h0 => by haveI := hcs x hx h0; exact rdw s) (by omega) (rdw s) (fun x hx h0 => by haveI := hss x hx h0; exact rdw s) (by omega) hT) rfl ?_
  refine to_fix (s := 48) (b' := false) rfl (hSf) ?_
  refine to_gt rfl rfl ?_
  refine to_not rfl rfl ?_
  refine to_pkF rfl rfl rfl ?_
  refine to_nil ?_
  refine tn_code ?_
  refine t_ifT rfl ?_
  refine t_seq ?_
  refine t_reg ?_
  refine to_call0 rfl rfl (fun w s => top_known w) rfl ?_
  refine to_as rfl rfl ?_
  refine to_nil ?_
  refine tn_code ?_
  refine t_ret1 rfl rfl (res_tmp rfl) (fun w' s => ?_)
  rfl

end Go.Proofs


namespace Go.Proofs
open Go Go.Sx Go.RowKit

set_option maxRecDepth 20000 in
theorem top_eq (cs : List Cp) (ca : Option Addr) (cc : Nat) (st : List Li) (sa : Option Addr) (sc : Nat) (i pn : Nat) (x : Cp) (a0 a1 a2 b0 b1 b2 : Int) (aa ab : Option Addr) (ac bc : Nat) (w : World) (hct : Ro w 0 w.heap.size ca cs.length cc 2 (cs.map cpC)) (hcs : ∀ x ∈ cs, 0 < x.s.length → Ro w 0 w.heap.size x.a x.s.length x.c 1 (ints x.s)) (hst : Ro w 0 w.heap.size sa st.length sc 1 (st.map liC)) (hss : ∀ x ∈ st, 0 < x.xs.length → Ro w 0 w.heap.size x.a x.xs.length x.c 1 (ints x.xs)) (h1 : ¬ 10 < cs.length) (h2 : ¬ 10 < st.length) (hT : isTr 3 cs = true) (hS : isSt 3 cs st = true) (hxl : ∀ x ∈ cs, x.s.length ≤ 1000000) (hi : 0 < i) (hil : i < cs.length) (hsl : st.length = cs.length) (hx : cs[i]? = some x) (hxp : x.p = (pn : Int)) (hpn : pn < i) (hlA : st[pn]? = some ⟨[a0, a1, a2], aa, ac⟩) (hlB : st[i]? = some ⟨[b0, b1, b2], ab, bc⟩) (ha0 : 0 ≤ a0 ∧ a0 ≤ 9) (ha1 : 0 ≤ a1 ∧ a1 ≤ 9) (ha2 : 0 ≤ a2 ∧ a2 ≤ 9) (hb0 : 0 ≤ b0 ∧ b0 ≤ 9) (hb1 : 0 ≤ b1 ∧ b1 ≤ 9) (hb2 : 0 ≤ b2 ∧ b2 ≤ 9) (he : (100 * b0 + 10 * b1 + b2) = (100 * a0 + 10 * a1 + a2)) : Calls Tryz.prog 3 #[trV 3 cs ca cc, .slice sa st.length sc, .int .i64 (i : Int)] w (RetV w (.bool true)) := by
  have hC : inB (i : Int) 0 (cs.length - 1) = true := inB_iff.2 (by omega)
  have hxc : (cs.map cpC)[i]? = some [.int .i64 (pn : Int), .slice x.a x.s.length x.c] := by rw [← hxp]; exact map_get (f := cpC) hx
  have hlAc : (st.map liC)[pn]? = some [.slice aa 3 ac] := map_get (f := liC) hlA
  have hlBc : (st.map liC)[i]? = some [.slice ab 3 bc] := map_get (f := liC) hlB
  have hrA : Ro w 0 w.heap.size aa 3 ac 1 (ints [a0, a1, a2]) := hss _ (List.mem_of_getElem? hlA) (by simp)
  have hrB : Ro w 0 w.heap.size ab 3 bc 1 (ints [b0, b1, b2]) := hss _ (List.mem_of_getElem? hlB) (by simp)
  have eA0 : (ints [a0, a1, a2])[0]? = some [.int .i64 a0] := rfl
  have eA1 : (ints [a0, a1, a2])[1]? = some [.int .i64 a1] := rfl
  have eA2 : (ints [a0, a1, a2])[2]? = some [.int .i64 a2] := rfl
  have eB0 : (ints [b0, b1, b2])[0]? = some [.int .i64 b0] := rfl
  have eB1 : (ints [b0, b1, b2])[1]? = some [.int .i64 b1] := rfl
  have eB2 : (ints [b0, b1, b2])[2]? = some [.int .i64 b2] := rfl
  have hEl := erA_len cs st 3 st.length
  have hcnt := cnt_main hi (by omega) hx hxp hlA hlB
  have hd := lw_eq ha0 ha1 ha2 hb0 hb1 hb2 he
  refine calls_T0 (av := [_, _, _]) Tryz.func3 rfl rfl rfl ?_
  refine t_seq ?_
  refine t_reg ?_
  refine to_box rfl rfl (fun b3 => ?_)
  refine to_as rfl rfl ?_
  refine to_nil ?_
  refine tn_code ?_
  refine t_seq ?_
  refine t_seq ?_
  refine t_reg ?_
  first | refine to_fa rfl rfl rfl (by simp only [Nat.reduceAdd]; rfl) rfl ?_ | refine to_fae rfl rfl rfl (by simp only [Nat.reduceAdd]; rfl) rfl ?_
  first | refine to_lds rfl rfl rfl ?_ | refine to_ldes rfl (by assumption) rfl rfl ?_
  refine to_lenS rfl rfl ?_
  refine to_gtr rfl rfl rfl ?_
  refine to_fix (s := 19) (b' := false) rfl (decide_eq_false (by omega)) ?_
  refine to_mv rfl rfl ?_
  refine to_gt rfl rfl ?_
  refine to_mv rfl rfl ?_
  refine to_gt rfl rfl ?_
  refine to_lenS rfl rfl ?_
  refine to_gt rfl rfl ?_
  refine to_gtr rfl rfl rfl ?_
  refine to_fix (s := 23) (b' := false) rfl (decide_eq_false (by omega)) ?_
  refine to_pkF rfl rfl rfl ?_
  refine to_mv rfl rfl ?_
  refine to_gt rfl rfl ?_
  first | refine to_lda rfl rfl rfl ?_ | refine to_ldea rfl (by assumption) rfl rfl ?_
  refine to_gt rfl rfl ?_
  refine to_call0 rfl rfl (fun w s => s7_Tree 3 cs ca cc w (rdw s) (fun x hx h0 => by haveI := hcs x hx h0; exact rdw s) (by omega)) rfl ?_
  refine to_fix (s := 27) (b' := true) rfl (hT) ?_
  refine to_gt rfl rfl ?_
  refine to_not rfl rfl ?_
  refine to_pkF rfl rfl rfl ?_
  refine to_mv rfl rfl ?_
  refine to_gt rfl rfl ?_
  first | refine to_fa rfl rfl rfl (by simp only [Nat.reduceAdd]; rfl) rfl ?_ | refine to_fae rfl rfl rfl (by simp only [Nat.reduceAdd]; rfl) rfl ?_
  refine to_gt rfl rfl ?_
  first | refine to_lds rfl rfl rfl ?_ | refine to_ldes rfl (by assumption) rfl rfl ?_
  refine to_gt rfl rfl ?_
  refine to_neq rfl rfl rfl ?_
  refine to_fix (s := 33) (b' := false) rfl (decide_eq_false (by omega)) ?_
  refine to_pkF rfl rfl rfl ?_
  refine to_mv rfl rfl ?_
  refine to_gt rfl rfl ?_
  first | refine to_lda rfl rfl rfl ?_ | refine to_ldea rfl (by assumption) rfl rfl ?_
  refine to_gt rfl rfl ?_
  refine to_mv rfl rfl ?_
  refine to_gt rfl rfl ?_
  refine to_call0 rfl rfl (fun w s => s7_Copy 3 cs ca cc _ w (by omega)) rfl ?_
  refine to_fix (s := 38) (b' := true) rfl (hC) ?_
  refine to_gt rfl rfl ?_
  refine to_not rfl rfl ?_
  refine to_pkF rfl rfl rfl ?_
  refine to_mv rfl rfl ?_
  refine to_gt rfl rfl ?_
  refine to_mv rfl rfl ?_
  refine to_gt rfl rfl ?_
  refine to_eql rfl rfl rfl ?_
  refine to_fix (s := 43) (b' := false) rfl (decide_eq_false (by omega)) ?_
  refine to_pkF rfl rfl rfl ?_
  refine to_mv rfl rfl ?_
  refine to_gt rfl rfl ?_
  first | refine to_lda rfl rfl rfl ?_ | refine to_ldea rfl (by assumption) rfl rfl ?_
  refine to_gt rfl rfl ?_
  refine to_mv rfl rfl ?_
  refine to_gt rfl rfl ?_
  refine to_call0 rfl rfl (fun w s => s7_Story 3 cs ca cc st sa sc w (rdw s) (fun x hx h0 => by haveI := hcs x hx h0; exact rdw s) (by omega) (rdw s) (fun x hx h0 => by haveI := hss x hx h0; exact rdw s) (by omega) hT) rfl ?_
  refine to_fix (s := 48) (b' := true) rfl (hS) ?_
  refine to_gt rfl rfl ?_
  refine to_not rfl rfl ?_
  refine to_pkF rfl rfl rfl ?_
  refine to_nil ?_
  refine tn_code ?_
  refine t_ifF rfl ?_
  refine t_skip ?_
  refine tn_code ?_
  refine t_seq ?_
  refine t_regD rfl (by kernel_rfl) (by kernel_rfl) ?_
  refine to_mv rfl rfl ?_
  first | refine to_fa rfl rfl rfl (by simp only [Nat.reduceAdd]; rfl) rfl ?_ | refine to_fae rfl rfl rfl (by simp only [Nat.reduceAdd]; rfl) rfl ?_
  first | refine to_lds rfl rfl rfl ?_ | refine to_ldes rfl (by assumption) rfl rfl ?_
  refine to_mv rfl rfl ?_
  first | refine to_ix rfl rfl rfl (by first | omega | decide) (by first | omega | decide) rfl ?_ | refine to_ixi rfl rfl rfl (by omega) (by omega) (by omega) rfl ?_
  first | refine to_fa rfl rfl rfl (by simp only [Nat.reduceAdd]; rfl) rfl ?_ | refine to_fae rfl rfl rfl (by simp only [Nat.reduceAdd]; rfl) rfl ?_
  first | refine to_lds rfl rfl rfl ?_ | refine to_ldes rfl (by assumption) rfl rfl ?_
  first | refine to_ix rfl rfl rfl (by first | omega | decide) (by first | omega | decide) rfl ?_ | refine to_ixi rfl rfl rfl (by omega) (by omega) (by omega) rfl ?_
  first | refine to_lds rfl rfl rfl ?_ | refine to_ldes rfl (by assumption) rfl rfl ?_
  refine to_mv rfl rfl ?_
  refine to_mv rfl rfl ?_
  first | refine to_ix rfl rfl rfl (by first | omega | decide) (by first | omega | decide) rfl ?_ | refine to_ixi rfl rfl rfl (by omega) (by omega) (by omega) rfl ?_
  first | refine to_lds rfl rfl rfl ?_ | refine to_ldes rfl (by assumption) rfl rfl ?_
  refine to_as rfl rfl ?_
  refine to_as rfl rfl ?_
  refine to_nil ?_
  refine tn_code ?_
  refine t_seq ?_
  refine t_reg ?_
  first | refine to_lda rfl rfl rfl ?_ | refine to_ldea rfl (by assumption) rfl rfl ?_
  refine to_mv rfl rfl ?_
  refine to_callR rfl rfl (fun w s => cp_Errors 3 cs ca cc st sa sc 3 w (rdw s) (fun x hx h0 => by haveI := hcs x hx h0; exact rdw s) (by omega) (rdw s) (fun x hx h0 => by haveI := hss x hx h0; exact rdw s) (by omega) hT hS rfl hxl) rfl (fun v68 lo68 w68 hlo68 hR68 => ?_)
  obtain ⟨a1x, c1x, rfl, hrl⟩ := hR68
  refine to_mv rfl rfl ?_
  refine to_ex rfl rfl rfl ?_
  refine to_ex rfl rfl rfl ?_
  refine to_as rfl rfl ?_
  refine to_as rfl rfl ?_
  refine to_nil ?_
  refine tn_code ?_
  refine t_seq ?_
  refine t_regA [13, 27, 28] 28 [.snap 0 w.heap.size w] [.snap 0 w.heap.size w] 34 rfl rfl (by kernel_rfl) (by kernel_rfl) (by kernel_rfl) ?_
  refine ta_q2 ?e1 (k := 0) (by kernel_rfl) rfl ?q1 ?r1
  case q1 =>
    refine to_mv rfl rfl ?_
    exact tpq_end
  refine ta_q1 ?e2 (k := 1) [2, 3, 8, 12, 13, 28] (by kernel_rfl) rfl rfl ?q2 ?r2
  case q2 =>
    first | refine to_ix rfl rfl rfl (by first | omega | decide) (by first | omega | decide) rfl ?_ | refine to_ixi rfl rfl rfl (by omega) (by omega) (by omega) rfl ?_
    exact tpq_end
  refine ta_q1 ?e3 (k := 2) [3, 8, 12, 13, 28] (by kernel_rfl) rfl rfl ?q3 ?r3
  case q3 =>
    first | refine to_lds rfl rfl rfl ?_ | refine to_ldes rfl (by assumption) rfl rfl ?_
    exact tpq_end
  refine ta_q2 ?e4 (k := 3) (by kernel_rfl) rfl ?q4 ?r4
  case q4 =>
    refine to_mul rfl rfl (by first | omega | exact mul_ok (by omega) (by omega) (by omega) (by omega)) rfl ?_
    exact tpq_end
  refine ta_q2 ?e5 (k := 4) (by kernel_rfl) rfl ?q5 ?r5
  case q5 =>
    refine to_mv rfl rfl ?_
    exact tpq_end
  refine ta_q1 ?e6 (k := 5) [6, 7, 8, 12, 13, 28] (by kernel_rfl) rfl rfl ?q6 ?r6
  case q6 =>
    first | refine to_ix rfl rfl rfl (by first | omega | decide) (by first | omega | decide) rfl ?_ | refine to_ixi rfl rfl rfl (by omega) (by omega) (by omega) rfl ?_
    exact tpq_end
  refine ta_q1 ?e7 (k := 6) [7, 8, 12, 13, 28] (by kernel_rfl) rfl rfl ?q7 ?r7
  case q7 =>
    first | refine to_lds rfl rfl rfl ?_ | refine to_ldes rfl (by assumption) rfl rfl ?_
    exact tpq_end
  refine ta_q2 ?e8 (k := 7) (by kernel_rfl) rfl ?q8 ?r8
  case q8 =>
    refine to_mul rfl rfl (by first | omega | exact mul_ok (by omega) (by omega) (by omega) (by omega)) rfl ?_
    exact tpq_end
  refine ta_q2 ?e9 (k := 8) (by kernel_rfl) rfl ?q9 ?r9
  case q9 =>
    refine to_add rfl rfl (by omega) rfl ?_
    exact tpq_end
  refine ta_q2 ?e10 (k := 9) (by kernel_rfl) rfl ?q10 ?r10
  case q10 =>
    refine to_mv rfl rfl ?_
    exact tpq_end
  refine ta_q1 ?e11 (k := 10) [11, 12, 13, 28] (by kernel_rfl) rfl rfl ?q11 ?r11
  case q11 =>
    first | refine to_ix rfl rfl rfl (by first | omega | decide) (by first | omega | decide) rfl ?_ | refine to_ixi rfl rfl rfl (by omega) (by omega) (by omega) rfl ?_
    exact tpq_end
  refine ta_q1 ?e12 (k := 11) [12, 13, 28] (by kernel_rfl) rfl rfl ?q12 ?r12
  case q12 =>
    first | refine to_lds rfl rfl rfl ?_ | refine to_ldes rfl (by assumption) rfl rfl ?_
    exact tpq_end
  refine ta_q2 ?e13 (k := 12) (by kernel_rfl) rfl ?q13 ?r13
  case q13 =>
    refine to_add rfl rfl (by omega) rfl ?_
    exact tpq_end
  refine ta_q2 ?e14 (k := 14) (by kernel_rfl) rfl ?q14 ?r14
  case q14 =>
    refine to_mv rfl rfl ?_
    exact tpq_end
  refine ta_q1 ?e15 (k := 15) [16, 17, 22, 26, 27, 28] (by kernel_rfl) rfl rfl ?q15 ?r15
  case q15 =>
    first | refine to_ix rfl rfl rfl (by first | omega | decide) (by first | omega | decide) rfl ?_ | refine to_ixi rfl rfl rfl (by omega) (by omega) (by omega) rfl ?_
    exact tpq_end
  refine ta_q1 ?e16 (k := 16) [17, 22, 26, 27, 28] (by kernel_rfl) rfl rfl ?q16 ?r16
  case q16 =>
    first | refine to_lds rfl rfl rfl ?_ | refine to_ldes rfl (by assumption) rfl rfl ?_
    exact tpq_end
  refine ta_q2 ?e17 (k := 17) (by kernel_rfl) rfl ?q17 ?r17
  case q17 =>
    refine to_mul rfl rfl (by first | omega | exact mul_ok (by omega) (by omega) (by omega) (by omega)) rfl ?_
    exact tpq_end
  refine ta_q2 ?e18 (k := 18) (by kernel_rfl) rfl ?q18 ?r18
  case q18 =>
    refine to_mv rfl rfl ?_
    exact tpq_end
  refine ta_q1 ?e19 (k := 19) [20, 21, 22, 26, 27, 28] (by kernel_rfl) rfl rfl ?q19 ?r19
  case q19 =>
    first | refine to_ix rfl rfl rfl (by first | omega | decide) (by first | omega | decide) rfl ?_ | refine to_ixi rfl rfl rfl (by omega) (by omega) (by omega) rfl ?_
    exact tpq_end
  refine ta_q1 ?e20 (k := 20) [21, 22, 26, 27, 28] (by kernel_rfl) rfl rfl ?q20 ?r20
  case q20 =>
    first | refine to_lds rfl rfl rfl ?_ | refine to_ldes rfl (by assumption) rfl rfl ?_
    exact tpq_end
  refine ta_q2 ?e21 (k := 21) (by kernel_rfl) rfl ?q21 ?r21
  case q21 =>
    refine to_mul rfl rfl (by first | omega | exact mul_ok (by omega) (by omega) (by omega) (by omega)) rfl ?_
    exact tpq_end
  refine ta_q2 ?e22 (k := 22) (by kernel_rfl) rfl ?q22 ?r22
  case q22 =>
    refine to_add rfl rfl (by omega) rfl ?_
    exact tpq_end
  refine ta_q2 ?e23 (k := 23) (by kernel_rfl) rfl ?q23 ?r23
  case q23 =>
    refine to_mv rfl rfl ?_
    exact tpq_end
  refine ta_q1 ?e24 (k := 24) [25, 26, 27, 28] (by kernel_rfl) rfl rfl ?q24 ?r24
  case q24 =>
    first | refine to_ix rfl rfl rfl (by first | omega | decide) (by first | omega | decide) rfl ?_ | refine to_ixi rfl rfl rfl (by omega) (by omega) (by omega) rfl ?_
    exact tpq_end
  refine ta_q1 ?e25 (k := 25) [26, 27, 28] (by kernel_rfl) rfl rfl ?q25 ?r25
  case q25 =>
    first | refine to_lds rfl rfl rfl ?_ | refine to_ldes rfl (by assumption) rfl rfl ?_
    exact tpq_end
  refine ta_q2 ?e26 (k := 26) (by kernel_rfl) rfl ?q26 ?r26
  case q26 =>
    refine to_add rfl rfl (by omega) rfl ?_
    exact tpq_end
  refine ta_fork [13, 27] (by kernel_rfl) rfl ?_
  refine ⟨⟨_, rfl, wanted_none rfl, ?_⟩, ⟨_, rfl, wanted_none rfl, ?_⟩, trivial⟩
  · skip
    refine to_bsl rfl rfl rfl rfl (fun a85 => ?_)
    refine ta_se1 rfl ?_
    refine ta_fork [27] (by kernel_rfl) rfl ?_
    refine ⟨⟨_, rfl, wanted_none rfl, ?_⟩, trivial⟩
    refine to_bsl rfl rfl rfl rfl (fun a99 => ?_)
    refine ta_se1 rfl ?_
    refine ta_fork [28] (by kernel_rfl) rfl ?_
    refine ⟨⟨_, rfl, wanted_none rfl, ?_⟩, trivial⟩
    refine to_callR rfl rfl (fun w s => hn_Errors (100 * a0 + 10 * a1 + a2) (100 * b0 + 10 * b1 + b2) _ _ _ _ w (by omega) (by omega) (rdw s) (rdw s)) rfl (fun v100 lo100 w100 hlo100 hR100 => ?_)
    obtain hE := hR100
    obtain ⟨ax, cx, rfl⟩ := hErr_eq hR100 he
    refine ta_se2 (by kernel_rfl) rfl ?_
    refine ta_q2 ?e27 (k := 29) (by kernel_rfl) rfl ?q27 ?r27
    case q27 =>
      refine to_mv rfl rfl ?_
      exact tpq_end
    refine ta_q2 ?e28 (k := 30) (by kernel_rfl) rfl ?q28 ?r28
    case q28 =>
      refine to_ex rfl rfl rfl ?_
      exact tpq_end
    refine ta_q2 ?e29 (k := 31) (by kernel_rfl) rfl ?q29 ?r29
    case q29 =>
      refine to_ex rfl rfl rfl ?_
      exact tpq_end
    refine ta_q2 ?e30 (k := 32) (by kernel_rfl) rfl ?q30 ?r30
    case q30 =>
      refine to_as rfl rfl ?_
      exact tpq_end
    refine ta_q2 ?e31 (k := 33) (by kernel_rfl) rfl ?q31 ?r31
    case q31 =>
      refine to_as rfl rfl ?_
      exact tpq_end
    refine ta_nil (by kernel_rfl) ?_
    refine tn_code ?_
    refine t_seq ?_
    refine t_seq ?_
    refine t_reg ?_
    refine to_mv rfl rfl ?_
    refine to_neq rfl rfl rfl ?_
    refine to_fix (s := 104) (b' := false) rfl (rfl) ?_
    refine to_mv rfl rfl ?_
    refine to_gt rfl rfl ?_
    refine to_mv rfl rfl ?_
    refine to_gt rfl rfl ?_
    refine to_neq rfl rfl rfl ?_
    refine to_fix (s := 107) (b' := false) rfl (rfl) ?_
    refine to_gt rfl rfl ?_
    refine to_mv rfl rfl ?_
    refine to_gf rfl rfl rfl rfl ?_
    refine to_gf rfl rfl rfl rfl ?_
    refine to_gt rfl rfl ?_
    refine to_pkF rfl rfl rfl ?_
    refine to_pkF rfl rfl rfl ?_
    refine to_mv rfl rfl ?_
    refine to_gt rfl rfl ?_
    refine to_mv rfl rfl ?_
    refine to_gt rfl rfl ?_
    refine to_lenS rfl rfl ?_
    refine to_gt rfl rfl ?_
    first | refine to_fa rfl rfl rfl (by simp only [Nat.reduceAdd]; rfl) rfl ?_ | refine to_fae rfl rfl rfl (by simp only [Nat.reduceAdd]; rfl) rfl ?_
    refine to_gt rfl rfl ?_
    first | refine to_lds rfl rfl rfl ?_ | refine to_ldes rfl (by assumption) rfl rfl ?_
    refine to_gt rfl rfl ?_
    refine to_lenS rfl rfl ?_
    refine to_gt rfl rfl ?_
    refine to_mul rfl rfl (by first | omega | exact mul_ok (by omega) (by omega) (by omega) (by omega)) rfl ?_
    refine to_gt rfl rfl ?_
    refine to_gtr rfl rfl rfl ?_
    refine to_fix (s := 120) (b' := false) rfl (decide_eq_false (by omega)) ?_
    refine to_pkF rfl rfl rfl ?_
    refine to_nil ?_
    refine tn_code ?_
    refine t_ifF rfl ?_
    refine t_skip ?_
    refine tn_code ?_
    refine t_seq ?_
    refine t_reg ?_
    refine to_as rfl rfl ?_
    refine to_nil ?_
    refine tn_code ?_
    refine t_seq ?_
    refine t_seq ?_
    refine t_reg ?_
    refine to_as rfl rfl ?_
    refine to_nil ?_
    refine tn_code ?_
    refine t_blk ?_
    refine t_loop2 (ι := Nat) (fun k => k ≤ (erA cs st 3 st.length).length) (fun k => [(2, (.int .i64 (i : Int))), (9, .slice a1x (erA cs st 3 st.length).length c1x), (11, .slice ax 0 cx), (12, (.int .i64 0)), (13, (.int .i64 (cntK (erA cs st 3 st.length) i k : Int))), (14, (.int .i64 (k : Int)))]) (fun k => [.snap lo100 w100.heap.size w100, .snap lo68 w68.heap.size w68, .snap 0 w.heap.size w]) (fun k => (erA cs st 3 st.length).length - k) (0) [.snap lo100 w100.heap.size w100, .snap lo68 w68.heap.size w68, .snap 0 w.heap.size w] (rfl) (Nat.zero_le _) (⟨rfl, rfl, rfl, rfl, rfl, rfl, trivial⟩) ?_
    rintro k hk
    show T _ _ _ ⟨_, [(2, (.int .i64 (i : Int))), (9, .slice a1x (erA cs st 3 st.length).length c1x), (11, .slice ax 0 cx), (12, (.int .i64 0)), (13, (.int .i64 (cntK (erA cs st 3 st.length) i k : Int))), (14, (.int .i64 (k : Int)))], _⟩ [.snap lo100 w100.heap.size w100, .snap lo68 w68.heap.size w68, .snap 0 w.heap.size w]
    refine t_seq ?_
    refine t_seq ?_
    refine t_reg ?_
    refine to_mv rfl rfl ?_
    refine to_mv rfl rfl ?_
    refine to_lenS rfl rfl ?_
    refine to_lss rfl rfl rfl ?_
    refine to_nil ?_
    refine tn_code ?_
    refine t_if rfl (fun h1 => ?_) (fun h1 => ?_)
    · try simp only [decide_eq_true_eq, decide_eq_false_iff_not, Bool.not_eq_true', Bool.not_eq_false', Int.not_lt, Int.not_le, ne_eq, Decidable.not_not] at h1
      try have h1b := inB_iff.1 h1
      obtain ⟨v, hv⟩ := some_get (xs := (erA cs st 3 st.length)) (k := k) (by omega)
      have hxv := map_get (f := spanC) hv
      have hck := cntK_le (erA cs st 3 st.length) i k
      refine t_skip ?_
      refine tn_code ?_
      refine t_seq ?_
      refine t_blk ?_
      refine t_seq ?_
      refine t_reg ?_
      refine to_mv rfl rfl ?_
      refine to_mv rfl rfl ?_
      first | refine to_ix rfl rfl rfl (by first | omega | decide) (by first | omega | decide) rfl ?_ | refine to_ixi rfl rfl rfl (by omega) (by omega) (by omega) rfl ?_
      first | refine to_fa rfl rfl rfl (by simp only [Nat.reduceAdd]; rfl) rfl ?_ | refine to_fae rfl rfl rfl (by simp only [Nat.reduceAdd]; rfl) rfl ?_
      first | refine to_lds rfl rfl rfl ?_ | refine to_ldes rfl (by assumption) rfl rfl ?_
      refine to_mv rfl rfl ?_
      refine to_eql rfl rfl rfl ?_
      refine to_nil ?_
      refine tn_code ?_
      refine t_if rfl (fun h2 => ?_) (fun h2 => ?_)
      · try simp only [decide_eq_true_eq, decide_eq_false_iff_not, Bool.not_eq_true', Bool.not_eq_false', Int.not_lt, Int.not_le, ne_eq, Decidable.not_not] at h2
        try have h2b := inB_iff.1 h2
        have hvi := h2
        refine t_reg ?_
        refine to_mv rfl rfl ?_
        refine to_add rfl rfl (by omega) rfl ?_
        refine to_as rfl rfl ?_
        refine to_nil ?_
        refine tn_blk ?_
        refine tn_code ?_
        refine t_reg ?_
        refine to_mv rfl rfl ?_
        refine to_add rfl rfl (by omega) rfl ?_
        refine to_as rfl rfl ?_
        refine to_nil ?_
        exact tn_loop2 (k + 1) [.snap lo100 w100.heap.size w100, .snap lo68 w68.heap.size w68, .snap 0 w.heap.size w] (rfl) (by omega) (by omega) (⟨rfl, rfl, rfl, rfl, congrArg (fun z : Nat => some (Value.int .i64 (z : Int))) (cntK_t hv hvi).symm, rfl, trivial⟩)
      · try simp only [decide_eq_true_eq, decide_eq_false_iff_not, Bool.not_eq_true', Bool.not_eq_false', Int.not_lt, Int.not_le, ne_eq, Decidable.not_not] at h2
        try have h2b := inB_iff.1 h2
        have hvi := h2
        refine t_skip ?_
        refine tn_blk ?_
        refine tn_code ?_
        refine t_reg ?_
        refine to_mv rfl rfl ?_
        refine to_add rfl rfl (by omega) rfl ?_
        refine to_as rfl rfl ?_
        refine to_nil ?_
        exact tn_loop2 (k + 1) [.snap lo100 w100.heap.size w100, .snap lo68 w68.heap.size w68, .snap 0 w.heap.size w] (rfl) (by omega) (by omega) (⟨rfl, rfl, rfl, rfl, congrArg (fun z : Nat => some (Value.int .i64 (z : Int))) (cntK_f hv hvi).symm, rfl, trivial⟩)
    · try simp only [decide_eq_true_eq, decide_eq_false_iff_not, Bool.not_eq_true', Bool.not_eq_false', Int.not_lt, Int.not_le, ne_eq, Decidable.not_not] at h1
      try have h1b := inB_iff.1 h1
      obtain rfl : k = (erA cs st 3 st.length).length := by omega
      refine t_exit ?_
      refine tx_code ?_
      refine tx_inv ?_
      refine tx_blk ?_
      refine tn_code ?_
      refine t_seq ?_
      refine t_seq ?_
      refine t_reg ?_
      refine to_mv rfl rfl ?_
      refine to_neq rfl rfl rfl ?_
      refine to_fix (s := 138) (b' := false) rfl (rfl) ?_
      refine to_nil ?_
      refine tn_code ?_
      refine t_ifF rfl ?_
      refine t_skip ?_
      refine tn_code ?_
      refine t_seq ?_
      refine t_seq ?_
      refine t_reg ?_
      refine to_mv rfl rfl ?_
      refine to_lenS rfl rfl ?_
      refine to_eql rfl rfl rfl ?_
      refine to_fix (s := 146) (b' := true) rfl (rfl) ?_
      refine to_nil ?_
      refine tn_code ?_
      refine t_ifT rfl ?_
      refine t_seq ?_
      refine t_reg ?_
      refine to_mv rfl rfl ?_
      refine to_eql rfl rfl rfl ?_
      refine to_fix (s := 148) (b' := true) rfl (decide_eq_true (by omega)) ?_
      refine to_mv rfl rfl ?_
      refine to_gt rfl rfl ?_
      refine to_call0 rfl rfl (fun w s => top_known w) rfl ?_
      refine to_pkT rfl rfl rfl ?_
      refine to_as rfl rfl ?_
      refine to_nil ?_
      refine tn_code ?_
      refine t_ret1 rfl rfl (res_tmp rfl) (fun w' s => ?_)
      rfl
  · skip
    refine to_bsl rfl rfl rfl rfl (fun a99 => ?_)
    refine ta_se1 rfl ?_
    refine ta_fork [13] (by kernel_rfl) rfl ?_
    refine ⟨⟨_, rfl, wanted_none rfl, ?_⟩, trivial⟩
    refine to_bsl rfl rfl rfl rfl (fun a85 => ?_)
    refine ta_se1 rfl ?_
    refine ta_fork [28] (by kernel_rfl) rfl ?_
    refine ⟨⟨_, rfl, wanted_none rfl, ?_⟩, trivial⟩
    refine to_callR rfl rfl (fun w s => hn_Errors (100 * a0 + 10 * a1 + a2) (100 * b0 + 10 * b1 + b2) _ _ _ _ w (by omega) (by omega) (rdw s) (rdw s)) rfl (fun v100 lo100 w100 hlo100 hR100 => ?_)
    obtain hE := hR100
    obtain ⟨ax, cx, rfl⟩ := hErr_eq hR100 he
    refine ta_se2 (by kernel_rfl) rfl ?_
    refine ta_q2 ?e32 (k := 29) (by kernel_rfl) rfl ?q32 ?r32
    case q32 =>
      refine to_mv rfl rfl ?_
      exact tpq_end
    refine ta_q2 ?e33 (k := 30) (by kernel_rfl) rfl ?q33 ?r33
    case q33 =>
      refine to_ex rfl rfl rfl ?_
      exact tpq_end
    refine ta_q2 ?e34 (k := 31) (by kernel_rfl) rfl ?q34 ?r34
    case q34 =>
      refine to_ex rfl rfl rfl ?_
      exact tpq_end
    refine ta_q2 ?e35 (k := 32) (by kernel_rfl) rfl ?q35 ?r35
    case q35 =>
      refine to_as rfl rfl ?_
      exact tpq_end
    refine ta_q2 ?e36 (k := 33) (by kernel_rfl) rfl ?q36 ?r36
    case q36 =>
      refine to_as rfl rfl ?_
      exact tpq_end
    refine ta_nil (by kernel_rfl) ?_
    refine tn_code ?_
    refine t_seq ?_
    refine t_seq ?_
    refine t_reg ?_
    refine to_mv rfl rfl ?_
    refine to_neq rfl rfl rfl ?_
    refine to_fix (s := 104) (b' := false) rfl (rfl) ?_
    refine to_mv rfl rfl ?_
    refine to_gt rfl rfl ?_
    refine to_mv rfl rfl ?_
    refine to_gt rfl rfl ?_
    refine to_neq rfl rfl rfl ?_
    refine to_fix (s := 107) (b' := false) rfl (rfl) ?_
    refine to_gt rfl rfl ?_
    refine to_mv rfl rfl ?_
    refine to_gf rfl rfl rfl rfl ?_
    refine to_gf rfl rfl rfl rfl ?_
    refine to_gt rfl rfl ?_
    refine to_pkF rfl rfl rfl ?_
    refine to_pkF rfl rfl rfl ?_
    refine to_mv rfl rfl ?_
    refine to_gt rfl rfl ?_
    refine to_mv rfl rfl ?_
    refine to_gt rfl rfl ?_
    refine to_lenS rfl rfl ?_
    refine to_gt rfl rfl ?_
    first | refine to_fa rfl rfl rfl (by simp only [Nat.reduceAdd]; rfl) rfl ?_ | refine to_fae rfl rfl rfl (by simp only [Nat.reduceAdd]; rfl) rfl ?_
    refine to_gt rfl rfl ?_
    first | refine to_lds rfl rfl rfl ?_ | refine to_ldes rfl (by assumption) rfl rfl ?_
    refine to_gt rfl rfl ?_
    refine to_lenS rfl rfl ?_
    refine to_gt rfl rfl ?_
    refine to_mul rfl rfl (by first | omega | exact mul_ok (by omega) (by omega) (by omega) (by omega)) rfl ?_
    refine to_gt rfl rfl ?_
    refine to_gtr rfl rfl rfl ?_
    refine to_fix (s := 120) (b' := false) rfl (decide_eq_false (by omega)) ?_
    refine to_pkF rfl rfl rfl ?_
    refine to_nil ?_
    refine tn_code ?_
    refine t_ifF rfl ?_
    refine t_skip ?_
    refine tn_code ?_
    refine t_seq ?_
    refine t_reg ?_
    refine to_as rfl rfl ?_
    refine to_nil ?_
    refine tn_code ?_
    refine t_seq ?_
    refine t_seq ?_
    refine t_reg ?_
    refine to_as rfl rfl ?_
    refine to_nil ?_
    refine tn_code ?_
    refine t_blk ?_
    refine t_loop2 (ι := Nat) (fun k => k ≤ (erA cs st 3 st.length).length) (fun k => [(2, (.int .i64 (i : Int))), (9, .slice a1x (erA cs st 3 st.length).length c1x), (11, .slice ax 0 cx), (12, (.int .i64 0)), (13, (.int .i64 (cntK (erA cs st 3 st.length) i k : Int))), (14, (.int .i64 (k : Int)))]) (fun k => [.snap lo100 w100.heap.size w100, .snap lo68 w68.heap.size w68, .snap 0 w.heap.size w]) (fun k => (erA cs st 3 st.length).length - k) (0) [.snap lo100 w100.heap.size w100, .snap lo68 w68.heap.size w68, .snap 0 w.heap.size w] (rfl) (Nat.zero_le _) (⟨rfl, rfl, rfl, rfl, rfl, rfl, trivial⟩) ?_
    rintro k hk
    show T _ _ _ ⟨_, [(2, (.int .i64 (i : Int))), (9, .slice a1x (erA cs st 3 st.length).length c1x), (11, .slice ax 0 cx), (12, (.int .i64 0)), (13, (.int .i64 (cntK (erA cs st 3 st.length) i k : Int))), (14, (.int .i64 (k : Int)))], _⟩ [.snap lo100 w100.heap.size w100, .snap lo68 w68.heap.size w68, .snap 0 w.heap.size w]
    refine t_seq ?_
    refine t_seq ?_
    refine t_reg ?_
    refine to_mv rfl rfl ?_
    refine to_mv rfl rfl ?_
    refine to_lenS rfl rfl ?_
    refine to_lss rfl rfl rfl ?_
    refine to_nil ?_
    refine tn_code ?_
    refine t_if rfl (fun h3 => ?_) (fun h3 => ?_)
    · try simp only [decide_eq_true_eq, decide_eq_false_iff_not, Bool.not_eq_true', Bool.not_eq_false', Int.not_lt, Int.not_le, ne_eq, Decidable.not_not] at h3
      try have h3b := inB_iff.1 h3
      obtain ⟨v, hv⟩ := some_get (xs := (erA cs st 3 st.length)) (k := k) (by omega)
      have hxv := map_get (f := spanC) hv
      have hck := cntK_le (erA cs st 3 st.length) i k
      refine t_skip ?_
      refine tn_code ?_
      refine t_seq ?_
      refine t_blk ?_
      refine t_seq ?_
      refine t_reg ?_
      refine to_mv rfl rfl ?_
      refine to_mv rfl rfl ?_
      first | refine to_ix rfl rfl rfl (by first | omega | decide) (by first | omega | decide) rfl ?_ | refine to_ixi rfl rfl rfl (by omega) (by omega) (by omega) rfl ?_
      first | refine to_fa rfl rfl rfl (by simp only [Nat.reduceAdd]; rfl) rfl ?_ | refine to_fae rfl rfl rfl (by simp only [Nat.reduceAdd]; rfl) rfl ?_
      first | refine to_lds rfl rfl rfl ?_ | refine to_ldes rfl (by assumption) rfl rfl ?_
      refine to_mv rfl rfl ?_
      refine to_eql rfl rfl rfl ?_
      refine to_nil ?_
      refine tn_code ?_
      refine t_if rfl (fun h4 => ?_) (fun h4 => ?_)
      · try simp only [decide_eq_true_eq, decide_eq_false_iff_not, Bool.not_eq_true', Bool.not_eq_false', Int.not_lt, Int.not_le, ne_eq, Decidable.not_not] at h4
        try have h4b := inB_iff.1 h4
        have hvi := h4
        refine t_reg ?_
        refine to_mv rfl rfl ?_
        refine to_add rfl rfl (by omega) rfl ?_
        refine to_as rfl rfl ?_
        refine to_nil ?_
        refine tn_blk ?_
        refine tn_code ?_
        refine t_reg ?_
        refine to_mv rfl rfl ?_
        refine to_add rfl rfl (by omega) rfl ?_
        refine to_as rfl rfl ?_
        refine to_nil ?_
        exact tn_loop2 (k + 1) [.snap lo100 w100.heap.size w100, .snap lo68 w68.heap.size w68, .snap 0 w.heap.size w] (rfl) (by omega) (by omega) (⟨rfl, rfl, rfl, rfl, congrArg (fun z : Nat => some (Value.int .i64 (z : Int))) (cntK_t hv hvi).symm, rfl, trivial⟩)
      · try simp only [decide_eq_true_eq, decide_eq_false_iff_not, Bool.not_eq_true', Bool.not_eq_false', Int.not_lt, Int.not_le, ne_eq, Decidable.not_not] at h4
        try have h4b := inB_iff.1 h4
        have hvi := h4
        refine t_skip ?_
        refine tn_blk ?_
        refine tn_code ?_
        refine t_reg ?_
        refine to_mv rfl rfl ?_
        refine to_add rfl rfl (by omega) rfl ?_
        refine to_as rfl rfl ?_
        refine to_nil ?_
        exact tn_loop2 (k + 1) [.snap lo100 w100.heap.size w100, .snap lo68 w68.heap.size w68, .snap 0 w.heap.size w] (rfl) (by omega) (by omega) (⟨rfl, rfl, rfl, rfl, congrArg (fun z : Nat => some (Value.int .i64 (z : Int))) (cntK_f hv hvi).symm, rfl, trivial⟩)
    · try simp only [decide_eq_true_eq, decide_eq_false_iff_not, Bool.not_eq_true', Bool.not_eq_false', Int.not_lt, Int.not_le, ne_eq, Decidable.not_not] at h3
      try have h3b := inB_iff.1 h3
      obtain rfl : k = (erA cs st 3 st.length).length := by omega
      refine t_exit ?_
      refine tx_code ?_
      refine tx_inv ?_
      refine tx_blk ?_
      refine tn_code ?_
      refine t_seq ?_
      refine t_seq ?_
      refine t_reg ?_
      refine to_mv rfl rfl ?_
      refine to_neq rfl rfl rfl ?_
      refine to_fix (s := 138) (b' := false) rfl (rfl) ?_
      refine to_nil ?_
      refine tn_code ?_
      refine t_ifF rfl ?_
      refine t_skip ?_
      refine tn_code ?_
      refine t_seq ?_
      refine t_seq ?_
      refine t_reg ?_
      refine to_mv rfl rfl ?_
      refine to_lenS rfl rfl ?_
      refine to_eql rfl rfl rfl ?_
      refine to_fix (s := 146) (b' := true) rfl (rfl) ?_
      refine to_nil ?_
      refine tn_code ?_
      refine t_ifT rfl ?_
      refine t_seq ?_
      refine t_reg ?_
      refine to_mv rfl rfl ?_
      refine to_eql rfl rfl rfl ?_
      refine to_fix (s := 148) (b' := true) rfl (decide_eq_true (by omega)) ?_
      refine to_mv rfl rfl ?_
      refine to_gt rfl rfl ?_
      refine to_call0 rfl rfl (fun w s => top_known w) rfl ?_
      refine to_pkT rfl rfl rfl ?_
      refine to_as rfl rfl ?_
      refine to_nil ?_
      refine tn_code ?_
      refine t_ret1 rfl rfl (res_tmp rfl) (fun w' s => ?_)
      rfl

end Go.Proofs


namespace Go.Proofs
open Go Go.Sx Go.RowKit

set_option maxRecDepth 20000 in
theorem top_k1 (cs : List Cp) (ca : Option Addr) (cc : Nat) (st : List Li) (sa : Option Addr) (sc : Nat) (i pn : Nat) (x : Cp) (a0 a1 a2 b0 b1 b2 : Int) (aa ab : Option Addr) (ac bc : Nat) (w : World) (hct : Ro w 0 w.heap.size ca cs.length cc 2 (cs.map cpC)) (hcs : ∀ x ∈ cs, 0 < x.s.length → Ro w 0 w.heap.size x.a x.s.length x.c 1 (ints x.s)) (hst : Ro w 0 w.heap.size sa st.length sc 1 (st.map liC)) (hss : ∀ x ∈ st, 0 < x.xs.length → Ro w 0 w.heap.size x.a x.xs.length x.c 1 (ints x.xs)) (h1 : ¬ 10 < cs.length) (h2 : ¬ 10 < st.length) (hT : isTr 3 cs = true) (hS : isSt 3 cs st = true) (hxl : ∀ x ∈ cs, x.s.length ≤ 1000000) (hi : 0 < i) (hil : i < cs.length) (hsl : st.length = cs.length) (hx : cs[i]? = some x) (hxp : x.p = (pn : Int)) (hpn : pn < i) (hlA : st[pn]? = some ⟨[a0, a1, a2], aa, ac⟩) (hlB : st[i]? = some ⟨[b0, b1, b2], ab, bc⟩) (ha0 : 0 ≤ a0 ∧ a0 ≤ 9) (ha1 : 0 ≤ a1 ∧ a1 ≤ 9) (ha2 : 0 ≤ a2 ∧ a2 ≤ 9) (hb0 : 0 ≤ b0 ∧ b0 ≤ 9) (hb1 : 0 ≤ b1 ∧ b1 ≤ 9) (hb2 : 0 ≤ b2 ∧ b2 ≤ 9) (he : ¬ (100 * b0 + 10 * b1 + b2) = (100 * a0 + 10 * a1 + a2)) (hk : kindF (100 * a0 + 10 * a1 + a2) (100 * b0 + 10 * b1 + b2) = 1) : Calls Tryz.prog 3 #[trV 3 cs ca cc, .slice sa st.length sc, .int .i64 (i : Int)] w (RetV w (.bool true)) := by
  have hC : inB (i : Int) 0 (cs.length - 1) = true := inB_iff.2 (by omega)
  have hxc : (cs.map cpC)[i]? = some [.int .i64 (pn : Int), .slice x.a x.s.length x.c] := by rw [← hxp]; exact map_get (f := cpC) hx
  have hlAc : (st.map liC)[pn]? = some [.slice aa 3 ac] := map_get (f := liC) hlA
  have hlBc : (st.map liC)[i]? = some [.slice ab 3 bc] := map_get (f := liC) hlB
  have hrA : Ro w 0 w.heap.size aa 3 ac 1 (ints [a0, a1, a2]) := hss _ (List.mem_of_getElem? hlA) (by simp)
  have hrB : Ro w 0 w.heap.size ab 3 bc 1 (ints [b0, b1, b2]) := hss _ (List.mem_of_getElem? hlB) (by simp)
  have eA0 : (ints [a0, a1, a2])[0]? = some [.int .i64 a0] := rfl
  have eA1 : (ints [a0, a1, a2])[1]? = some [.int .i64 a1] := rfl
  have eA2 : (ints [a0, a1, a2])[2]? = some [.int .i64 a2] := rfl
  have eB0 : (ints [b0, b1, b2])[0]? = some [.int .i64 b0] := rfl
  have eB1 : (ints [b0, b1, b2])[1]? = some [.int .i64 b1] := rfl
  have eB2 : (ints [b0, b1, b2])[2]? = some [.int .i64 b2] := rfl
  have hEl := erA_len cs st 3 st.length
  have hcnt := cnt_main hi (by omega) hx hxp hlA hlB
  have hd := lw_turn ha0 ha1 ha2 hb0 hb1 hb2 he hk
  have hX0 : ([[.int .i64 0, .int .i64 1]] : List (List Value))[0]? = some [.int .i64 0, .int .i64 1] := rfl
  refine calls_T0 (av := [_, _, _]) Tryz.func3 rfl rfl rfl ?_
  refine t_seq ?_
  refine t_reg ?_
  refine to_box rfl rfl (fun b3 => ?_)
  refine to_as rfl rfl ?_
  refine to_nil ?_
  refine tn_code ?_
  refine t_seq ?_
  refine t_seq ?_
  refine t_reg ?_
  first | refine to_fa rfl rfl rfl (by simp only [Nat.reduceAdd]; rfl) rfl ?_ | refine to_fae rfl rfl rfl (by simp only [Nat.reduceAdd]; rfl) rfl ?_
  first | refine to_lds rfl rfl rfl ?_ | refine to_ldes rfl (by assumption) rfl rfl ?_
  refine to_lenS rfl rfl ?_
  refine to_gtr rfl rfl rfl ?_
  refine to_fix (s := 19) (b' := false) rfl (decide_eq_false (by omega)) ?_
  refine to_mv rfl rfl ?_
  refine to_gt rfl rfl ?_
  refine to_mv rfl rfl ?_
  refine to_gt rfl rfl ?_
  refine to_lenS rfl rfl ?_
  refine to_gt rfl rfl ?_
  refine to_gtr rfl rfl rfl ?_
  refine to_fix (s := 23) (b' := false) rfl (decide_eq_false (by omega)) ?_
  refine to_pkF rfl rfl rfl ?_
  refine to_mv rfl rfl ?_
  refine to_gt rfl rfl ?_
  first | refine to_lda rfl rfl rfl ?_ | refine to_ldea rfl (by assumption) rfl rfl ?_
  refine to_gt rfl rfl ?_
  refine to_call0 rfl rfl (fun w s => s7_Tree 3 cs ca cc w (rdw s) (fun x hx h0 => by haveI := hcs x hx h0; exact rdw s) (by omega)) rfl ?_
  refine to_fix (s := 27) (b' := true) rfl (hT) ?_
  refine to_gt rfl rfl ?_
  refine to_not rfl rfl ?_
  refine to_pkF rfl rfl rfl ?_
  refine to_mv rfl rfl ?_
  refine to_gt rfl rfl ?_
  first | refine to_fa rfl rfl rfl (by simp only [Nat.reduceAdd]; rfl) rfl ?_ | refine to_fae rfl rfl rfl (by simp only [Nat.reduceAdd]; rfl) rfl ?_
  refine to_gt rfl rfl ?_
  first | refine to_lds rfl rfl rfl ?_ | refine to_ldes rfl (by assumption) rfl rfl ?_
  refine to_gt rfl rfl ?_
  refine to_neq rfl rfl rfl ?_
  refine to_fix (s := 33) (b' := false) rfl (decide_eq_false (by omega)) ?_
  refine to_pkF rfl rfl rfl ?_
  refine to_mv rfl rfl ?_
  refine to_gt rfl rfl ?_
  first | refine to_lda rfl rfl rfl ?_ | refine to_ldea rfl (by assumption) rfl rfl ?_
  refine to_gt rfl rfl ?_
  refine to_mv rfl rfl ?_
  refine to_gt rfl rfl ?_
  refine to_call0 rfl rfl (fun w s => s7_Copy 3 cs ca cc _ w (by omega)) rfl ?_
  refine to_fix (s := 38) (b' := true) rfl (hC) ?_
  refine to_gt rfl rfl ?_
  refine to_not rfl rfl ?_
  refine to_pkF rfl rfl rfl ?_
  refine to_mv rfl rfl ?_
  refine to_gt rfl rfl ?_
  refine to_mv rfl rfl ?_
  refine to_gt rfl rfl ?_
  refine to_eql rfl rfl rfl ?_
  refine to_fix (s := 43) (b' := false) rfl (decide_eq_false (by omega)) ?_
  refine to_pkF rfl rfl rfl ?_
  refine to_mv rfl rfl ?_
  refine to_gt rfl rfl ?_
  first | refine to_lda rfl rfl rfl ?_ | refine to_ldea rfl (by assumption) rfl rfl ?_
  refine to_gt rfl rfl ?_
  refine to_mv rfl rfl ?_
  refine to_gt rfl rfl ?_
  refine to_call0 rfl rfl (fun w s => s7_Story 3 cs ca cc st sa sc w (rdw s) (fun x hx h0 => by haveI := hcs x hx h0; exact rdw s) (by omega) (rdw s) (fun x hx h0 => by haveI := hss x hx h0; exact rdw s) (by omega) hT) rfl ?_
  refine to_fix (s := 48) (b' := true) rfl (hS) ?_
  refine to_gt rfl rfl ?_
  refine to_not rfl rfl ?_
  refine to_pkF rfl rfl rfl ?_
  refine to_nil ?_
  refine tn_code ?_
  refine t_ifF rfl ?_
  refine t_skip ?_
  refine tn_code ?_
  refine t_seq ?_
  refine t_regD rfl (by kernel_rfl) (by kernel_rfl) ?_
  refine to_mv rfl rfl ?_
  first | refine to_fa rfl rfl rfl (by simp only [Nat.reduceAdd]; rfl) rfl ?_ | refine to_fae rfl rfl rfl (by simp only [Nat.reduceAdd]; rfl) rfl ?_
  first | refine to_lds rfl rfl rfl ?_ | refine to_ldes rfl (by assumption) rfl rfl ?_
  refine to_mv rfl rfl ?_
  first | refine to_ix rfl rfl rfl (by first | omega | decide) (by first | omega | decide) rfl ?_ | refine to_ixi rfl rfl rfl (by omega) (by omega) (by omega) rfl ?_
  first | refine to_fa rfl rfl rfl (by simp only [Nat.reduceAdd]; rfl) rfl ?_ | refine to_fae rfl rfl rfl (by simp only [Nat.reduceAdd]; rfl) rfl ?_
  first | refine to_lds rfl rfl rfl ?_ | refine to_ldes rfl (by assumption) rfl rfl ?_
  first | refine to_ix rfl rfl rfl (by first | omega | decide) (by first | omega | decide) rfl ?_ | refine to_ixi rfl rfl rfl (by omega) (by omega) (by omega) rfl ?_
  first | refine to_lds rfl rfl rfl ?_ | refine to_ldes rfl (by assumption) rfl rfl ?_
  refine to_mv rfl rfl ?_
  refine to_mv rfl rfl ?_
  first | refine to_ix rfl rfl rfl (by first | omega | decide) (by first | omega | decide) rfl ?_ | refine to_ixi rfl rfl rfl (by omega) (by omega) (by omega) rfl ?_
  first | refine to_lds rfl rfl rfl ?_ | refine to_ldes rfl (by assumption) rfl rfl ?_
  refine to_as rfl rfl ?_
  refine to_as rfl rfl ?_
  refine to_nil ?_
  refine tn_code ?_
  refine t_seq ?_
  refine t_reg ?_
  first | refine to_lda rfl rfl rfl ?_ | refine to_ldea rfl (by assumption) rfl rfl ?_
  refine to_mv rfl rfl ?_
  refine to_callR rfl rfl (fun w s => cp_Errors 3 cs ca cc st sa sc 3 w (rdw s) (fun x hx h0 => by haveI := hcs x hx h0; exact rdw s) (by omega) (rdw s) (fun x hx h0 => by haveI := hss x hx h0; exact rdw s) (by omega) hT hS rfl hxl) rfl (fun v68 lo68 w68 hlo68 hR68 => ?_)
  obtain ⟨a1x, c1x, rfl, hrl⟩ := hR68
  refine to_mv rfl rfl ?_
  refine to_ex rfl rfl rfl ?_
  refine to_ex rfl rfl rfl ?_
  refine to_as rfl rfl ?_
  refine to_as rfl rfl ?_
  refine to_nil ?_
  refine tn_code ?_
  refine t_seq ?_
  refine t_regA [13, 27, 28] 28 [.snap 0 w.heap.size w] [.snap 0 w.heap.size w] 34 rfl rfl (by kernel_rfl) (by kernel_rfl) (by kernel_rfl) ?_
  refine ta_q2 ?e1 (k := 0) (by kernel_rfl) rfl ?q1 ?r1
  case q1 =>
    refine to_mv rfl rfl ?_
    exact tpq_end
  refine ta_q1 ?e2 (k := 1) [2, 3, 8, 12, 13, 28] (by kernel_rfl) rfl rfl ?q2 ?r2
  case q2 =>
    first | refine to_ix rfl rfl rfl (by first | omega | decide) (by first | omega | decide) rfl ?_ | refine to_ixi rfl rfl rfl (by omega) (by omega) (by omega) rfl ?_
    exact tpq_end
  refine ta_q1 ?e3 (k := 2) [3, 8, 12, 13, 28] (by kernel_rfl) rfl rfl ?q3 ?r3
  case q3 =>
    first | refine to_lds rfl rfl rfl ?_ | refine to_ldes rfl (by assumption) rfl rfl ?_
    exact tpq_end
  refine ta_q2 ?e4 (k := 3) (by kernel_rfl) rfl ?q4 ?r4
  case q4 =>
    refine to_mul rfl rfl (by first | omega | exact mul_ok (by omega) (by omega) (by omega) (by omega)) rfl ?_
    exact tpq_end
  refine ta_q2 ?e5 (k := 4) (by kernel_rfl) rfl ?q5 ?r5
  case q5 =>
    refine to_mv rfl rfl ?_
    exact tpq_end
  refine ta_q1 ?e6 (k := 5) [6, 7, 8, 12, 13, 28] (by kernel_rfl) rfl rfl ?q6 ?r6
  case q6 =>
    first | refine to_ix rfl rfl rfl (by first | omega | decide) (by first | omega | decide) rfl ?_ | refine to_ixi rfl rfl rfl (by omega) (by omega) (by omega) rfl ?_
    exact tpq_end
  refine ta_q1 ?e7 (k := 6) [7, 8, 12, 13, 28] (by kernel_rfl) rfl rfl ?q7 ?r7
  case q7 =>
    first | refine to_lds rfl rfl rfl ?_ | refine to_ldes rfl (by assumption) rfl rfl ?_
    exact tpq_end
  refine ta_q2 ?e8 (k := 7) (by kernel_rfl) rfl ?q8 ?r8
  case q8 =>
    refine to_mul rfl rfl (by first | omega | exact mul_ok (by omega) (by omega) (by omega) (by omega)) rfl ?_
    exact tpq_end
  refine ta_q2 ?e9 (k := 8) (by kernel_rfl) rfl ?q9 ?r9
  case q9 =>
    refine to_add rfl rfl (by omega) rfl ?_
    exact tpq_end
  refine ta_q2 ?e10 (k := 9) (by kernel_rfl) rfl ?q10 ?r10
  case q10 =>
    refine to_mv rfl rfl ?_
    exact tpq_end
  refine ta_q1 ?e11 (k := 10) [11, 12, 13, 28] (by kernel_rfl) rfl rfl ?q11 ?r11
  case q11 =>
    first | refine to_ix rfl rfl rfl (by first | omega | decide) (by first | omega | decide) rfl ?_ | refine to_ixi rfl rfl rfl (by omega) (by omega) (by omega) rfl ?_
    exact tpq_end
  refine ta_q1 ?e12 (k := 11) [12, 13, 28] (by kernel_rfl) rfl rfl ?q12 ?r12
  case q12 =>
    first | refine to_lds rfl rfl rfl ?_ | refine to_ldes rfl (by assumption) rfl rfl ?_
    exact tpq_end
  refine ta_q2 ?e13 (k := 12) (by kernel_rfl) rfl ?q13 ?r13
  case q13 =>
    refine to_add rfl rfl (by omega) rfl ?_
    exact tpq_end
  refine ta_q2 ?e14 (k := 14) (by kernel_rfl) rfl ?q14 ?r14
  case q14 =>
    refine to_mv rfl rfl ?_
    exact tpq_end
  refine ta_q1 ?e15 (k := 15) [16, 17, 22, 26, 27, 28] (by kernel_rfl) rfl rfl ?q15 ?r15
  case q15 =>
    first | refine to_ix rfl rfl rfl (by first | omega | decide) (by first | omega | decide) rfl ?_ | refine to_ixi rfl rfl rfl (by omega) (by omega) (by omega) rfl ?_
    exact tpq_end
  refine ta_q1 ?e16 (k := 16) [17, 22, 26, 27, 28] (by kernel_rfl) rfl rfl ?q16 ?r16
  case q16 =>
    first | refine to_lds rfl rfl rfl ?_ | refine to_ldes rfl (by assumption) rfl rfl ?_
    exact tpq_end
  refine ta_q2 ?e17 (k := 17) (by kernel_rfl) rfl ?q17 ?r17
  case q17 =>
    refine to_mul rfl rfl (by first | omega | exact mul_ok (by omega) (by omega) (by omega) (by omega)) rfl ?_
    exact tpq_end
  refine ta_q2 ?e18 (k := 18) (by kernel_rfl) rfl ?q18 ?r18
  case q18 =>
    refine to_mv rfl rfl ?_
    exact tpq_end
  refine ta_q1 ?e19 (k := 19) [20, 21, 22, 26, 27, 28] (by kernel_rfl) rfl rfl ?q19 ?r19
  case q19 =>
    first | refine to_ix rfl rfl rfl (by first | omega | decide) (by first | omega | decide) rfl ?_ | refine to_ixi rfl rfl rfl (by omega) (by omega) (by omega) rfl ?_
    exact tpq_end
  refine ta_q1 ?e20 (k := 20) [21, 22, 26, 27, 28] (by kernel_rfl) rfl rfl ?q20 ?r20
  case q20 =>
    first | refine to_lds rfl rfl rfl ?_ | refine to_ldes rfl (by assumption) rfl rfl ?_
    exact tpq_end
  refine ta_q2 ?e21 (k := 21) (by kernel_rfl) rfl ?q21 ?r21
  case q21 =>
    refine to_mul rfl rfl (by first | omega | exact mul_ok (by omega) (by omega) (by omega) (by omega)) rfl ?_
    exact tpq_end
  refine ta_q2 ?e22 (k := 22) (by kernel_rfl) rfl ?q22 ?r22
  case q22 =>
    refine to_add rfl rfl (by omega) rfl ?_
    exact tpq_end
  refine ta_q2 ?e23 (k := 23) (by kernel_rfl) rfl ?q23 ?r23
  case q23 =>
    refine to_mv rfl rfl ?_
    exact tpq_end
  refine ta_q1 ?e24 (k := 24) [25, 26, 27, 28] (by kernel_rfl) rfl rfl ?q24 ?r24
  case q24 =>
    first | refine to_ix rfl rfl rfl (by first | omega | decide) (by first | omega | decide) rfl ?_ | refine to_ixi rfl rfl rfl (by omega) (by omega) (by omega) rfl ?_
    exact tpq_end
  refine ta_q1 ?e25 (k := 25) [26, 27, 28] (by kernel_rfl) rfl rfl ?q25 ?r25
  case q25 =>
    first | refine to_lds rfl rfl rfl ?_ | refine to_ldes rfl (by assumption) rfl rfl ?_
    exact tpq_end
  refine ta_q2 ?e26 (k := 26) (by kernel_rfl) rfl ?q26 ?r26
  case q26 =>
    refine to_add rfl rfl (by omega) rfl ?_
    exact tpq_end
  refine ta_fork [13, 27] (by kernel_rfl) rfl ?_
  refine ⟨⟨_, rfl, wanted_none rfl, ?_⟩, ⟨_, rfl, wanted_none rfl, ?_⟩, trivial⟩
  · skip
    refine to_bsl rfl rfl rfl rfl (fun a85 => ?_)
    refine ta_se1 rfl ?_
    refine ta_fork [27] (by kernel_rfl) rfl ?_
    refine ⟨⟨_, rfl, wanted_none rfl, ?_⟩, trivial⟩
    refine to_bsl rfl rfl rfl rfl (fun a99 => ?_)
    refine ta_se1 rfl ?_
    refine ta_fork [28] (by kernel_rfl) rfl ?_
    refine ⟨⟨_, rfl, wanted_none rfl, ?_⟩, trivial⟩
    refine to_callR rfl rfl (fun w s => hn_Errors (100 * a0 + 10 * a1 + a2) (100 * b0 + 10 * b1 + b2) _ _ _ _ w (by omega) (by omega) (rdw s) (rdw s)) rfl (fun v100 lo100 w100 hlo100 hR100 => ?_)
    obtain hE := hR100
    obtain ⟨ax, cx, rfl, hrx⟩ := hErr_k hR100 he hk (by decide)
    refine ta_se2 (by kernel_rfl) rfl ?_
    refine ta_q2 ?e27 (k := 29) (by kernel_rfl) rfl ?q27 ?r27
    case q27 =>
      refine to_mv rfl rfl ?_
      exact tpq_end
    refine ta_q2 ?e28 (k := 30) (by kernel_rfl) rfl ?q28 ?r28
    case q28 =>
      refine to_ex rfl rfl rfl ?_
      exact tpq_end
    refine ta_q2 ?e29 (k := 31) (by kernel_rfl) rfl ?q29 ?r29
    case q29 =>
      refine to_ex rfl rfl rfl ?_
      exact tpq_end
    refine ta_q2 ?e30 (k := 32) (by kernel_rfl) rfl ?q30 ?r30
    case q30 =>
      refine to_as rfl rfl ?_
      exact tpq_end
    refine ta_q2 ?e31 (k := 33) (by kernel_rfl) rfl ?q31 ?r31
    case q31 =>
      refine to_as rfl rfl ?_
      exact tpq_end
    refine ta_nil (by kernel_rfl) ?_
    refine tn_code ?_
    refine t_seq ?_
    refine t_seq ?_
    refine t_reg ?_
    refine to_mv rfl rfl ?_
    refine to_neq rfl rfl rfl ?_
    refine to_fix (s := 104) (b' := false) rfl (rfl) ?_
    refine to_mv rfl rfl ?_
    refine to_gt rfl rfl ?_
    refine to_mv rfl rfl ?_
    refine to_gt rfl rfl ?_
    refine to_neq rfl rfl rfl ?_
    refine to_fix (s := 107) (b' := false) rfl (rfl) ?_
    refine to_gt rfl rfl ?_
    refine to_mv rfl rfl ?_
    refine to_gf rfl rfl rfl rfl ?_
    refine to_gf rfl rfl rfl rfl ?_
    refine to_gt rfl rfl ?_
    refine to_pkF rfl rfl rfl ?_
    refine to_pkF rfl rfl rfl ?_
    refine to_mv rfl rfl ?_
    refine to_gt rfl rfl ?_
    refine to_mv rfl rfl ?_
    refine to_gt rfl rfl ?_
    refine to_lenS rfl rfl ?_
    refine to_gt rfl rfl ?_
    first | refine to_fa rfl rfl rfl (by simp only [Nat.reduceAdd]; rfl) rfl ?_ | refine to_fae rfl rfl rfl (by simp only [Nat.reduceAdd]; rfl) rfl ?_
    refine to_gt rfl rfl ?_
    first | refine to_lds rfl rfl rfl ?_ | refine to_ldes rfl (by assumption) rfl rfl ?_
    refine to_gt rfl rfl ?_
    refine to_lenS rfl rfl ?_
    refine to_gt rfl rfl ?_
    refine to_mul rfl rfl (by first | omega | exact mul_ok (by omega) (by omega) (by omega) (by omega)) rfl ?_
    refine to_gt rfl rfl ?_
    refine to_gtr rfl rfl rfl ?_
    refine to_fix (s := 120) (b' := false) rfl (decide_eq_false (by omega)) ?_
    refine to_pkF rfl rfl rfl ?_
    refine to_nil ?_
    refine tn_code ?_
    refine t_ifF rfl ?_
    refine t_skip ?_
    refine tn_code ?_
    refine t_seq ?_
    refine t_reg ?_
    refine to_as rfl rfl ?_
    refine to_nil ?_
    refine tn_code ?_
    refine t_seq ?_
    refine t_seq ?_
    refine t_reg ?_
    refine to_as rfl rfl ?_
    refine to_nil ?_
    refine tn_code ?_
    refine t_blk ?_
    refine t_loop2 (ι := Nat) (fun k => k ≤ (erA cs st 3 st.length).length) (fun k => [(2, (.int .i64 (i : Int))), (9, .slice a1x (erA cs st 3 st.length).length c1x), (11, .slice ax 1 cx), (12, (.int .i64 0)), (13, (.int .i64 (cntK (erA cs st 3 st.length) i k : Int))), (14, (.int .i64 (k : Int)))]) (fun k => [.snap lo100 w100.heap.size w100, .snap lo68 w68.heap.size w68, .snap 0 w.heap.size w]) (fun k => (erA cs st 3 st.length).length - k) (0) [.snap lo100 w100.heap.size w100, .snap lo68 w68.heap.size w68, .snap 0 w.heap.size w] (rfl) (Nat.zero_le _) (⟨rfl, rfl, rfl, rfl, rfl, rfl, trivial⟩) ?_
    rintro k hk
    show T _ _ _ ⟨_, [(2, (.int .i64 (i : Int))), (9, .slice a1x (erA cs st 3 st.length).length c1x), (11, .slice ax 1 cx), (12, (.int .i64 0)), (13, (.int .i64 (cntK (erA cs st 3 st.length) i k : Int))), (14, (.int .i64 (k : Int)))], _⟩ [.snap lo100 w100.heap.size w100, .snap lo68 w68.heap.size w68, .snap 0 w.heap.size w]
    refine t_seq ?_
    refine t_seq ?_
    refine t_reg ?_
    refine to_mv rfl rfl ?_
    refine to_mv rfl rfl ?_
    refine to_lenS rfl rfl ?_
    refine to_lss rfl rfl rfl ?_
    refine to_nil ?_
    refine tn_code ?_
    refine t_if rfl (fun h1 => ?_) (fun h1 => ?_)
    · try simp only [decide_eq_true_eq, decide_eq_false_iff_not, Bool.not_eq_true', Bool.not_eq_false', Int.not_lt, Int.not_le, ne_eq, Decidable.not_not] at h1
      try have h1b := inB_iff.1 h1
      obtain ⟨v, hv⟩ := some_get (xs := (erA cs st 3 st.length)) (k := k) (by omega)
      have hxv := map_get (f := spanC) hv
      have hck := cntK_le (erA cs st 3 st.length) i k
      refine t_skip ?_
      refine tn_code ?_
      refine t_seq ?_
      refine t_blk ?_
      refine t_seq ?_
      refine t_reg ?_
      refine to_mv rfl rfl ?_
      refine to_mv rfl rfl ?_
      first | refine to_ix rfl rfl rfl (by first | omega | decide) (by first | omega | decide) rfl ?_ | refine to_ixi rfl rfl rfl (by omega) (by omega) (by omega) rfl ?_
      first | refine to_fa rfl rfl rfl (by simp only [Nat.reduceAdd]; rfl) rfl ?_ | refine to_fae rfl rfl rfl (by simp only [Nat.reduceAdd]; rfl) rfl ?_
      first | refine to_lds rfl rfl rfl ?_ | refine to_ldes rfl (by assumption) rfl rfl ?_
      refine to_mv rfl rfl ?_
      refine to_eql rfl rfl rfl ?_
      refine to_nil ?_
      refine tn_code ?_
      refine t_if rfl (fun h2 => ?_) (fun h2 => ?_)
      · try simp only [decide_eq_true_eq, decide_eq_false_iff_not, Bool.not_eq_true', Bool.not_eq_false', Int.not_lt, Int.not_le, ne_eq, Decidable.not_not] at h2
        try have h2b := inB_iff.1 h2
        have hvi := h2
        refine t_reg ?_
        refine to_mv rfl rfl ?_
        refine to_add rfl rfl (by omega) rfl ?_
        refine to_as rfl rfl ?_
        refine to_nil ?_
        refine tn_blk ?_
        refine tn_code ?_
        refine t_reg ?_
        refine to_mv rfl rfl ?_
        refine to_add rfl rfl (by omega) rfl ?_
        refine to_as rfl rfl ?_
        refine to_nil ?_
        exact tn_loop2 (k + 1) [.snap lo100 w100.heap.size w100, .snap lo68 w68.heap.size w68, .snap 0 w.heap.size w] (rfl) (by omega) (by omega) (⟨rfl, rfl, rfl, rfl, congrArg (fun z : Nat => some (Value.int .i64 (z : Int))) (cntK_t hv hvi).symm, rfl, trivial⟩)
      · try simp only [decide_eq_true_eq, decide_eq_false_iff_not, Bool.not_eq_true', Bool.not_eq_false', Int.not_lt, Int.not_le, ne_eq, Decidable.not_not] at h2
        try have h2b := inB_iff.1 h2
        have hvi := h2
        refine t_skip ?_
        refine tn_blk ?_
        refine tn_code ?_
        refine t_reg ?_
        refine to_mv rfl rfl ?_
        refine to_add rfl rfl (by omega) rfl ?_
        refine to_as rfl rfl ?_
        refine to_nil ?_
        exact tn_loop2 (k + 1) [.snap lo100 w100.heap.size w100, .snap lo68 w68.heap.size w68, .snap 0 w.heap.size w] (rfl) (by omega) (by omega) (⟨rfl, rfl, rfl, rfl, congrArg (fun z : Nat => some (Value.int .i64 (z : Int))) (cntK_f hv hvi).symm, rfl, trivial⟩)
    · try simp only [decide_eq_true_eq, decide_eq_false_iff_not, Bool.not_eq_true', Bool.not_eq_false', Int.not_lt, Int.not_le, ne_eq, Decidable.not_not] at h1
      try have h1b := inB_iff.1 h1
      obtain rfl : k = (erA cs st 3 st.length).length := by omega
      refine t_exit ?_
      refine tx_code ?_
      refine tx_inv ?_
      refine tx_blk ?_
      refine tn_code ?_
      refine t_seq ?_
      refine t_seq ?_
      refine t_reg ?_
      refine to_mv rfl rfl ?_
      refine to_neq rfl rfl rfl ?_
      refine to_fix (s := 138) (b' := false) rfl (rfl) ?_
      refine to_nil ?_
      refine tn_code ?_
      refine t_ifF rfl ?_
      refine t_skip ?_
      refine tn_code ?_
      refine t_seq ?_
      refine t_seq ?_
      refine t_reg ?_
      refine to_mv rfl rfl ?_
      refine to_lenS rfl rfl ?_
      refine to_eql rfl rfl rfl ?_
      refine to_fix (s := 146) (b' := false) rfl (rfl) ?_
      refine to_nil ?_
      refine tn_code ?_
      refine t_ifF rfl ?_
      refine t_skip ?_
      refine tn_code ?_
      refine t_seq ?_
      refine t_reg ?_
      refine to_as rfl rfl ?_
      refine to_nil ?_
      refine tn_code ?_
      refine t_seq ?_
      refine t_seq ?_
      refine t_reg ?_
      refine to_mv rfl rfl ?_
      first | refine to_ix rfl rfl rfl (by first | omega | decide) (by first | omega | decide) rfl ?_ | refine to_ixi rfl rfl rfl (by omega) (by omega) (by omega) rfl ?_
      first | refine to_fa rfl rfl rfl (by simp only [Nat.reduceAdd]; rfl) rfl ?_ | refine to_fae rfl rfl rfl (by simp only [Nat.reduceAdd]; rfl) rfl ?_
      first | refine to_lds rfl rfl rfl ?_ | refine to_ldes rfl (by assumption) rfl rfl ?_
      refine to_eql rfl rfl rfl ?_
      refine to_fix (s := 156) (b' := true) rfl (rfl) ?_
      refine to_nil ?_
      refine tn_code ?_
      refine t_ifT rfl ?_
      refine t_reg ?_
      refine to_as rfl rfl ?_
      refine to_nil ?_
      refine tn_code ?_
      refine t_seq ?_
      refine t_reg ?_
      refine to_mv rfl rfl ?_
      refine to_lenS rfl rfl ?_
      refine to_eql rfl rfl rfl ?_
      refine to_fix (s := 159) (b' := true) rfl (rfl) ?_
      refine to_mv rfl rfl ?_
      refine to_gt rfl rfl ?_
      refine to_mv rfl rfl ?_
      refine to_gt rfl rfl ?_
      first | refine to_ix rfl rfl rfl (by first | omega | decide) (by first | omega | decide) rfl ?_ | refine to_ixi rfl rfl rfl (by omega) (by omega) (by omega) rfl ?_
      refine to_gt rfl rfl ?_
      first | refine to_fa rfl rfl rfl (by simp only [Nat.reduceAdd]; rfl) rfl ?_ | refine to_fae rfl rfl rfl (by simp only [Nat.reduceAdd]; rfl) rfl ?_
      refine to_gt rfl rfl ?_
      first | refine to_lds rfl rfl rfl ?_ | refine to_ldes rfl (by assumption) rfl rfl ?_
      refine to_gt rfl rfl ?_
      refine to_leq rfl rfl rfl ?_
      refine to_fix (s := 165) (b' := true) rfl (rfl) ?_
      refine to_pkT rfl rfl rfl ?_
      refine to_mv rfl rfl ?_
      refine to_gt rfl rfl ?_
      refine to_mv rfl rfl ?_
      refine to_gt rfl rfl ?_
      refine to_mv rfl rfl ?_
      refine to_gt rfl rfl ?_
      refine to_eql rfl rfl rfl ?_
      refine to_fix (s := 170) (b' := true) rfl (decide_eq_true (by omega)) ?_
      refine to_pkT rfl rfl rfl ?_
      refine to_mv rfl rfl ?_
      refine to_gt rfl rfl ?_
      refine to_call0 rfl rfl (fun w s => top_known w) rfl ?_
      refine to_pkT rfl rfl rfl ?_
      refine to_as rfl rfl ?_
      refine to_nil ?_
      refine tn_code ?_
      refine t_ret1 rfl rfl (res_tmp rfl) (fun w' s => ?_)
      rfl
  · skip
    refine to_bsl rfl rfl rfl rfl (fun a99 => ?_)
    refine ta_se1 rfl ?_
    refine ta_fork [13] (by kernel_rfl) rfl ?_
    refine ⟨⟨_, rfl, wanted_none rfl, ?_⟩, trivial⟩
    refine to_bsl rfl rfl rfl rfl (fun a85 => ?_)
    refine ta_se1 rfl ?_
    refine ta_fork [28] (by kernel_rfl) rfl ?_
    refine ⟨⟨_, rfl, wanted_none rfl, ?_⟩, trivial⟩
    refine to_callR rfl rfl (fun w s => hn_Errors (100 * a0 + 10 * a1 + a2) (100 * b0 + 10 * b1 + b2) _ _ _ _ w (by omega) (by omega) (rdw s) (rdw s)) rfl (fun v100 lo100 w100 hlo100 hR100 => ?_)
    obtain hE := hR100
    obtain ⟨ax, cx, rfl, hrx⟩ := hErr_k hR100 he hk (by decide)
    refine ta_se2 (by kernel_rfl) rfl ?_
    refine ta_q2 ?e32 (k := 29) (by kernel_rfl) rfl ?q32 ?r32
    case q32 =>
      refine to_mv rfl rfl ?_
      exact tpq_end
    refine ta_q2 ?e33 (k := 30) (by kernel_rfl) rfl ?q33 ?r33
    case q33 =>
      refine to_ex rfl rfl rfl ?_
      exact tpq_end
    refine ta_q2 ?e34 (k := 31) (by kernel_rfl) rfl ?q34 ?r34
    case q34 =>
      refine to_ex rfl rfl rfl ?_
      exact tpq_end
    refine ta_q2 ?e35 (k := 32) (by kernel_rfl) rfl ?q35 ?r35
    case q35 =>
      refine to_as rfl rfl ?_
      exact tpq_end
    refine ta_q2 ?e36 (k := 33) (by kernel_rfl) rfl ?q36 ?r36
    case q36 =>
      refine to_as rfl rfl ?_
      exact tpq_end
    refine ta_nil (by kernel_rfl) ?_
    refine tn_code ?_
    refine t_seq ?_
    refine t_seq ?_
    refine t_reg ?_
    refine to_mv rfl rfl ?_
    refine to_neq rfl rfl rfl ?_
    refine to_fix (s := 104) (b' := false) rfl (rfl) ?_
    refine to_mv rfl rfl ?_
    refine to_gt rfl rfl ?_
    refine to_mv rfl rfl ?_
    refine to_gt rfl rfl ?_
    refine to_neq rfl rfl rfl ?_
    refine to_fix (s := 107) (b' := false) rfl (rfl) ?_
    refine to_gt rfl rfl ?_
    refine to_mv rfl rfl ?_
    refine to_gf rfl rfl rfl rfl ?_
    refine to_gf rfl rfl rfl rfl ?_
    refine to_gt rfl rfl ?_
    refine to_pkF rfl rfl rfl ?_
    refine to_pkF rfl rfl rfl ?_
    refine to_mv rfl rfl ?_
    refine to_gt rfl rfl ?_
    refine to_mv rfl rfl ?_
    refine to_gt rfl rfl ?_
    refine to_lenS rfl rfl ?_
    refine to_gt rfl rfl ?_
    first | refine to_fa rfl rfl rfl (by simp only [Nat.reduceAdd]; rfl) rfl ?_ | refine to_fae rfl rfl rfl (by simp only [Nat.reduceAdd]; rfl) rfl ?_
    refine to_gt rfl rfl ?_
    first | refine to_lds rfl rfl rfl ?_ | refine to_ldes rfl (by assumption) rfl rfl ?_
    refine to_gt rfl rfl ?_
    refine to_lenS rfl rfl ?_
    refine to_gt rfl rfl ?_
    refine to_mul rfl rfl (by first | omega | exact mul_ok (by omega) (by omega) (by omega) (by omega)) rfl ?_
    refine to_gt rfl rfl ?_
    refine to_gtr rfl rfl rfl ?_
    refine to_fix (s := 120) (b' := false) rfl (decide_eq_false (by omega)) ?_
    refine to_pkF rfl rfl rfl ?_
    refine to_nil ?_
    refine tn_code ?_
    refine t_ifF rfl ?_
    refine t_skip ?_
    refine tn_code ?_
    refine t_seq ?_
    refine t_reg ?_
    refine to_as rfl rfl ?_
    refine to_nil ?_
    refine tn_code ?_
    refine t_seq ?_
    refine t_seq ?_
    refine t_reg ?_
    refine to_as rfl rfl ?_
    refine to_nil ?_
    refine tn_code ?_
    refine t_blk ?_
    refine t_loop2 (ι := Nat) (fun k => k ≤ (erA cs st 3 st.length).length) (fun k => [(2, (.int .i64 (i : Int))), (9, .slice a1x (erA cs st 3 st.length).length c1x), (11, .slice ax 1 cx), (12, (.int .i64 0)), (13, (.int .i64 (cntK (erA cs st 3 st.length) i k : Int))), (14, (.int .i64 (k : Int)))]) (fun k => [.snap lo100 w100.heap.size w100, .snap lo68 w68.heap.size w68, .snap 0 w.heap.size w]) (fun k => (erA cs st 3 st.length).length - k) (0) [.snap lo100 w100.heap.size w100, .snap lo68 w68.heap.size w68, .snap 0 w.heap.size w] (rfl) (Nat.zero_le _) (⟨rfl, rfl, rfl, rfl, rfl, rfl, trivial⟩) ?_
    rintro k hk
    show T _ _ _ ⟨_, [(2, (.int .i64 (i : Int))), (9, .slice a1x (erA cs st 3 st.length).length c1x), (11, .slice ax 1 cx), (12, (.int .i64 0)), (13, (.int .i64 (cntK (erA cs st 3 st.length) i k : Int))), (14, (.int .i64 (k : Int)))], _⟩ [.snap lo100 w100.heap.size w100, .snap lo68 w68.heap.size w68, .snap 0 w.heap.size w]
    refine t_seq ?_
    refine t_seq ?_
    refine t_reg ?_
    refine to_mv rfl rfl ?_
    refine to_mv rfl rfl ?_
    refine to_lenS rfl rfl ?_
    refine to_lss rfl rfl rfl ?_
    refine to_nil ?_
    refine tn_code ?_
    refine t_if rfl (fun h3 => ?_) (fun h3 => ?_)
    · try simp only [decide_eq_true_eq, decide_eq_false_iff_not, Bool.not_eq_true', Bool.not_eq_false', Int.not_lt, Int.not_le, ne_eq, Decidable.not_not] at h3
      try have h3b := inB_iff.1 h3
      obtain ⟨v, hv⟩ := some_get (xs := (erA cs st 3 st.length)) (k := k) (by omega)
      have hxv := map_get (f := spanC) hv
      have hck := cntK_le (erA cs st 3 st.length) i k
      refine t_skip ?_
      refine tn_code ?_
      refine t_seq ?_
      refine t_blk ?_
      refine t_seq ?_
      refine t_reg ?_
      refine to_mv rfl rfl ?_
      refine to_mv rfl rfl ?_
      first | refine to_ix rfl rfl rfl (by first | omega | decide) (by first | omega | decide) rfl ?_ | refine to_ixi rfl rfl rfl (by omega) (by omega) (by omega) rfl ?_
      first | refine to_fa rfl rfl rfl (by simp only [Nat.reduceAdd]; rfl) rfl ?_ | refine to_fae rfl rfl rfl (by simp only [Nat.reduceAdd]; rfl) rfl ?_
      first | refine to_lds rfl rfl rfl ?_ | refine to_ldes rfl (by assumption) rfl rfl ?_
      refine to_mv rfl rfl ?_
      refine to_eql rfl rfl rfl ?_
      refine to_nil ?_
      refine tn_code ?_
      refine t_if rfl (fun h4 => ?_) (fun h4 => ?_)
      · try simp only [decide_eq_true_eq, decide_eq_false_iff_not, Bool.not_eq_true', Bool.not_eq_false', Int.not_lt, Int.not_le, ne_eq, Decidable.not_not] at h4
        try have h4b := inB_iff.1 h4
        have hvi := h4
        refine t_reg ?_
        refine to_mv rfl rfl ?_
        refine to_add rfl rfl (by omega) rfl ?_
        refine to_as rfl rfl ?_
        refine to_nil ?_
        refine tn_blk ?_
        refine tn_code ?_
        refine t_reg ?_
        refine to_mv rfl rfl ?_
        refine to_add rfl rfl (by omega) rfl ?_
        refine to_as rfl rfl ?_
        refine to_nil ?_
        exact tn_loop2 (k + 1) [.snap lo100 w100.heap.size w100, .snap lo68 w68.heap.size w68, .snap 0 w.heap.size w] (rfl) (by omega) (by omega) (⟨rfl, rfl, rfl, rfl, congrArg (fun z : Nat => some (Value.int .i64 (z : Int))) (cntK_t hv hvi).symm, rfl, trivial⟩)
      · try simp only [decide_eq_true_eq, decide_eq_false_iff_not, Bool.not_eq_true', Bool.not_eq_false', Int.not_lt, Int.not_le, ne_eq, Decidable.not_not] at h4
        try have h4b := inB_iff.1 h4
        have hvi := h4
        refine t_skip ?_
        refine tn_blk ?_
        refine tn_code ?_
        refine t_reg ?_
        refine to_mv rfl rfl ?_
        refine to_add rfl rfl (by omega) rfl ?_
        refine to_as rfl rfl ?_
        refine to_nil ?_
        exact tn_loop2 (k + 1) [.snap lo100 w100.heap.size w100, .snap lo68 w68.heap.size w68, .snap 0 w.heap.size w] (rfl) (by omega) (by omega) (⟨rfl, rfl, rfl, rfl, congrArg (fun z : Nat => some (Value.int .i64 (z : Int))) (cntK_f hv hvi).symm, rfl, trivial⟩)
    · try simp only [decide_eq_true_eq, decide_eq_false_iff_not, Bool.not_eq_true', Bool.not_eq_false', Int.not_lt, Int.not_le, ne_eq, Decidable.not_not] at h3
      try have h3b := inB_iff.1 h3
      obtain rfl : k = (erA cs st 3 st.length).length := by omega
      refine t_exit ?_
      refine tx_code ?_
      refine tx_inv ?_
      refine tx_blk ?_
      refine tn_code ?_
      refine t_seq ?_
      refine t_seq ?_
      refine t_reg ?_
      refine to_mv rfl rfl ?_
      refine to_neq rfl rfl rfl ?_
      refine to_fix (s := 138) (b' := false) rfl (rfl) ?_
      refine to_nil ?_
      refine tn_code ?_
      refine t_ifF rfl ?_
      refine t_skip ?_
      refine tn_code ?_
      refine t_seq ?_
      refine t_seq ?_
      refine t_reg ?_
      refine to_mv rfl rfl ?_
      refine to_lenS rfl rfl ?_
      refine to_eql rfl rfl rfl ?_
      refine to_fix (s := 146) (b' := false) rfl (rfl) ?_
      refine to_nil ?_
      refine tn_code ?_
      refine t_ifF rfl ?_
      refine t_skip ?_
      refine tn_code ?_
      refine t_seq ?_
      refine t_reg ?_
      refine to_as rfl rfl ?_
      refine to_nil ?_
      refine tn_code ?_
      refine t_seq ?_
      refine t_seq ?_
      refine t_reg ?_
      refine to_mv rfl rfl ?_
      first | refine to_ix rfl rfl rfl (by first | omega | decide) (by first | omega | decide) rfl ?_ | refine to_ixi rfl rfl rfl (by omega) (by omega) (by omega) rfl ?_
      first | refine to_fa rfl rfl rfl (by simp only [Nat.reduceAdd]; rfl) rfl ?_ | refine to_fae rfl rfl rfl (by simp only [Nat.reduceAdd]; rfl) rfl ?_
      first | refine to_lds rfl rfl rfl ?_ | refine to_ldes rfl (by assumption) rfl rfl ?_
      refine to_eql rfl rfl rfl ?_
      refine to_fix (s := 156) (b' := true) rfl (rfl) ?_
      refine to_nil ?_
      refine tn_code ?_
      refine t_ifT rfl ?_
      refine t_reg ?_
      refine to_as rfl rfl ?_
      refine to_nil ?_
      refine tn_code ?_
      refine t_seq ?_
      refine t_reg ?_
      refine to_mv rfl rfl ?_
      refine to_lenS rfl rfl ?_
      refine to_eql rfl rfl rfl ?_
      refine to_fix (s := 159) (b' := true) rfl (rfl) ?_
      refine to_mv rfl rfl ?_
      refine to_gt rfl rfl ?_
      refine to_mv rfl rfl ?_
      refine to_gt rfl rfl ?_
      first | refine to_ix rfl rfl rfl (by first | omega | decide) (by first | omega | decide) rfl ?_ | refine to_ixi rfl rfl rfl (by omega) (by omega) (by omega) rfl ?_
      refine to_gt rfl rfl ?_
      first | refine to_fa rfl rfl rfl (by simp only [Nat.reduceAdd]; rfl) rfl ?_ | refine to_fae rfl rfl rfl (by simp only [Nat.reduceAdd]; rfl) rfl ?_
      refine to_gt rfl rfl ?_
      first | refine to_lds rfl rfl rfl ?_ | refine to_ldes rfl (by assumption) rfl rfl ?_
      refine to_gt rfl rfl ?_
      refine to_leq rfl rfl rfl ?_
      refine to_fix (s := 165) (b' := true) rfl (rfl) ?_
      refine to_pkT rfl rfl rfl ?_
      refine to_mv rfl rfl ?_
      refine to_gt rfl rfl ?_
      refine to_mv rfl rfl ?_
      refine to_gt rfl rfl ?_
      refine to_mv rfl rfl ?_
      refine to_gt rfl rfl ?_
      refine to_eql rfl rfl rfl ?_
      refine to_fix (s := 170) (b' := true) rfl (decide_eq_true (by omega)) ?_
      refine to_pkT rfl rfl rfl ?_
      refine to_mv rfl rfl ?_
      refine to_gt rfl rfl ?_
      refine to_call0 rfl rfl (fun w s => top_known w) rfl ?_
      refine to_pkT rfl rfl rfl ?_
      refine to_as rfl rfl ?_
      refine to_nil ?_
      refine tn_code ?_
      refine t_ret1 rfl rfl (res_tmp rfl) (fun w' s => ?_)
      rfl

end Go.Proofs


namespace Go.Proofs
open Go Go.Sx Go.RowKit

set_option maxRecDepth 20000 in
theorem top_k2 (cs : List Cp) (ca : Option Addr) (cc : Nat) (st : List Li) (sa : Option Addr) (sc : Nat) (i pn : Nat) (x : Cp) (a0 a1 a2 b0 b1 b2 : Int) (aa ab : Option Addr) (ac bc : Nat) (w : World) (hct : Ro w 0 w.heap.size ca cs.length cc 2 (cs.map cpC)) (hcs : ∀ x ∈ cs, 0 < x.s.length → Ro w 0 w.heap.size x.a x.s.length x.c 1 (ints x.s)) (hst : Ro w 0 w.heap.size sa st.length sc 1 (st.map liC)) (hss : ∀ x ∈ st, 0 < x.xs.length → Ro w 0 w.heap.size x.a x.xs.length x.c 1 (ints x.xs)) (h1 : ¬ 10 < cs.length) (h2 : ¬ 10 < st.length) (hT : isTr 3 cs = true) (hS : isSt 3 cs st = true) (hxl : ∀ x ∈ cs, x.s.length ≤ 1000000) (hi : 0 < i) (hil : i < cs.length) (hsl : st.length = cs.length) (hx : cs[i]? = some x) (hxp : x.p = (pn : Int)) (hpn : pn < i) (hlA : st[pn]? = some ⟨[a0, a1, a2], aa, ac⟩) (hlB : st[i]? = some ⟨[b0, b1, b2], ab, bc⟩) (ha0 : 0 ≤ a0 ∧ a0 ≤ 9) (ha1 : 0 ≤ a1 ∧ a1 ≤ 9) (ha2 : 0 ≤ a2 ∧ a2 ≤ 9) (hb0 : 0 ≤ b0 ∧ b0 ≤ 9) (hb1 : 0 ≤ b1 ∧ b1 ≤ 9) (hb2 : 0 ≤ b2 ∧ b2 ≤ 9) (he : ¬ (100 * b0 + 10 * b1 + b2) = (100 * a0 + 10 * a1 + a2)) (hk : kindF (100 * a0 + 10 * a1 + a2) (100 * b0 + 10 * b1 + b2) = 2) : Calls Tryz.prog 3 #[trV 3 cs ca cc, .slice sa st.length sc, .int .i64 (i : Int)] w (RetV w (.bool true)) := by
  have hC : inB (i : Int) 0 (cs.length - 1) = true := inB_iff.2 (by omega)
  have hxc : (cs.map cpC)[i]? = some [.int .i64 (pn : Int), .slice x.a x.s.length x.c] := by rw [← hxp]; exact map_get (f := cpC) hx
  have hlAc : (st.map liC)[pn]? = some [.slice aa 3 ac] := map_get (f := liC) hlA
  have hlBc : (st.map liC)[i]? = some [.slice ab 3 bc] := map_get (f := liC) hlB
  have hrA : Ro w 0 w.heap.size aa 3 ac 1 (ints [a0, a1, a2]) := hss _ (List.mem_of_getElem? hlA) (by simp)
  have hrB : Ro w 0 w.heap.size ab 3 bc 1 (ints [b0, b1, b2]) := hss _ (List.mem_of_getElem? hlB) (by simp)
  have eA0 : (ints [a0, a1, a2])[0]? = some [.int .i64 a0] := rfl
  have eA1 : (ints [a0, a1, a2])[1]? = some [.int .i64 a1] := rfl
  have eA2 : (ints [a0, a1, a2])[2]? = some [.int .i64 a2] := rfl
  have eB0 : (ints [b0, b1, b2])[0]? = some [.int .i64 b0] := rfl
  have eB1 : (ints [b0, b1, b2])[1]? = some [.int .i64 b1] := rfl
  have eB2 : (ints [b0, b1, b2])[2]? = some [.int .i64 b2] := rfl
  have hEl := erA_len cs st 3 st.length
  have hcnt := cnt_main hi (by omega) hx hxp hlA hlB
  have hd := lw_carr ha0 ha1 ha2 hb0 hb1 hb2 he hk
  have hX0 : ([[.int .i64 0, .int .i64 2]] : List (List Value))[0]? = some [.int .i64 0, .int .i64 2] := rfl
  refine calls_T0 (av := [_, _, _]) Tryz.func3 rfl rfl rfl ?_
  refine t_seq ?_
  refine t_reg ?_
  refine to_box rfl rfl (fun b3 => ?_)
  refine to_as rfl rfl ?_
  refine to_nil ?_
  refine tn_code ?_
  refine t_seq ?_
  refine t_seq ?_
  refine t_reg ?_
  first | refine to_fa rfl rfl rfl (by simp only [Nat.reduceAdd]; rfl) rfl ?_ | refine to_fae rfl rfl rfl (by simp only [Nat.reduceAdd]; rfl) rfl ?_
  first | refine to_lds rfl rfl rfl ?_ | refine to_ldes rfl (by assumption) rfl rfl ?_
  refine to_lenS rfl rfl ?_
  refine to_gtr rfl rfl rfl ?_
  refine to_fix (s := 19) (b' := false) rfl (decide_eq_false (by omega)) ?_
  refine to_mv rfl rfl ?_
  refine to_gt rfl rfl ?_
  refine to_mv rfl rfl ?_
  refine to_gt rfl rfl ?_
  refine to_lenS rfl rfl ?_
  refine to_gt rfl rfl ?_
  refine to_gtr rfl rfl rfl ?_
  refine to_fix (s := 23) (b' := false) rfl (decide_eq_false (by omega)) ?_
  refine to_pkF rfl rfl rfl ?_
  refine to_mv rfl rfl ?_
  refine to_gt rfl rfl ?_
  first | refine to_lda rfl rfl rfl ?_ | refine to_ldea rfl (by assumption) rfl rfl ?_
  refine to_gt rfl rfl ?_
  refine to_call0 rfl rfl (fun w s => s7_Tree 3 cs ca cc w (rdw s) (fun x hx h0 => by haveI := hcs x hx h0; exact rdw s) (by omega)) rfl ?_
  refine to_fix (s := 27) (b' := true) rfl (hT) ?_
  refine to_gt rfl rfl ?_
  refine to_not rfl rfl ?_
  refine to_pkF rfl rfl rfl ?_
  refine to_mv rfl rfl ?_
  refine to_gt rfl rfl ?_
  first | refine to_fa rfl rfl rfl (by simp only [Nat.reduceAdd]; rfl) rfl ?_ | refine to_fae rfl rfl rfl (by simp only [Nat.reduceAdd]; rfl) rfl ?_
  refine to_gt rfl rfl ?_
  first | refine to_lds rfl rfl rfl ?_ | refine to_ldes rfl (by assumption) rfl rfl ?_
  refine to_gt rfl rfl ?_
  refine to_neq rfl rfl rfl ?_
  refine to_fix (s := 33) (b' := false) rfl (decide_eq_false (by omega)) ?_
  refine to_pkF rfl rfl rfl ?_
  refine to_mv rfl rfl ?_
  refine to_gt rfl rfl ?_
  first | refine to_lda rfl rfl rfl ?_ | refine to_ldea rfl (by assumption) rfl rfl ?_
  refine to_gt rfl rfl ?_
  refine to_mv rfl rfl ?_
  refine to_gt rfl rfl ?_
  refine to_call0 rfl rfl (fun w s => s7_Copy 3 cs ca cc _ w (by omega)) rfl ?_
  refine to_fix (s := 38) (b' := true) rfl (hC) ?_
  refine to_gt rfl rfl ?_
  refine to_not rfl rfl ?_
  refine to_pkF rfl rfl rfl ?_
  refine to_mv rfl rfl ?_
  refine to_gt rfl rfl ?_
  refine to_mv rfl rfl ?_
  refine to_gt rfl rfl ?_
  refine to_eql rfl rfl rfl ?_
  refine to_fix (s := 43) (b' := false) rfl (decide_eq_false (by omega)) ?_
  refine to_pkF rfl rfl rfl ?_
  refine to_mv rfl rfl ?_
  refine to_gt rfl rfl ?_
  first | refine to_lda rfl rfl rfl ?_ | refine to_ldea rfl (by assumption) rfl rfl ?_
  refine to_gt rfl rfl ?_
  refine to_mv rfl rfl ?_
  refine to_gt rfl rfl ?_
  refine to_call0 rfl rfl (fun w s => s7_Story 3 cs ca cc st sa sc w (rdw s) (fun x hx h0 => by haveI := hcs x hx h0; exact rdw s) (by omega) (rdw s) (fun x hx h0 => by haveI := hss x hx h0; exact rdw s) (by omega) hT) rfl ?_
  refine to_fix (s := 48) (b' := true) rfl (hS) ?_
  refine to_gt rfl rfl ?_
  refine to_not rfl rfl ?_
  refine to_pkF rfl rfl rfl ?_
  refine to_nil ?_
  refine tn_code ?_
  refine t_ifF rfl ?_
  refine t_skip ?_
  refine tn_code ?_
  refine t_seq ?_
  refine t_regD rfl (by kernel_rfl) (by kernel_rfl) ?_
  refine to_mv rfl rfl ?_
  first | refine to_fa rfl rfl rfl (by simp only [Nat.reduceAdd]; rfl) rfl ?_ | refine to_fae rfl rfl rfl (by simp only [Nat.reduceAdd]; rfl) rfl ?_
  first | refine to_lds rfl rfl rfl ?_ | refine to_ldes rfl (by assumption) rfl rfl ?_
  refine to_mv rfl rfl ?_
  first | refine to_ix rfl rfl rfl (by first | omega | decide) (by first | omega | decide) rfl ?_ | refine to_ixi rfl rfl rfl (by omega) (by omega) (by omega) rfl ?_
  first | refine to_fa rfl rfl rfl (by simp only [Nat.reduceAdd]; rfl) rfl ?_ | refine to_fae rfl rfl rfl (by simp only [Nat.reduceAdd]; rfl) rfl ?_
  first | refine to_lds rfl rfl rfl ?_ | refine to_ldes rfl (by assumption) rfl rfl ?_
  first | refine to_ix rfl rfl rfl (by first | omega | decide) (by first | omega | decide) rfl ?_ | refine to_ixi rfl rfl rfl (by omega) (by omega) (by omega) rfl ?_
  first | refine to_lds rfl rfl rfl ?_ | refine to_ldes rfl (by assumption) rfl rfl ?_
  refine to_mv rfl rfl ?_
  refine to_mv rfl rfl ?_
  first | refine to_ix rfl rfl rfl (by first | omega | decide) (by first | omega | decide) rfl ?_ | refine to_ixi rfl rfl rfl (by omega) (by omega) (by omega) rfl ?_
  first | refine to_lds rfl rfl rfl ?_ | refine to_ldes rfl (by assumption) rfl rfl ?_
  refine to_as rfl rfl ?_
  refine to_as rfl rfl ?_
  refine to_nil ?_
  refine tn_code ?_
  refine t_seq ?_
  refine t_reg ?_
  first | refine to_lda rfl rfl rfl ?_ | refine to_ldea rfl (by assumption) rfl rfl ?_
  refine to_mv rfl rfl ?_
  refine to_callR rfl rfl (fun w s => cp_Errors 3 cs ca cc st sa sc 3 w (rdw s) (fun x hx h0 => by haveI := hcs x hx h0; exact rdw s) (by omega) (rdw s) (fun x hx h0 => by haveI := hss x hx h0; exact rdw s) (by omega) hT hS rfl hxl) rfl (fun v68 lo68 w68 hlo68 hR68 => ?_)
  obtain ⟨a1x, c1x, rfl, hrl⟩ := hR68
  refine to_mv rfl rfl ?_
  refine to_ex rfl rfl rfl ?_
  refine to_ex rfl rfl rfl ?_
  refine to_as rfl rfl ?_
  refine to_as rfl rfl ?_
  refine to_nil ?_
  refine tn_code ?_
  refine t_seq ?_
  refine t_regA [13, 27, 28] 28 [.snap 0 w.heap.size w] [.snap 0 w.heap.size w] 34 rfl rfl (by kernel_rfl) (by kernel_rfl) (by kernel_rfl) ?_
  refine ta_q2 ?e1 (k := 0) (by kernel_rfl) rfl ?q1 ?r1
  case q1 =>
    refine to_mv rfl rfl ?_
    exact tpq_end
  refine ta_q1 ?e2 (k := 1) [2, 3, 8, 12, 13, 28] (by kernel_rfl) rfl rfl ?q2 ?r2
  case q2 =>
    first | refine to_ix rfl rfl rfl (by first | omega | decide) (by first | omega | decide) rfl ?_ | refine to_ixi rfl rfl rfl (by omega) (by omega) (by omega) rfl ?_
    exact tpq_end
  refine ta_q1 ?e3 (k := 2) [3, 8, 12, 13, 28] (by kernel_rfl) rfl rfl ?q3 ?r3
  case q3 =>
    first | refine to_lds rfl rfl rfl ?_ | refine to_ldes rfl (by assumption) rfl rfl ?_
    exact tpq_end
  refine ta_q2 ?e4 (k := 3) (by kernel_rfl) rfl ?q4 ?r4
  case q4 =>
    refine to_mul rfl rfl (by first | omega | exact mul_ok (by omega) (by omega) (by omega) (by omega)) rfl ?_
    exact tpq_end
  refine ta_q2 ?e5 (k := 4) (by kernel_rfl) rfl ?q5 ?r5
  case q5 =>
    refine to_mv rfl rfl ?_
    exact tpq_end
  refine ta_q1 ?e6 (k := 5) [6, 7, 8, 12, 13, 28] (by kernel_rfl) rfl rfl ?q6 ?r6
  case q6 =>
    first | refine to_ix rfl rfl rfl (by first | omega | decide) (by first | omega | decide) rfl ?_ | refine to_ixi rfl rfl rfl (by omega) (by omega) (by omega) rfl ?_
    exact tpq_end
  refine ta_q1 ?e7 (k := 6) [7, 8, 12, 13, 28] (by kernel_rfl) rfl rfl ?q7 ?r7
  case q7 =>
    first | refine to_lds rfl rfl rfl ?_ | refine to_ldes rfl (by assumption) rfl rfl ?_
    exact tpq_end
  refine ta_q2 ?e8 (k := 7) (by kernel_rfl) rfl ?q8 ?r8
  case q8 =>
    refine to_mul rfl rfl (by first | omega | exact mul_ok (by omega) (by omega) (by omega) (by omega)) rfl ?_
    exact tpq_end
  refine ta_q2 ?e9 (k := 8) (by kernel_rfl) rfl ?q9 ?r9
  case q9 =>
    refine to_add rfl rfl (by omega) rfl ?_
    exact tpq_end
  refine ta_q2 ?e10 (k := 9) (by kernel_rfl) rfl ?q10 ?r10
  case q10 =>
    refine to_mv rfl rfl ?_
    exact tpq_end
  refine ta_q1 ?e11 (k := 10) [11, 12, 13, 28] (by kernel_rfl) rfl rfl ?q11 ?r11
  case q11 =>
    first | refine to_ix rfl rfl rfl (by first | omega | decide) (by first | omega | decide) rfl ?_ | refine to_ixi rfl rfl rfl (by omega) (by omega) (by omega) rfl ?_
    exact tpq_end
  refine ta_q1 ?e12 (k := 11) [12, 13, 28] (by kernel_rfl) rfl rfl ?q12 ?r12
  case q12 =>
    first | refine to_lds rfl rfl rfl ?_ | refine to_ldes rfl (by assumption) rfl rfl ?_
    exact tpq_end
  refine ta_q2 ?e13 (k := 12) (by kernel_rfl) rfl ?q13 ?r13
  case q13 =>
    refine to_add rfl rfl (by omega) rfl ?_
    exact tpq_end
  refine ta_q2 ?e14 (k := 14) (by kernel_rfl) rfl ?q14 ?r14
  case q14 =>
    refine to_mv rfl rfl ?_
    exact tpq_end
  refine ta_q1 ?e15 (k := 15) [16, 17, 22, 26, 27, 28] (by kernel_rfl) rfl rfl ?q15 ?r15
  case q15 =>
    first | refine to_ix rfl rfl rfl (by first | omega | decide) (by first | omega | decide) rfl ?_ | refine to_ixi rfl rfl rfl (by omega) (by omega) (by omega) rfl ?_
    exact tpq_end
  refine ta_q1 ?e16 (k := 16) [17, 22, 26, 27, 28] (by kernel_rfl) rfl rfl ?q16 ?r16
  case q16 =>
    first | refine to_lds rfl rfl rfl ?_ | refine to_ldes rfl (by assumption) rfl rfl ?_
    exact tpq_end
  refine ta_q2 ?e17 (k := 17) (by kernel_rfl) rfl ?q17 ?r17
  case q17 =>
    refine to_mul rfl rfl (by first | omega | exact mul_ok (by omega) (by omega) (by omega) (by omega)) rfl ?_
    exact tpq_end
  refine ta_q2 ?e18 (k := 18) (by kernel_rfl) rfl ?q18 ?r18
  case q18 =>
    refine to_mv rfl rfl ?_
    exact tpq_end
  refine ta_q1 ?e19 (k := 19) [20, 21, 22, 26, 27, 28] (by kernel_rfl) rfl rfl ?q19 ?r19
  case q19 =>
    first | refine to_ix rfl rfl rfl (by first | omega | decide) (by first | omega | decide) rfl ?_ | refine to_ixi rfl rfl rfl (by omega) (by omega) (by omega) rfl ?_
    exact tpq_end
  refine ta_q1 ?e20 (k := 20) [21, 22, 26, 27, 28] (by kernel_rfl) rfl rfl ?q20 ?r20
  case q20 =>
    first | refine to_lds rfl rfl rfl ?_ | refine to_ldes rfl (by assumption) rfl rfl ?_
    exact tpq_end
  refine ta_q2 ?e21 (k := 21) (by kernel_rfl) rfl ?q21 ?r21
  case q21 =>
    refine to_mul rfl rfl (by first | omega | exact mul_ok (by omega) (by omega) (by omega) (by omega)) rfl ?_
    exact tpq_end
  refine ta_q2 ?e22 (k := 22) (by kernel_rfl) rfl ?q22 ?r22
  case q22 =>
    refine to_add rfl rfl (by omega) rfl ?_
    exact tpq_end
  refine ta_q2 ?e23 (k := 23) (by kernel_rfl) rfl ?q23 ?r23
  case q23 =>
    refine to_mv rfl rfl ?_
    exact tpq_end
  refine ta_q1 ?e24 (k := 24) [25, 26, 27, 28] (by kernel_rfl) rfl rfl ?q24 ?r24
  case q24 =>
    first | refine to_ix rfl rfl rfl (by first | omega | decide) (by first | omega | decide) rfl ?_ | refine to_ixi rfl rfl rfl (by omega) (by omega) (by omega) rfl ?_
    exact tpq_end
  refine ta_q1 ?e25 (k := 25) [26, 27, 28] (by kernel_rfl) rfl rfl ?q25 ?r25
  case q25 =>
    first | refine to_lds rfl rfl rfl ?_ | refine to_ldes rfl (by assumption) rfl rfl ?_
    exact tpq_end
  refine ta_q2 ?e26 (k := 26) (by kernel_rfl) rfl ?q26 ?r26
  case q26 =>
    refine to_add rfl rfl (by omega) rfl ?_
    exact tpq_end
  refine ta_fork [13, 27] (by kernel_rfl) rfl ?_
  refine ⟨⟨_, rfl, wanted_none rfl, ?_⟩, ⟨_, rfl, wanted_none rfl, ?_⟩, trivial⟩
  · skip
    refine to_bsl rfl rfl rfl rfl (fun a85 => ?_)
    refine ta_se1 rfl ?_
    refine ta_fork [27] (by kernel_rfl) rfl ?_
    refine ⟨⟨_, rfl, wanted_none rfl, ?_⟩, trivial⟩
    refine to_bsl rfl rfl rfl rfl (fun a99 => ?_)
    refine ta_se1 rfl ?_
    refine ta_fork [28] (by kernel_rfl) rfl ?_
    refine ⟨⟨_, rfl, wanted_none rfl, ?_⟩, trivial⟩
    refine to_callR rfl rfl (fun w s => hn_Errors (100 * a0 + 10 * a1 + a2) (100 * b0 + 10 * b1 + b2) _ _ _ _ w (by omega) (by omega) (rdw s) (rdw s)) rfl (fun v100 lo100 w100 hlo100 hR100 => ?_)
    obtain hE := hR100
    obtain ⟨ax, cx, rfl, hrx⟩ := hErr_k hR100 he hk (by decide)
    refine ta_se2 (by kernel_rfl) rfl ?_
    refine ta_q2 ?e27 (k := 29) (by kernel_rfl) rfl ?q27 ?r27
    case q27 =>
      refine to_mv rfl rfl ?_
      exact tpq_end
    refine ta_q2 ?e28 (k := 30) (by kernel_rfl) rfl ?q28 ?r28
    case q28 =>
      refine to_ex rfl rfl rfl ?_
      exact tpq_end
    refine ta_q2 ?e29 (k := 31) (by kernel_rfl) rfl ?q29 ?r29
    case q29 =>
      refine to_ex rfl rfl rfl ?_
      exact tpq_end
    refine ta_q2 ?e30 (k := 32) (by kernel_rfl) rfl ?q30 ?r30
    case q30 =>
      refine to_as rfl rfl ?_
      exact tpq_end
    refine ta_q2 ?e31 (k := 33) (by kernel_rfl) rfl ?q31 ?r31
    case q31 =>
      refine to_as rfl rfl ?_
      exact tpq_end
    refine ta_nil (by kernel_rfl) ?_
    refine tn_code ?_
    refine t_seq ?_
    refine t_seq ?_
    refine t_reg ?_
    refine to_mv rfl rfl ?_
    refine to_neq rfl rfl rfl ?_
    refine to_fix (s := 104) (b' := false) rfl (rfl) ?_
    refine to_mv rfl rfl ?_
    refine to_gt rfl rfl ?_
    refine to_mv rfl rfl ?_
    refine to_gt rfl rfl ?_
    refine to_neq rfl rfl rfl ?_
    refine to_fix (s := 107) (b' := false) rfl (rfl) ?_
    refine to_gt rfl rfl ?_
    refine to_mv rfl rfl ?_
    refine to_gf rfl rfl rfl rfl ?_
    refine to_gf rfl rfl rfl rfl ?_
    refine to_gt rfl rfl ?_
    refine to_pkF rfl rfl rfl ?_
    refine to_pkF rfl rfl rfl ?_
    refine to_mv rfl rfl ?_
    refine to_gt rfl rfl ?_
    refine to_mv rfl rfl ?_
    refine to_gt rfl rfl ?_
    refine to_lenS rfl rfl ?_
    refine to_gt rfl rfl ?_
    first | refine to_fa rfl rfl rfl (by simp only [Nat.reduceAdd]; rfl) rfl ?_ | refine to_fae rfl rfl rfl (by simp only [Nat.reduceAdd]; rfl) rfl ?_
    refine to_gt rfl rfl ?_
    first | refine to_lds rfl rfl rfl ?_ | refine to_ldes rfl (by assumption) rfl rfl ?_
    refine to_gt rfl rfl ?_
    refine to_lenS rfl rfl ?_
    refine to_gt rfl rfl ?_
    refine to_mul rfl rfl (by first | omega | exact mul_ok (by omega) (by omega) (by omega) (by omega)) rfl ?_
    refine to_gt rfl rfl ?_
    refine to_gtr rfl rfl rfl ?_
    refine to_fix (s := 120) (b' := false) rfl (decide_eq_false (by omega)) ?_
    refine to_pkF rfl rfl rfl ?_
    refine to_nil ?_
    refine tn_code ?_
    refine t_ifF rfl ?_
    refine t_skip ?_
    refine tn_code ?_
    refine t_seq ?_
    refine t_reg ?_
    refine to_as rfl rfl ?_
    refine to_nil ?_
    refine tn_code ?_
    refine t_seq ?_
    refine t_seq ?_
    refine t_reg ?_
    refine to_as rfl rfl ?_
    refine to_nil ?_
    refine tn_code ?_
    refine t_blk ?_
    refine t_loop2 (ι := Nat) (fun k => k ≤ (erA cs st 3 st.length).length) (fun k => [(2, (.int .i64 (i : Int))), (9, .slice a1x (erA cs st 3 st.length).length c1x), (11, .slice ax 1 cx), (12, (.int .i64 0)), (13, (.int .i64 (cntK (erA cs st 3 st.length) i k : Int))), (14, (.int .i64 (k : Int)))]) (fun k => [.snap lo100 w100.heap.size w100, .snap lo68 w68.heap.size w68, .snap 0 w.heap.size w]) (fun k => (erA cs st 3 st.length).length - k) (0) [.snap lo100 w100.heap.size w100, .snap lo68 w68.heap.size w68, .snap 0 w.heap.size w] (rfl) (Nat.zero_le _) (⟨rfl, rfl, rfl, rfl, rfl, rfl, trivial⟩) ?_
    rintro k hk
    show T _ _ _ ⟨_, [(2, (.int .i64 (i : Int))), (9, .slice a1x (erA cs st 3 st.length).length c1x), (11, .slice ax 1 cx), (12, (.int .i64 0)), (13, (.int .i64 (cntK (erA cs st 3 st.length) i k : Int))), (14, (.int .i64 (k : Int)))], _⟩ [.snap lo100 w100.heap.size w100, .snap lo68 w68.heap.size w68, .snap 0 w.heap.size w]
    refine t_seq ?_
    refine t_seq ?_
    refine t_reg ?_
    refine to_mv rfl rfl ?_
    refine to_mv rfl rfl ?_
    refine to_lenS rfl rfl ?_
    refine to_lss rfl rfl rfl ?_
    refine to_nil ?_
    refine tn_code ?_
    refine t_if rfl (fun h1 => ?_) (fun h1 => ?_)
    · try simp only [decide_eq_true_eq, decide_eq_false_iff_not, Bool.not_eq_true', Bool.not_eq_false', Int.not_lt, Int.not_le, ne_eq, Decidable.not_not] at h1
      try have h1b := inB_iff.1 h1
      obtain ⟨v, hv⟩ := some_get (xs := (erA cs st 3 st.length)) (k := k) (by omega)
      have hxv := map_get (f := spanC) hv
      have hck := cntK_le (erA cs st 3 st.length) i k
      refine t_skip ?_
      refine tn_code ?_
      refine t_seq ?_
      refine t_blk ?_
      refine t_seq ?_
      refine t_reg ?_
      refine to_mv rfl rfl ?_
      refine to_mv rfl rfl ?_
      first | refine to_ix rfl rfl rfl (by first | omega | decide) (by first | omega | decide) rfl ?_ | refine to_ixi rfl rfl rfl (by omega) (by omega) (by omega) rfl ?_
      first | refine to_fa rfl rfl rfl (by simp only [Nat.reduceAdd]; rfl) rfl ?_ | refine to_fae rfl rfl rfl (by simp only [Nat.reduceAdd]; rfl) rfl ?_
      first | refine to_lds rfl rfl rfl ?_ | refine to_ldes rfl (by assumption) rfl rfl ?_
      refine to_mv rfl rfl ?_
      refine to_eql rfl rfl rfl ?_
      refine to_nil ?_
      refine tn_code ?_
      refine t_if rfl (fun h2 => ?_) (fun h2 => ?_)
      · try simp only [decide_eq_true_eq, decide_eq_false_iff_not, Bool.not_eq_true', Bool.not_eq_false', Int.not_lt, Int.not_le, ne_eq, Decidable.not_not] at h2
        try have h2b := inB_iff.1 h2
        have hvi := h2
        refine t_reg ?_
        refine to_mv rfl rfl ?_
        refine to_add rfl rfl (by omega) rfl ?_
        refine to_as rfl rfl ?_
        refine to_nil ?_
        refine tn_blk ?_
        refine tn_code ?_
        refine t_reg ?_
        refine to_mv rfl rfl ?_
        refine to_add rfl rfl (by omega) rfl ?_
        refine to_as rfl rfl ?_
        refine to_nil ?_
        exact tn_loop2 (k + 1) [.snap lo100 w100.heap.size w100, .snap lo68 w68.heap.size w68, .snap 0 w.heap.size w] (rfl) (by omega) (by omega) (⟨rfl, rfl, rfl, rfl, congrArg (fun z : Nat => some (Value.int .i64 (z : Int))) (cntK_t hv hvi).symm, rfl, trivial⟩)
      · try simp only [decide_eq_true_eq, decide_eq_false_iff_not, Bool.not_eq_true', Bool.not_eq_false', Int.not_lt, Int.not_le, ne_eq, Decidable.not_not] at h2
        try have h2b := inB_iff.1 h2
        have hvi := h2
        refine t_skip ?_
        refine tn_blk ?_
        refine tn_code ?_
        refine t_reg ?_
        refine to_mv rfl rfl ?_
        refine to_add rfl rfl (by omega) rfl ?_
        refine to_as rfl rfl ?_
        refine to_nil ?_
        exact tn_loop2 (k + 1) [.snap lo100 w100.heap.size w100, .snap lo68 w68.heap.size w68, .snap 0 w.heap.size w] (rfl) (by omega) (by omega) (⟨rfl, rfl, rfl, rfl, congrArg (fun z : Nat => some (Value.int .i64 (z : Int))) (cntK_f hv hvi).symm, rfl, trivial⟩)
    · try simp only [decide_eq_true_eq, decide_eq_false_iff_not, Bool.not_eq_true', Bool.not_eq_false', Int.not_lt, Int.not_le, ne_eq, Decidable.not_not] at h1
      try have h1b := inB_iff.1 h1
      obtain rfl : k = (erA cs st 3 st.length).length := by omega
      refine t_exit ?_
      refine tx_code ?_
      refine tx_inv ?_
      refine tx_blk ?_
      refine tn_code ?_
      refine t_seq ?_
      refine t_seq ?_
      refine t_reg ?_
      refine to_mv rfl rfl ?_
      refine to_neq rfl rfl rfl ?_
      refine to_fix (s := 138) (b' := false) rfl (rfl) ?_
      refine to_nil ?_
      refine tn_code ?_
      refine t_ifF rfl ?_
      refine t_skip ?_
      refine tn_code ?_
      refine t_seq ?_
      refine t_seq ?_
      refine t_reg ?_
      refine to_mv rfl rfl ?_
      refine to_lenS rfl rfl ?_
      refine to_eql rfl rfl rfl ?_
      refine to_fix (s := 146) (b' := false) rfl (rfl) ?_
      refine to_nil ?_
      refine tn_code ?_
      refine t_ifF rfl ?_
      refine t_skip ?_
      refine tn_code ?_
      refine t_seq ?_
      refine t_reg ?_
      refine to_as rfl rfl ?_
      refine to_nil ?_
      refine tn_code ?_
      refine t_seq ?_
      refine t_seq ?_
      refine t_reg ?_
      refine to_mv rfl rfl ?_
      first | refine to_ix rfl rfl rfl (by first | omega | decide) (by first | omega | decide) rfl ?_ | refine to_ixi rfl rfl rfl (by omega) (by omega) (by omega) rfl ?_
      first | refine to_fa rfl rfl rfl (by simp only [Nat.reduceAdd]; rfl) rfl ?_ | refine to_fae rfl rfl rfl (by simp only [Nat.reduceAdd]; rfl) rfl ?_
      first | refine to_lds rfl rfl rfl ?_ | refine to_ldes rfl (by assumption) rfl rfl ?_
      refine to_eql rfl rfl rfl ?_
      refine to_fix (s := 156) (b' := false) rfl (rfl) ?_
      refine to_nil ?_
      refine tn_code ?_
      refine t_ifF rfl ?_
      refine t_skip ?_
      refine tn_code ?_
      refine t_seq ?_
      refine t_reg ?_
      refine to_mv rfl rfl ?_
      refine to_lenS rfl rfl ?_
      refine to_eql rfl rfl rfl ?_
      refine to_fix (s := 159) (b' := true) rfl (rfl) ?_
      refine to_mv rfl rfl ?_
      refine to_gt rfl rfl ?_
      refine to_mv rfl rfl ?_
      refine to_gt rfl rfl ?_
      first | refine to_ix rfl rfl rfl (by first | omega | decide) (by first | omega | decide) rfl ?_ | refine to_ixi rfl rfl rfl (by omega) (by omega) (by omega) rfl ?_
      refine to_gt rfl rfl ?_
      first | refine to_fa rfl rfl rfl (by simp only [Nat.reduceAdd]; rfl) rfl ?_ | refine to_fae rfl rfl rfl (by simp only [Nat.reduceAdd]; rfl) rfl ?_
      refine to_gt rfl rfl ?_
      first | refine to_lds rfl rfl rfl ?_ | refine to_ldes rfl (by assumption) rfl rfl ?_
      refine to_gt rfl rfl ?_
      refine to_leq rfl rfl rfl ?_
      refine to_fix (s := 165) (b' := true) rfl (rfl) ?_
      refine to_pkT rfl rfl rfl ?_
      refine to_mv rfl rfl ?_
      refine to_gt rfl rfl ?_
      refine to_mv rfl rfl ?_
      refine to_gt rfl rfl ?_
      refine to_mv rfl rfl ?_
      refine to_gt rfl rfl ?_
      refine to_eql rfl rfl rfl ?_
      refine to_fix (s := 170) (b' := true) rfl (decide_eq_true (by omega)) ?_
      refine to_pkT rfl rfl rfl ?_
      refine to_mv rfl rfl ?_
      refine to_gt rfl rfl ?_
      refine to_call0 rfl rfl (fun w s => top_known w) rfl ?_
      refine to_pkT rfl rfl rfl ?_
      refine to_as rfl rfl ?_
      refine to_nil ?_
      refine tn_code ?_
      refine t_ret1 rfl rfl (res_tmp rfl) (fun w' s => ?_)
      rfl
  · skip
    refine to_bsl rfl rfl rfl rfl (fun a99 => ?_)
    refine ta_se1 rfl ?_
    refine ta_fork [13] (by kernel_rfl) rfl ?_
    refine ⟨⟨_, rfl, wanted_none rfl, ?_⟩, trivial⟩
    refine to_bsl rfl rfl rfl rfl (fun a85 => ?_)
    refine ta_se1 rfl ?_
    refine ta_fork [28] (by kernel_rfl) rfl ?_
    refine ⟨⟨_, rfl, wanted_none rfl, ?_⟩, trivial⟩
    refine to_callR rfl rfl (fun w s => hn_Errors (100 * a0 + 10 * a1 + a2) (100 * b0 + 10 * b1 + b2) _ _ _ _ w (by omega) (by omega) (rdw s) (rdw s)) rfl (fun v100 lo100 w100 hlo100 hR100 => ?_)
    obtain hE := hR100
    obtain ⟨ax, cx, rfl, hrx⟩ := hErr_k hR100 he hk (by decide)
    refine ta_se2 (by kernel_rfl) rfl ?_
    refine ta_q2 ?e32 (k := 29) (by kernel_rfl) rfl ?q32 ?r32
    case q32 =>
      refine to_mv rfl rfl ?_
      exact tpq_end
    refine ta_q2 ?e33 (k := 30) (by kernel_rfl) rfl ?q33 ?r33
    case q33 =>
      refine to_ex rfl rfl rfl ?_
      exact tpq_end
    refine ta_q2 ?e34 (k := 31) (by kernel_rfl) rfl ?q34 ?r34
    case q34 =>
      refine to_ex rfl rfl rfl ?_
      exact tpq_end
    refine ta_q2 ?e35 (k := 32) (by kernel_rfl) rfl ?q35 ?r35
    case q35 =>
      refine to_as rfl rfl ?_
      exact tpq_end
    refine ta_q2 ?e36 (k := 33) (by kernel_rfl) rfl ?q36 ?r36
    case q36 =>
      refine to_as rfl rfl ?_
      exact tpq_end
    refine ta_nil (by kernel_rfl) ?_
    refine tn_code ?_
    refine t_seq ?_
    refine t_seq ?_
    refine t_reg ?_
    refine to_mv rfl rfl ?_
    refine to_neq rfl rfl rfl ?_
    refine to_fix (s := 104) (b' := false) rfl (rfl) ?_
    refine to_mv rfl rfl ?_
    refine to_gt rfl rfl ?_
    refine to_mv rfl rfl ?_
    refine to_gt rfl rfl ?_
    refine to_neq rfl rfl rfl ?_
    refine to_fix (s := 107) (b' := false) rfl (rfl) ?_
    refine to_gt rfl rfl ?_
    refine to_mv rfl rfl ?_
    refine to_gf rfl rfl rfl rfl ?_
    refine to_gf rfl rfl rfl rfl ?_
    refine to_gt rfl rfl ?_
    refine to_pkF rfl rfl rfl ?_
    refine to_pkF rfl rfl rfl ?_
    refine to_mv rfl rfl ?_
    refine to_gt rfl rfl ?_
    refine to_mv rfl rfl ?_
    refine to_gt rfl rfl ?_
    refine to_lenS rfl rfl ?_
    refine to_gt rfl rfl ?_
    first | refine to_fa rfl rfl rfl (by simp only [Nat.reduceAdd]; rfl) rfl ?_ | refine to_fae rfl rfl rfl (by simp only [Nat.reduceAdd]; rfl) rfl ?_
    refine to_gt rfl rfl ?_
    first | refine to_lds rfl rfl rfl ?_ | refine to_ldes rfl (by assumption) rfl rfl ?_
    refine to_gt rfl rfl ?_
    refine to_lenS rfl rfl ?_
    refine to_gt rfl rfl ?_
    refine to_mul rfl rfl (by first | omega | exact mul_ok (by omega) (by omega) (by omega) (by omega)) rfl ?_
    refine to_gt rfl rfl ?_
    refine to_gtr rfl rfl rfl ?_
    refine to_fix (s := 120) (b' := false) rfl (decide_eq_false (by omega)) ?_
    refine to_pkF rfl rfl rfl ?_
    refine to_nil ?_
    refine tn_code ?_
    refine t_ifF rfl ?_
    refine t_skip ?_
    refine tn_code ?_
    refine t_seq ?_
    refine t_reg ?_
    refine to_as rfl rfl ?_
    refine to_nil ?_
    refine tn_code ?_
    refine t_seq ?_
    refine t_seq ?_
    refine t_reg ?_
    refine to_as rfl rfl ?_
    refine to_nil ?_
    refine tn_code ?_
    refine t_blk ?_
    refine t_loop2 (ι := Nat) (fun k => k ≤ (erA cs st 3 st.length).length) (fun k => [(2, (.int .i64 (i : Int))), (9, .slice a1x (erA cs st 3 st.length).length c1x), (11, .slice ax 1 cx), (12, (.int .i64 0)), (13, (.int .i64 (cntK (erA cs st 3 st.length) i k : Int))), (14, (.int .i64 (k : Int)))]) (fun k => [.snap lo100 w100.heap.size w100, .snap lo68 w68.heap.size w68, .snap 0 w.heap.size w]) (fun k => (erA cs st 3 st.length).length - k) (0) [.snap lo100 w100.heap.size w100, .snap lo68 w68.heap.size w68, .snap 0 w.heap.size w] (rfl) (Nat.zero_le _) (⟨rfl, rfl, rfl, rfl, rfl, rfl, trivial⟩) ?_
    rintro k hk
    show T _ _ _ ⟨_, [(2, (.int .i64 (i : Int))), (9, .slice a1x (erA cs st 3 st.length).length c1x), (11, .slice ax 1 cx), (12, (.int .i64 0)), (13, (.int .i64 (cntK (erA cs st 3 st.length) i k : Int))), (14, (.int .i64 (k : Int)))], _⟩ [.snap lo100 w100.heap.size w100, .snap lo68 w68.heap.size w68, .snap 0 w.heap.size w]
    refine t_seq ?_
    refine t_seq ?_
    refine t_reg ?_
    refine to_mv rfl rfl ?_
    refine to_mv rfl rfl ?_
    refine to_lenS rfl rfl ?_
    refine to_lss rfl rfl rfl ?_
    refine to_nil ?_
    refine tn_code ?_
    refine t_if rfl (fun h3 => ?_) (fun h3 => ?_)
    · try simp only [decide_eq_true_eq, decide_eq_false_iff_not, Bool.not_eq_true', Bool.not_eq_false', Int.not_lt, Int.not_le, ne_eq, Decidable.not_not] at h3
      try have h3b := inB_iff.1 h3
      obtain ⟨v, hv⟩ := some_get (xs := (erA cs st 3 st.length)) (k := k) (by omega)
      have hxv := map_get (f := spanC) hv
      have hck := cntK_le (erA cs st 3 st.length) i k
      refine t_skip ?_
      refine tn_code ?_
      refine t_seq ?_
      refine t_blk ?_
      refine t_seq ?_
      refine t_reg ?_
      refine to_mv rfl rfl ?_
      refine to_mv rfl rfl ?_
      first | refine to_ix rfl rfl rfl (by first | omega | decide) (by first | omega | decide) rfl ?_ | refine to_ixi rfl rfl rfl (by omega) (by omega) (by omega) rfl ?_
      first | refine to_fa rfl rfl rfl (by simp only [Nat.reduceAdd]; rfl) rfl ?_ | refine to_fae rfl rfl rfl (by simp only [Nat.reduceAdd]; rfl) rfl ?_
      first | refine to_lds rfl rfl rfl ?_ | refine to_ldes rfl (by assumption) rfl rfl ?_
      refine to_mv rfl rfl ?_
      refine to_eql rfl rfl rfl ?_
      refine to_nil ?_
      refine tn_code ?_
      refine t_if rfl (fun h4 => ?_) (fun h4 => ?_)
      · try simp only [decide_eq_true_eq, decide_eq_false_iff_not, Bool.not_eq_true', Bool.not_eq_false', Int.not_lt, Int.not_le, ne_eq, Decidable.not_not] at h4
        try have h4b := inB_iff.1 h4
        have hvi := h4
        refine t_reg ?_
        refine to_mv rfl rfl ?_
        refine to_add rfl rfl (by omega) rfl ?_
        refine to_as rfl rfl ?_
        refine to_nil ?_
        refine tn_blk ?_
        refine tn_code ?_
        refine t_reg ?_
        refine to_mv rfl rfl ?_
        refine to_add rfl rfl (by omega) rfl ?_
        refine to_as rfl rfl ?_
        refine to_nil ?_
        exact tn_loop2 (k + 1) [.snap lo100 w100.heap.size w100, .snap lo68 w68.heap.size w68, .snap 0 w.heap.size w] (rfl) (by omega) (by omega) (⟨rfl, rfl, rfl, rfl, congrArg (fun z : Nat => some (Value.int .i64 (z : Int))) (cntK_t hv hvi).symm, rfl, trivial⟩)
      · try simp only [decide_eq_true_eq, decide_eq_false_iff_not, Bool.not_eq_true', Bool.not_eq_false', Int.not_lt, Int.not_le, ne_eq, Decidable.not_not] at h4
        try have h4b := inB_iff.1 h4
        have hvi := h4
        refine t_skip ?_
        refine tn_blk ?_
        refine tn_code ?_
        refine t_reg ?_
        refine to_mv rfl rfl ?_
        refine to_add rfl rfl (by omega) rfl ?_
        refine to_as rfl rfl ?_
        refine to_nil ?_
        exact tn_loop2 (k + 1) [.snap lo100 w100.heap.size w100, .snap lo68 w68.heap.size w68, .snap 0 w.heap.size w] (rfl) (by omega) (by omega) (⟨rfl, rfl, rfl, rfl, congrArg (fun z : Nat => some (Value.int .i64 (z : Int))) (cntK_f hv hvi).symm, rfl, trivial⟩)
    · try simp only [decide_eq_true_eq, decide_eq_false_iff_not, Bool.not_eq_true', Bool.not_eq_false', Int.not_lt, Int.not_le, ne_eq, Decidable.not_not] at h3
      try have h3b := inB_iff.1 h3
      obtain rfl : k = (erA cs st 3 st.length).length := by omega
      refine t_exit ?_
      refine tx_code ?_
      refine tx_inv ?_
      refine tx_blk ?_
      refine tn_code ?_
      refine t_seq ?_
      refine t_seq ?_
      refine t_reg ?_
      refine to_mv rfl rfl ?_
      refine to_neq rfl rfl rfl ?_
      refine to_fix (s := 138) (b' := false) rfl (rfl) ?_
      refine to_nil ?_
      refine tn_code ?_
      refine t_ifF rfl ?_
      refine t_skip ?_
      refine tn_code ?_
      refine t_seq ?_
      refine t_seq ?_
      refine t_reg ?_
      refine to_mv rfl rfl ?_
      refine to_lenS rfl rfl ?_
      refine to_eql rfl rfl rfl ?_
      refine to_fix (s := 146) (b' := false) rfl (rfl) ?_
      refine to_nil ?_
      refine tn_code ?_
      refine t_ifF rfl ?_
      refine t_skip ?_
      refine tn_code ?_
      refine t_seq ?_
      refine t_reg ?_
      refine to_as rfl rfl ?_
      refine to_nil ?_
      refine tn_code ?_
      refine t_seq ?_
      refine t_seq ?_
      refine t_reg ?_
      refine to_mv rfl rfl ?_
      first | refine to_ix rfl rfl rfl (by first | omega | decide) (by first | omega | decide) rfl ?_ | refine to_ixi rfl rfl rfl (by omega) (by omega) (by omega) rfl ?_
      first | refine to_fa rfl rfl rfl (by simp only [Nat.reduceAdd]; rfl) rfl ?_ | refine to_fae rfl rfl rfl (by simp only [Nat.reduceAdd]; rfl) rfl ?_
      first | refine to_lds rfl rfl rfl ?_ | refine to_ldes rfl (by assumption) rfl rfl ?_
      refine to_eql rfl rfl rfl ?_
      refine to_fix (s := 156) (b' := false) rfl (rfl) ?_
      refine to_nil ?_
      refine tn_code ?_
      refine t_ifF rfl ?_
      refine t_skip ?_
      refine tn_code ?_
      refine t_seq ?_
      refine t_reg ?_
      refine to_mv rfl rfl ?_
      refine to_lenS rfl rfl ?_
      refine to_eql rfl rfl rfl ?_
      refine to_fix (s := 159) (b' := true) rfl (rfl) ?_
      refine to_mv rfl rfl ?_
      refine to_gt rfl rfl ?_
      refine to_mv rfl rfl ?_
      refine to_gt rfl rfl ?_
      first | refine to_ix rfl rfl rfl (by first | omega | decide) (by first | omega | decide) rfl ?_ | refine to_ixi rfl rfl rfl (by omega) (by omega) (by omega) rfl ?_
      refine to_gt rfl rfl ?_
      first | refine to_fa rfl rfl rfl (by simp only [Nat.reduceAdd]; rfl) rfl ?_ | refine to_fae rfl rfl rfl (by simp only [Nat.reduceAdd]; rfl) rfl ?_
      refine to_gt rfl rfl ?_
      first | refine to_lds rfl rfl rfl ?_ | refine to_ldes rfl (by assumption) rfl rfl ?_
      refine to_gt rfl rfl ?_
      refine to_leq rfl rfl rfl ?_
      refine to_fix (s := 165) (b' := true) rfl (rfl) ?_
      refine to_pkT rfl rfl rfl ?_
      refine to_mv rfl rfl ?_
      refine to_gt rfl rfl ?_
      refine to_mv rfl rfl ?_
      refine to_gt rfl rfl ?_
      refine to_mv rfl rfl ?_
      refine to_gt rfl rfl ?_
      refine to_eql rfl rfl rfl ?_
      refine to_fix (s := 170) (b' := true) rfl (decide_eq_true (by omega)) ?_
      refine to_pkT rfl rfl rfl ?_
      refine to_mv rfl rfl ?_
      refine to_gt rfl rfl ?_
      refine to_call0 rfl rfl (fun w s => top_known w) rfl ?_
      refine to_pkT rfl rfl rfl ?_
      refine to_as rfl rfl ?_
      refine to_nil ?_
      refine tn_code ?_
      refine t_ret1 rfl rfl (res_tmp rfl) (fun w' s => ?_)
      rfl

end Go.Proofs


namespace Go.Proofs
open Go Go.Sx Go.RowKit

set_option maxRecDepth 20000 in
theorem top_bad (cs : List Cp) (ca : Option Addr) (cc : Nat) (st : List Li) (sa : Option Addr) (sc : Nat) (i pn : Nat) (x : Cp) (a0 a1 a2 b0 b1 b2 : Int) (aa ab : Option Addr) (ac bc : Nat) (w : World) (hct : Ro w 0 w.heap.size ca cs.length cc 2 (cs.map cpC)) (hcs : ∀ x ∈ cs, 0 < x.s.length → Ro w 0 w.heap.size x.a x.s.length x.c 1 (ints x.s)) (hst : Ro w 0 w.heap.size sa st.length sc 1 (st.map liC)) (hss : ∀ x ∈ st, 0 < x.xs.length → Ro w 0 w.heap.size x.a x.xs.length x.c 1 (ints x.xs)) (h1 : ¬ 10 < cs.length) (h2 : ¬ 10 < st.length) (hT : isTr 3 cs = true) (hS : isSt 3 cs st = true) (hxl : ∀ x ∈ cs, x.s.length ≤ 1000000) (hi : 0 < i) (hil : i < cs.length) (hsl : st.length = cs.length) (hx : cs[i]? = some x) (hxp : x.p = (pn : Int)) (hpn : pn < i) (hlA : st[pn]? = some ⟨[a0, a1, a2], aa, ac⟩) (hlB : st[i]? = some ⟨[b0, b1, b2], ab, bc⟩) (ha0 : 0 ≤ a0 ∧ a0 ≤ 9) (ha1 : 0 ≤ a1 ∧ a1 ≤ 9) (ha2 : 0 ≤ a2 ∧ a2 ≤ 9) (hb0 : 0 ≤ b0 ∧ b0 ≤ 9) (hb1 : 0 ≤ b1 ∧ b1 ≤ 9) (hb2 : 0 ≤ b2 ∧ b2 ≤ 9) (he : ¬ (100 * b0 + 10 * b1 + b2) = (100 * a0 + 10 * a1 + a2)) (hk : kindF (100 * a0 + 10 * a1 + a2) (100 * b0 + 10 * b1 + b2) = 0) : Calls Tryz.prog 3 #[trV 3 cs ca cc, .slice sa st.length sc, .int .i64 (i : Int)] w (RetV w (.bool true)) := by
  have hC : inB (i : Int) 0 (cs.length - 1) = true := inB_iff.2 (by omega)
  have hxc : (cs.map cpC)[i]? = some [.int .i64 (pn : Int), .slice x.a x.s.length x.c] := by rw [← hxp]; exact map_get (f := cpC) hx
  have hlAc : (st.map liC)[pn]? = some [.slice aa 3 ac] := map_get (f := liC) hlA
  have hlBc : (st.map liC)[i]? = some [.slice ab 3 bc] := map_get (f := liC) hlB
  have hrA : Ro w 0 w.heap.size aa 3 ac 1 (ints [a0, a1, a2]) := hss _ (List.mem_of_getElem? hlA) (by simp)
  have hrB : Ro w 0 w.heap.size ab 3 bc 1 (ints [b0, b1, b2]) := hss _ (List.mem_of_getElem? hlB) (by simp)
  have eA0 : (ints [a0, a1, a2])[0]? = some [.int .i64 a0] := rfl
  have eA1 : (ints [a0, a1, a2])[1]? = some [.int .i64 a1] := rfl
  have eA2 : (ints [a0, a1, a2])[2]? = some [.int .i64 a2] := rfl
  have eB0 : (ints [b0, b1, b2])[0]? = some [.int .i64 b0] := rfl
  have eB1 : (ints [b0, b1, b2])[1]? = some [.int .i64 b1] := rfl
  have eB2 : (ints [b0, b1, b2])[2]? = some [.int .i64 b2] := rfl
  have hEl := erA_len cs st 3 st.length
  have hcnt := cnt_main hi (by omega) hx hxp hlA hlB
  have hd := lw_bad ha0 ha1 ha2 hb0 hb1 hb2 he
  refine calls_T0 (av := [_, _, _]) Tryz.func3 rfl rfl rfl ?_
  refine t_seq ?_
  refine t_reg ?_
  refine to_box rfl rfl (fun b3 => ?_)
  refine to_as rfl rfl ?_
  refine to_nil ?_
  refine tn_code ?_
  refine t_seq ?_
  refine t_seq ?_
  refine t_reg ?_
  first | refine to_fa rfl rfl rfl (by simp only [Nat.reduceAdd]; rfl) rfl ?_ | refine to_fae rfl rfl rfl (by simp only [Nat.reduceAdd]; rfl) rfl ?_
  first | refine to_lds rfl rfl rfl ?_ | refine to_ldes rfl (by assumption) rfl rfl ?_
  refine to_lenS rfl rfl ?_
  refine to_gtr rfl rfl rfl ?_
  refine to_fix (s := 19) (b' := false) rfl (decide_eq_false (by omega)) ?_
  refine to_mv rfl rfl ?_
  refine to_gt rfl rfl ?_
  refine to_mv rfl rfl ?_
  refine to_gt rfl rfl ?_
  refine to_lenS rfl rfl ?_
  refine to_gt rfl rfl ?_
  refine to_gtr rfl rfl rfl ?_
  refine to_fix (s := 23) (b' := false) rfl (decide_eq_false (by omega)) ?_
  refine to_pkF rfl rfl rfl ?_
  refine to_mv rfl rfl ?_
  refine to_gt rfl rfl ?_
  first | refine to_lda rfl rfl rfl ?_ | refine to_ldea rfl (by assumption) rfl rfl ?_
  refine to_gt rfl rfl ?_
  refine to_call0 rfl rfl (fun w s => s7_Tree 3 cs ca cc w (rdw s) (fun x hx h0 => by haveI := hcs x hx h0; exact rdw s) (by omega)) rfl ?_
  refine to_fix (s := 27) (b' := true) rfl (hT) ?_
  refine to_gt rfl rfl ?_
  refine to_not rfl rfl ?_
  refine to_pkF rfl rfl rfl ?_
  refine to_mv rfl rfl ?_
  refine to_gt rfl rfl ?_
  first | refine to_fa rfl rfl rfl (by simp only [Nat.reduceAdd]; rfl) rfl ?_ | refine to_fae rfl rfl rfl (by simp only [Nat.reduceAdd]; rfl) rfl ?_
  refine to_gt rfl rfl ?_
  first | refine to_lds rfl rfl rfl ?_ | refine to_ldes rfl (by assumption) rfl rfl ?_
  refine to_gt rfl rfl ?_
  refine to_neq rfl rfl rfl ?_
  refine to_fix (s := 33) (b' := false) rfl (decide_eq_false (by omega)) ?_
  refine to_pkF rfl rfl rfl ?_
  refine to_mv rfl rfl ?_
  refine to_gt rfl rfl ?_
  first | refine to_lda rfl rfl rfl ?_ | refine to_ldea rfl (by assumption) rfl rfl ?_
  refine to_gt rfl rfl ?_
  refine to_mv rfl rfl ?_
  refine to_gt rfl rfl ?_
  refine to_call0 rfl rfl (fun w s => s7_Copy 3 cs ca cc _ w (by omega)) rfl ?_
  refine to_fix (s := 38) (b' := true) rfl (hC) ?_
  refine to_gt rfl rfl ?_
  refine to_not rfl rfl ?_
  refine to_pkF rfl rfl rfl ?_
  refine to_mv rfl rfl ?_
  refine to_gt rfl rfl ?_
  refine to_mv rfl rfl ?_
  refine to_gt rfl rfl ?_
  refine to_eql rfl rfl rfl ?_
  refine to_fix (s := 43) (b' := false) rfl (decide_eq_false (by omega)) ?_
  refine to_pkF rfl rfl rfl ?_
  refine to_mv rfl rfl ?_
  refine to_gt rfl rfl ?_
  first | refine to_lda rfl rfl rfl ?_ | refine to_ldea rfl (by assumption) rfl rfl ?_
  refine to_gt rfl rfl ?_
  refine to_mv rfl rfl ?_
  refine to_gt rfl rfl ?_
  refine to_call0 rfl rfl (fun w s => s7_Story 3 cs ca cc st sa sc w (rdw s) (fun x hx h0 => by haveI := hcs x hx h0; exact rdw s) (by omega) (rdw s) (fun x hx h0 => by haveI := hss x hx h0; exact rdw s) (by omega) hT) rfl ?_
  refine to_fix (s := 48) (b' := true) rfl (hS) ?_
  refine to_gt rfl rfl ?_
  refine to_not rfl rfl ?_
  refine to_pkF rfl rfl rfl ?_
  refine to_nil ?_
  refine tn_code ?_
  refine t_ifF rfl ?_
  refine t_skip ?_
  refine tn_code ?_
  refine t_seq ?_
  refine t_regD rfl (by kernel_rfl) (by kernel_rfl) ?_
  refine to_mv rfl rfl ?_
  first | refine to_fa rfl rfl rfl (by simp only [Nat.reduceAdd]; rfl) rfl ?_ | refine to_fae rfl rfl rfl (by simp only [Nat.reduceAdd]; rfl) rfl ?_
  first | refine to_lds rfl rfl rfl ?_ | refine to_ldes rfl (by assumption) rfl rfl ?_
  refine to_mv rfl rfl ?_
  first | refine to_ix rfl rfl rfl (by first | omega | decide) (by first | omega | decide) rfl ?_ | refine to_ixi rfl rfl rfl (by omega) (by omega) (by omega) rfl ?_
  first | refine to_fa rfl rfl rfl (by simp only [Nat.reduceAdd]; rfl) rfl ?_ | refine to_fae rfl rfl rfl (by simp only [Nat.reduceAdd]; rfl) rfl ?_
  first | refine to_lds rfl rfl rfl ?_ | refine to_ldes rfl (by assumption) rfl rfl ?_
  first | refine to_ix rfl rfl rfl (by first | omega | decide) (by first | omega | decide) rfl ?_ | refine to_ixi rfl rfl rfl (by omega) (by omega) (by omega) rfl ?_
  first | refine to_lds rfl rfl rfl ?_ | refine to_ldes rfl (by assumption) rfl rfl ?_
  refine to_mv rfl rfl ?_
  refine to_mv rfl rfl ?_
  first | refine to_ix rfl rfl rfl (by first | omega | decide) (by first | omega | decide) rfl ?_ | refine to_ixi rfl rfl rfl (by omega) (by omega) (by omega) rfl ?_
  first | refine to_lds rfl rfl rfl ?_ | refine to_ldes rfl (by assumption) rfl rfl ?_
  refine to_as rfl rfl ?_
  refine to_as rfl rfl ?_
  refine to_nil ?_
  refine tn_code ?_
  refine t_seq ?_
  refine t_reg ?_
  first | refine to_lda rfl rfl rfl ?_ | refine to_ldea rfl (by assumption) rfl rfl ?_
  refine to_mv rfl rfl ?_
  refine to_callR rfl rfl (fun w s => cp_Errors 3 cs ca cc st sa sc 3 w (rdw s) (fun x hx h0 => by haveI := hcs x hx h0; exact rdw s) (by omega) (rdw s) (fun x hx h0 => by haveI := hss x hx h0; exact rdw s) (by omega) hT hS rfl hxl) rfl (fun v68 lo68 w68 hlo68 hR68 => ?_)
  obtain ⟨a1x, c1x, rfl, hrl⟩ := hR68
  refine to_mv rfl rfl ?_
  refine to_ex rfl rfl rfl ?_
  refine to_ex rfl rfl rfl ?_
  refine to_as rfl rfl ?_
  refine to_as rfl rfl ?_
  refine to_nil ?_
  refine tn_code ?_
  refine t_seq ?_
  refine t_regA [13, 27, 28] 28 [.snap 0 w.heap.size w] [.snap 0 w.heap.size w] 34 rfl rfl (by kernel_rfl) (by kernel_rfl) (by kernel_rfl) ?_
  refine ta_q2 ?e1 (k := 0) (by kernel_rfl) rfl ?q1 ?r1
  case q1 =>
    refine to_mv rfl rfl ?_
    exact tpq_end
  refine ta_q1 ?e2 (k := 1) [2, 3, 8, 12, 13, 28] (by kernel_rfl) rfl rfl ?q2 ?r2
  case q2 =>
    first | refine to_ix rfl rfl rfl (by first | omega | decide) (by first | omega | decide) rfl ?_ | refine to_ixi rfl rfl rfl (by omega) (by omega) (by omega) rfl ?_
    exact tpq_end
  refine ta_q1 ?e3 (k := 2) [3, 8, 12, 13, 28] (by kernel_rfl) rfl rfl ?q3 ?r3
  case q3 =>
    first | refine to_lds rfl rfl rfl ?_ | refine to_ldes rfl (by assumption) rfl rfl ?_
    exact tpq_end
  refine ta_q2 ?e4 (k := 3) (by kernel_rfl) rfl ?q4 ?r4
  case q4 =>
    refine to_mul rfl rfl (by first | omega | exact mul_ok (by omega) (by omega) (by omega) (by omega)) rfl ?_
    exact tpq_end
  refine ta_q2 ?e5 (k := 4) (by kernel_rfl) rfl ?q5 ?r5
  case q5 =>
    refine to_mv rfl rfl ?_
    exact tpq_end
  refine ta_q1 ?e6 (k := 5) [6, 7, 8, 12, 13, 28] (by kernel_rfl) rfl rfl ?q6 ?r6
  case q6 =>
    first | refine to_ix rfl rfl rfl (by first | omega | decide) (by first | omega | decide) rfl ?_ | refine to_ixi rfl rfl rfl (by omega) (by omega) (by omega) rfl ?_
    exact tpq_end
  refine ta_q1 ?e7 (k := 6) [7, 8, 12, 13, 28] (by kernel_rfl) rfl rfl ?q7 ?r7
  case q7 =>
    first | refine to_lds rfl rfl rfl ?_ | refine to_ldes rfl (by assumption) rfl rfl ?_
    exact tpq_end
  refine ta_q2 ?e8 (k := 7) (by kernel_rfl) rfl ?q8 ?r8
  case q8 =>
    refine to_mul rfl rfl (by first | omega | exact mul_ok (by omega) (by omega) (by omega) (by omega)) rfl ?_
    exact tpq_end
  refine ta_q2 ?e9 (k := 8) (by kernel_rfl) rfl ?q9 ?r9
  case q9 =>
    refine to_add rfl rfl (by omega) rfl ?_
    exact tpq_end
  refine ta_q2 ?e10 (k := 9) (by kernel_rfl) rfl ?q10 ?r10
  case q10 =>
    refine to_mv rfl rfl ?_
    exact tpq_end
  refine ta_q1 ?e11 (k := 10) [11, 12, 13, 28] (by kernel_rfl) rfl rfl ?q11 ?r11
  case q11 =>
    first | refine to_ix rfl rfl rfl (by first | omega | decide) (by first | omega | decide) rfl ?_ | refine to_ixi rfl rfl rfl (by omega) (by omega) (by omega) rfl ?_
    exact tpq_end
  refine ta_q1 ?e12 (k := 11) [12, 13, 28] (by kernel_rfl) rfl rfl ?q12 ?r12
  case q12 =>
    first | refine to_lds rfl rfl rfl ?_ | refine to_ldes rfl (by assumption) rfl rfl ?_
    exact tpq_end
  refine ta_q2 ?e13 (k := 12) (by kernel_rfl) rfl ?q13 ?r13
  case q13 =>
    refine to_add rfl rfl (by omega) rfl ?_
    exact tpq_end
  refine ta_q2 ?e14 (k := 14) (by kernel_rfl) rfl ?q14 ?r14
  case q14 =>
    refine to_mv rfl rfl ?_
    exact tpq_end
  refine ta_q1 ?e15 (k := 15) [16, 17, 22, 26, 27, 28] (by kernel_rfl) rfl rfl ?q15 ?r15
  case q15 =>
    first | refine to_ix rfl rfl rfl (by first | omega | decide) (by first | omega | decide) rfl ?_ | refine to_ixi rfl rfl rfl (by omega) (by omega) (by omega) rfl ?_
    exact tpq_end
  refine ta_q1 ?e16 (k := 16) [17, 22, 26, 27, 28] (by kernel_rfl) rfl rfl ?q16 ?r16
  case q16 =>
    first | refine to_lds rfl rfl rfl ?_ | refine to_ldes rfl (by assumption) rfl rfl ?_
    exact tpq_end
  refine ta_q2 ?e17 (k := 17) (by kernel_rfl) rfl ?q17 ?r17
  case q17 =>
    refine to_mul rfl rfl (by first | omega | exact mul_ok (by omega) (by omega) (by omega) (by omega)) rfl ?_
    exact tpq_end
  refine ta_q2 ?e18 (k := 18) (by kernel_rfl) rfl ?q18 ?r18
  case q18 =>
    refine to_mv rfl rfl ?_
    exact tpq_end
  refine ta_q1 ?e19 (k := 19) [20, 21, 22, 26, 27, 28] (by kernel_rfl) rfl rfl ?q19 ?r19
  case q19 =>
    first | refine to_ix rfl rfl rfl (by first | omega | decide) (by first | omega | decide) rfl ?_ | refine to_ixi rfl rfl rfl (by omega) (by omega) (by omega) rfl ?_
    exact tpq_end
  refine ta_q1 ?e20 (k := 20) [21, 22, 26, 27, 28] (by kernel_rfl) rfl rfl ?q20 ?r20
  case q20 =>
    first | refine to_lds rfl rfl rfl ?_ | refine to_ldes rfl (by assumption) rfl rfl ?_
    exact tpq_end
  refine ta_q2 ?e21 (k := 21) (by kernel_rfl) rfl ?q21 ?r21
  case q21 =>
    refine to_mul rfl rfl (by first | omega | exact mul_ok (by omega) (by omega) (by omega) (by omega)) rfl ?_
    exact tpq_end
  refine ta_q2 ?e22 (k := 22) (by kernel_rfl) rfl ?q22 ?r22
  case q22 =>
    refine to_add rfl rfl (by omega) rfl ?_
    exact tpq_end
  refine ta_q2 ?e23 (k := 23) (by kernel_rfl) rfl ?q23 ?r23
  case q23 =>
    refine to_mv rfl rfl ?_
    exact tpq_end
  refine ta_q1 ?e24 (k := 24) [25, 26, 27, 28] (by kernel_rfl) rfl rfl ?q24 ?r24
  case q24 =>
    first | refine to_ix rfl rfl rfl (by first | omega | decide) (by first | omega | decide) rfl ?_ | refine to_ixi rfl rfl rfl (by omega) (by omega) (by omega) rfl ?_
    exact tpq_end
  refine ta_q1 ?e25 (k := 25) [26, 27, 28] (by kernel_rfl) rfl rfl ?q25 ?r25
  case q25 =>
    first | refine to_lds rfl rfl rfl ?_ | refine to_ldes rfl (by assumption) rfl rfl ?_
    exact tpq_end
  refine ta_q2 ?e26 (k := 26) (by kernel_rfl) rfl ?q26 ?r26
  case q26 =>
    refine to_add rfl rfl (by omega) rfl ?_
    exact tpq_end
  refine ta_fork [13, 27] (by kernel_rfl) rfl ?_
  refine ⟨⟨_, rfl, wanted_none rfl, ?_⟩, ⟨_, rfl, wanted_none rfl, ?_⟩, trivial⟩
  · skip
    refine to_bsl rfl rfl rfl rfl (fun a85 => ?_)
    refine ta_se1 rfl ?_
    refine ta_fork [27] (by kernel_rfl) rfl ?_
    refine ⟨⟨_, rfl, wanted_none rfl, ?_⟩, trivial⟩
    refine to_bsl rfl rfl rfl rfl (fun a99 => ?_)
    refine ta_se1 rfl ?_
    refine ta_fork [28] (by kernel_rfl) rfl ?_
    refine ⟨⟨_, rfl, wanted_none rfl, ?_⟩, trivial⟩
    refine to_callR rfl rfl (fun w s => hn_Errors (100 * a0 + 10 * a1 + a2) (100 * b0 + 10 * b1 + b2) _ _ _ _ w (by omega) (by omega) (rdw s) (rdw s)) rfl (fun v100 lo100 w100 hlo100 hR100 => ?_)
    obtain hE := hR100
    obtain rfl := hErr_b hR100 he hk
    refine ta_se2 (by kernel_rfl) rfl ?_
    refine ta_q2 ?e27 (k := 29) (by kernel_rfl) rfl ?q27 ?r27
    case q27 =>
      refine to_mv rfl rfl ?_
      exact tpq_end
    refine ta_q2 ?e28 (k := 30) (by kernel_rfl) rfl ?q28 ?r28
    case q28 =>
      refine to_ex rfl rfl rfl ?_
      exact tpq_end
    refine ta_q2 ?e29 (k := 31) (by kernel_rfl) rfl ?q29 ?r29
    case q29 =>
      refine to_ex rfl rfl rfl ?_
      exact tpq_end
    refine ta_q2 ?e30 (k := 32) (by kernel_rfl) rfl ?q30 ?r30
    case q30 =>
      refine to_as rfl rfl ?_
      exact tpq_end
    refine ta_q2 ?e31 (k := 33) (by kernel_rfl) rfl ?q31 ?r31
    case q31 =>
      refine to_as rfl rfl ?_
      exact tpq_end
    refine ta_nil (by kernel_rfl) ?_
    refine tn_code ?_
    refine t_seq ?_
    refine t_seq ?_
    refine t_reg ?_
    refine to_mv rfl rfl ?_
    refine to_neq rfl rfl rfl ?_
    refine to_fix (s := 104) (b' := false) rfl (rfl) ?_
    refine to_mv rfl rfl ?_
    refine to_gt rfl rfl ?_
    refine to_mv rfl rfl ?_
    refine to_gt rfl rfl ?_
    refine to_neq rfl rfl rfl ?_
    refine to_fix (s := 107) (b' := true) rfl (rfl) ?_
    refine to_gt rfl rfl ?_
    refine to_mv rfl rfl ?_
    refine to_gt rfl rfl ?_
    refine to_mv rfl rfl ?_
    refine to_gt rfl rfl ?_
    refine to_neq rfl rfl rfl ?_
    refine to_fix (s := 110) (b' := false) rfl (rfl) ?_
    refine to_gt rfl rfl ?_
    refine to_pkT rfl rfl rfl ?_
    refine to_pkF rfl rfl rfl ?_
    refine to_mv rfl rfl ?_
    refine to_gt rfl rfl ?_
    refine to_mv rfl rfl ?_
    refine to_gt rfl rfl ?_
    refine to_lenS rfl rfl ?_
    refine to_gt rfl rfl ?_
    first | refine to_fa rfl rfl rfl (by simp only [Nat.reduceAdd]; rfl) rfl ?_ | refine to_fae rfl rfl rfl (by simp only [Nat.reduceAdd]; rfl) rfl ?_
    refine to_gt rfl rfl ?_
    first | refine to_lds rfl rfl rfl ?_ | refine to_ldes rfl (by assumption) rfl rfl ?_
    refine to_gt rfl rfl ?_
    refine to_lenS rfl rfl ?_
    refine to_gt rfl rfl ?_
    refine to_mul rfl rfl (by first | omega | exact mul_ok (by omega) (by omega) (by omega) (by omega)) rfl ?_
    refine to_gt rfl rfl ?_
    refine to_gtr rfl rfl rfl ?_
    refine to_fix (s := 120) (b' := false) rfl (decide_eq_false (by omega)) ?_
    refine to_pkF rfl rfl rfl ?_
    refine to_nil ?_
    refine tn_code ?_
    refine t_ifF rfl ?_
    refine t_skip ?_
    refine tn_code ?_
    refine t_seq ?_
    refine t_reg ?_
    refine to_as rfl rfl ?_
    refine to_nil ?_
    refine tn_code ?_
    refine t_seq ?_
    refine t_seq ?_
    refine t_reg ?_
    refine to_as rfl rfl ?_
    refine to_nil ?_
    refine tn_code ?_
    refine t_blk ?_
    refine t_loop2 (ι := Nat) (fun k => k ≤ (erA cs st 3 st.length).length) (fun k => [(2, (.int .i64 (i : Int))), (9, .slice a1x (erA cs st 3 st.length).length c1x), (11, .slice none 0 0), (12, (.int .i64 5)), (13, (.int .i64 (cntK (erA cs st 3 st.length) i k : Int))), (14, (.int .i64 (k : Int)))]) (fun k => [.snap lo100 w100.heap.size w100, .snap lo68 w68.heap.size w68, .snap 0 w.heap.size w]) (fun k => (erA cs st 3 st.length).length - k) (0) [.snap lo100 w100.heap.size w100, .snap lo68 w68.heap.size w68, .snap 0 w.heap.size w] (rfl) (Nat.zero_le _) (⟨rfl, rfl, rfl, rfl, rfl, rfl, trivial⟩) ?_
    rintro k hk
    show T _ _ _ ⟨_, [(2, (.int .i64 (i : Int))), (9, .slice a1x (erA cs st 3 st.length).length c1x), (11, .slice none 0 0), (12, (.int .i64 5)), (13, (.int .i64 (cntK (erA cs st 3 st.length) i k : Int))), (14, (.int .i64 (k : Int)))], _⟩ [.snap lo100 w100.heap.size w100, .snap lo68 w68.heap.size w68, .snap 0 w.heap.size w]
    refine t_seq ?_
    refine t_seq ?_
    refine t_reg ?_
    refine to_mv rfl rfl ?_
    refine to_mv rfl rfl ?_
    refine to_lenS rfl rfl ?_
    refine to_lss rfl rfl rfl ?_
    refine to_nil ?_
    refine tn_code ?_
    refine t_if rfl (fun h1 => ?_) (fun h1 => ?_)
    · try simp only [decide_eq_true_eq, decide_eq_false_iff_not, Bool.not_eq_true', Bool.not_eq_false', Int.not_lt, Int.not_le, ne_eq, Decidable.not_not] at h1
      try have h1b := inB_iff.1 h1
      obtain ⟨v, hv⟩ := some_get (xs := (erA cs st 3 st.length)) (k := k) (by omega)
      have hxv := map_get (f := spanC) hv
      have hck := cntK_le (erA cs st 3 st.length) i k
      refine t_skip ?_
      refine tn_code ?_
      refine t_seq ?_
      refine t_blk ?_
      refine t_seq ?_
      refine t_reg ?_
      refine to_mv rfl rfl ?_
      refine to_mv rfl rfl ?_
      first | refine to_ix rfl rfl rfl (by first | omega | decide) (by first | omega | decide) rfl ?_ | refine to_ixi rfl rfl rfl (by omega) (by omega) (by omega) rfl ?_
      first | refine to_fa rfl rfl rfl (by simp only [Nat.reduceAdd]; rfl) rfl ?_ | refine to_fae rfl rfl rfl (by simp only [Nat.reduceAdd]; rfl) rfl ?_
      first | refine to_lds rfl rfl rfl ?_ | refine to_ldes rfl (by assumption) rfl rfl ?_
      refine to_mv rfl rfl ?_
      refine to_eql rfl rfl rfl ?_
      refine to_nil ?_
      refine tn_code ?_
      refine t_if rfl (fun h2 => ?_) (fun h2 => ?_)
      · try simp only [decide_eq_true_eq, decide_eq_false_iff_not, Bool.not_eq_true', Bool.not_eq_false', Int.not_lt, Int.not_le, ne_eq, Decidable.not_not] at h2
        try have h2b := inB_iff.1 h2
        have hvi := h2
        refine t_reg ?_
        refine to_mv rfl rfl ?_
        refine to_add rfl rfl (by omega) rfl ?_
        refine to_as rfl rfl ?_
        refine to_nil ?_
        refine tn_blk ?_
        refine tn_code ?_
        refine t_reg ?_
        refine to_mv rfl rfl ?_
        refine to_add rfl rfl (by omega) rfl ?_
        refine to_as rfl rfl ?_
        refine to_nil ?_
        exact tn_loop2 (k + 1) [.snap lo100 w100.heap.size w100, .snap lo68 w68.heap.size w68, .snap 0 w.heap.size w] (rfl) (by omega) (by omega) (⟨rfl, rfl, rfl, rfl, congrArg (fun z : Nat => some (Value.int .i64 (z : Int))) (cntK_t hv hvi).symm, rfl, trivial⟩)
      · try simp only [decide_eq_true_eq, decide_eq_false_iff_not, Bool.not_eq_true', Bool.not_eq_false', Int.not_lt, Int.not_le, ne_eq, Decidable.not_not] at h2
        try have h2b := inB_iff.1 h2
        have hvi := h2
        refine t_skip ?_
        refine tn_blk ?_
        refine tn_code ?_
        refine t_reg ?_
        refine to_mv rfl rfl ?_
        refine to_add rfl rfl (by omega) rfl ?_
        refine to_as rfl rfl ?_
        refine to_nil ?_
        exact tn_loop2 (k + 1) [.snap lo100 w100.heap.size w100, .snap lo68 w68.heap.size w68, .snap 0 w.heap.size w] (rfl) (by omega) (by omega) (⟨rfl, rfl, rfl, rfl, congrArg (fun z : Nat => some (Value.int .i64 (z : Int))) (cntK_f hv hvi).symm, rfl, trivial⟩)
    · try simp only [decide_eq_true_eq, decide_eq_false_iff_not, Bool.not_eq_true', Bool.not_eq_false', Int.not_lt, Int.not_le, ne_eq, Decidable.not_not] at h1
      try have h1b := inB_iff.1 h1
      obtain rfl : k = (erA cs st 3 st.length).length := by omega
      refine t_exit ?_
      refine tx_code ?_
      refine tx_inv ?_
      refine tx_blk ?_
      refine tn_code ?_
      refine t_seq ?_
      refine t_seq ?_
      refine t_reg ?_
      refine to_mv rfl rfl ?_
      refine to_neq rfl rfl rfl ?_
      refine to_fix (s := 138) (b' := true) rfl (rfl) ?_
      refine to_nil ?_
      refine tn_code ?_
      refine t_ifT rfl ?_
      refine t_seq ?_
      refine t_reg ?_
      refine to_mv rfl rfl ?_
      refine to_gtr rfl rfl rfl ?_
      refine to_fix (s := 140) (b' := true) rfl (decide_eq_true (by omega)) ?_
      refine to_mv rfl rfl ?_
      refine to_gt rfl rfl ?_
      refine to_call0 rfl rfl (fun w s => top_known w) rfl ?_
      refine to_pkT rfl rfl rfl ?_
      refine to_as rfl rfl ?_
      refine to_nil ?_
      refine tn_code ?_
      refine t_ret1 rfl rfl (res_tmp rfl) (fun w' s => ?_)
      rfl
  · skip
    refine to_bsl rfl rfl rfl rfl (fun a99 => ?_)
    refine ta_se1 rfl ?_
    refine ta_fork [13] (by kernel_rfl) rfl ?_
    refine ⟨⟨_, rfl, wanted_none rfl, ?_⟩, trivial⟩
    refine to_bsl rfl rfl rfl rfl (fun a85 => ?_)
    refine ta_se1 rfl ?_
    refine ta_fork [28] (by kernel_rfl) rfl ?_
    refine ⟨⟨_, rfl, wanted_none rfl, ?_⟩, trivial⟩
    refine to_callR rfl rfl (fun w s => hn_Errors (100 * a0 + 10 * a1 + a2) (100 * b0 + 10 * b1 + b2) _ _ _ _ w (by omega) (by omega) (rdw s) (rdw s)) rfl (fun v100 lo100 w100 hlo100 hR100 => ?_)
    obtain hE := hR100
    obtain rfl := hErr_b hR100 he hk
    refine ta_se2 (by kernel_rfl) rfl ?_
    refine ta_q2 ?e32 (k := 29) (by kernel_rfl) rfl ?q32 ?r32
    case q32 =>
      refine to_mv rfl rfl ?_
      exact tpq_end
    refine ta_q2 ?e33 (k := 30) (by kernel_rfl) rfl ?q33 ?r33
    case q33 =>
      refine to_ex rfl rfl rfl ?_
      exact tpq_end
    refine ta_q2 ?e34 (k := 31) (by kernel_rfl) rfl ?q34 ?r34
    case q34 =>
      refine to_ex rfl rfl rfl ?_
      exact tpq_end
    refine ta_q2 ?e35 (k := 32) (by kernel_rfl) rfl ?q35 ?r35
    case q35 =>
      refine to_as rfl rfl ?_
      exact tpq_end
    refine ta_q2 ?e36 (k := 33) (by kernel_rfl) rfl ?q36 ?r36
    case q36 =>
      refine to_as rfl rfl ?_
      exact tpq_end
    refine ta_nil (by kernel_rfl) ?_
    refine tn_code ?_
    refine t_seq ?_
    refine t_seq ?_
    refine t_reg ?_
    refine to_mv rfl rfl ?_
    refine to_neq rfl rfl rfl ?_
    refine to_fix (s := 104) (b' := false) rfl (rfl) ?_
    refine to_mv rfl rfl ?_
    refine to_gt rfl rfl ?_
    refine to_mv rfl rfl ?_
    refine to_gt rfl rfl ?_
    refine to_neq rfl rfl rfl ?_
    refine to_fix (s := 107) (b' := true) rfl (rfl) ?_
    refine to_gt rfl rfl ?_
    refine to_mv rfl rfl ?_
    refine to_gt rfl rfl ?_
    refine to_mv rfl rfl ?_
    refine to_gt rfl rfl ?_
    refine to_neq rfl rfl rfl ?_
    refine to_fix (s := 110) (b' := false) rfl (rfl) ?_
    refine to_gt rfl rfl ?_
    refine to_pkT rfl rfl rfl ?_
    refine to_pkF rfl rfl rfl ?_
    refine to_mv rfl rfl ?_
    refine to_gt rfl rfl ?_
    refine to_mv rfl rfl ?_
    refine to_gt rfl rfl ?_
    refine to_lenS rfl rfl ?_
    refine to_gt rfl rfl ?_
    first | refine to_fa rfl rfl rfl (by simp only [Nat.reduceAdd]; rfl) rfl ?_ | refine to_fae rfl rfl rfl (by simp only [Nat.reduceAdd]; rfl) rfl ?_
    refine to_gt rfl rfl ?_
    first | refine to_lds rfl rfl rfl ?_ | refine to_ldes rfl (by assumption) rfl rfl ?_
    refine to_gt rfl rfl ?_
    refine to_lenS rfl rfl ?_
    refine to_gt rfl rfl ?_
    refine to_mul rfl rfl (by first | omega | exact mul_ok (by omega) (by omega) (by omega) (by omega)) rfl ?_
    refine to_gt rfl rfl ?_
    refine to_gtr rfl rfl rfl ?_
    refine to_fix (s := 120) (b' := false) rfl (decide_eq_false (by omega)) ?_
    refine to_pkF rfl rfl rfl ?_
    refine to_nil ?_
    refine tn_code ?_
    refine t_ifF rfl ?_
    refine t_skip ?_
    refine tn_code ?_
    refine t_seq ?_
    refine t_reg ?_
    refine to_as rfl rfl ?_
    refine to_nil ?_
    refine tn_code ?_
    refine t_seq ?_
    refine t_seq ?_
    refine t_reg ?_
    refine to_as rfl rfl ?_
    refine to_nil ?_
    refine tn_code ?_
    refine t_blk ?_
    refine t_loop2 (ι := Nat) (fun k => k ≤ (erA cs st 3 st.length).length) (fun k => [(2, (.int .i64 (i : Int))), (9, .slice a1x (erA cs st 3 st.length).length c1x), (11, .slice none 0 0), (12, (.int .i64 5)), (13, (.int .i64 (cntK (erA cs st 3 st.length) i k : Int))), (14, (.int .i64 (k : Int)))]) (fun k => [.snap lo100 w100.heap.size w100, .snap lo68 w68.heap.size w68, .snap 0 w.heap.size w]) (fun k => (erA cs st 3 st.length).length - k) (0) [.snap lo100 w100.heap.size w100, .snap lo68 w68.heap.size w68, .snap 0 w.heap.size w] (rfl) (Nat.zero_le _) (⟨rfl, rfl, rfl, rfl, rfl, rfl, trivial⟩) ?_
    rintro k hk
    show T _ _ _ ⟨_, [(2, (.int .i64 (i : Int))), (9, .slice a1x (erA cs st 3 st.length).length c1x), (11, .slice none 0 0), (12, (.int .i64 5)), (13, (.int .i64 (cntK (erA cs st 3 st.length) i k : Int))), (14, (.int .i64 (k : Int)))], _⟩ [.snap lo100 w100.heap.size w100, .snap lo68 w68.heap.size w68, .snap 0 w.heap.size w]
    refine t_seq ?_
    refine t_seq ?_
    refine t_reg ?_
    refine to_mv rfl rfl ?_
    refine to_mv rfl rfl ?_
    refine to_lenS rfl rfl ?_
    refine to_lss rfl rfl rfl ?_
    refine to_nil ?_
    refine tn_code ?_
    refine t_if rfl (fun h3 => ?_) (fun h3 => ?_)
    · try simp only [decide_eq_true_eq, decide_eq_false_iff_not, Bool.not_eq_true', Bool.not_eq_false', Int.not_lt, Int.not_le, ne_eq, Decidable.not_not] at h3
      try have h3b := inB_iff.1 h3
      obtain ⟨v, hv⟩ := some_get (xs := (erA cs st 3 st.length)) (k := k) (by omega)
      have hxv := map_get (f := spanC) hv
      have hck := cntK_le (erA cs st 3 st.length) i k
      refine t_skip ?_
      refine tn_code ?_
      refine t_seq ?_
      refine t_blk ?_
      refine t_seq ?_
      refine t_reg ?_
      refine to_mv rfl rfl ?_
      refine to_mv rfl rfl ?_
      first | refine to_ix rfl rfl rfl (by first | omega | decide) (by first | omega | decide) rfl ?_ | refine to_ixi rfl rfl rfl (by omega) (by omega) (by omega) rfl ?_
      first | refine to_fa rfl rfl rfl (by simp only [Nat.reduceAdd]; rfl) rfl ?_ | refine to_fae rfl rfl rfl (by simp only [Nat.reduceAdd]; rfl) rfl ?_
      first | refine to_lds rfl rfl rfl ?_ | refine to_ldes rfl (by assumption) rfl rfl ?_
      refine to_mv rfl rfl ?_
      refine to_eql rfl rfl rfl ?_
      refine to_nil ?_
      refine tn_code ?_
      refine t_if rfl (fun h4 => ?_) (fun h4 => ?_)
      · try simp only [decide_eq_true_eq, decide_eq_false_iff_not, Bool.not_eq_true', Bool.not_eq_false', Int.not_lt, Int.not_le, ne_eq, Decidable.not_not] at h4
        try have h4b := inB_iff.1 h4
        have hvi := h4
        refine t_reg ?_
        refine to_mv rfl rfl ?_
        refine to_add rfl rfl (by omega) rfl ?_
        refine to_as rfl rfl ?_
        refine to_nil ?_
        refine tn_blk ?_
        refine tn_code ?_
        refine t_reg ?_
        refine to_mv rfl rfl ?_
        refine to_add rfl rfl (by omega) rfl ?_
        refine to_as rfl rfl ?_
        refine to_nil ?_
        exact tn_loop2 (k + 1) [.snap lo100 w100.heap.size w100, .snap lo68 w68.heap.size w68, .snap 0 w.heap.size w] (rfl) (by omega) (by omega) (⟨rfl, rfl, rfl, rfl, congrArg (fun z : Nat => some (Value.int .i64 (z : Int))) (cntK_t hv hvi).symm, rfl, trivial⟩)
      · try simp only [decide_eq_true_eq, decide_eq_false_iff_not, Bool.not_eq_true', Bool.not_eq_false', Int.not_lt, Int.not_le, ne_eq, Decidable.not_not] at h4
        try have h4b := inB_iff.1 h4
        have hvi := h4
        refine t_skip ?_
        refine tn_blk ?_
        refine tn_code ?_
        refine t_reg ?_
        refine to_mv rfl rfl ?_
        refine to_add rfl rfl (by omega) rfl ?_
        refine to_as rfl rfl ?_
        refine to_nil ?_
        exact tn_loop2 (k + 1) [.snap lo100 w100.heap.size w100, .snap lo68 w68.heap.size w68, .snap 0 w.heap.size w] (rfl) (by omega) (by omega) (⟨rfl, rfl, rfl, rfl, congrArg (fun z : Nat => some (Value.int .i64 (z : Int))) (cntK_f hv hvi).symm, rfl, trivial⟩)
    · try simp only [decide_eq_true_eq, decide_eq_false_iff_not, Bool.not_eq_true', Bool.not_eq_false', Int.not_lt, Int.not_le, ne_eq, Decidable.not_not] at h3
      try have h3b := inB_iff.1 h3
      obtain rfl : k = (erA cs st 3 st.length).length := by omega
      refine t_exit ?_
      refine tx_code ?_
      refine tx_inv ?_
      refine tx_blk ?_
      refine tn_code ?_
      refine t_seq ?_
      refine t_seq ?_
      refine t_reg ?_
      refine to_mv rfl rfl ?_
      refine to_neq rfl rfl rfl ?_
      refine to_fix (s := 138) (b' := true) rfl (rfl) ?_
      refine to_nil ?_
      refine tn_code ?_
      refine t_ifT rfl ?_
      refine t_seq ?_
      refine t_reg ?_
      refine to_mv rfl rfl ?_
      refine to_gtr rfl rfl rfl ?_
      refine to_fix (s := 140) (b' := true) rfl (decide_eq_true (by omega)) ?_
      refine to_mv rfl rfl ?_
      refine to_gt rfl rfl ?_
      refine to_call0 rfl rfl (fun w s => top_known w) rfl ?_
      refine to_pkT rfl rfl rfl ?_
      refine to_as rfl rfl ?_
      refine to_nil ?_
      refine tn_code ?_
      refine t_ret1 rfl rfl (res_tmp rfl) (fun w' s => ?_)
      rfl

end Go.Proofs


namespace Go.Proofs
open Go Go.Sx Go.RowKit
theorem three {xs : List Int} (h : (xs.length : Int) = 3) : ∃ a b c, xs = [a, b, c] := by
  obtain _ | ⟨a, _ | ⟨b, _ | ⟨c, _ | ⟨d, xs⟩⟩⟩⟩ := xs <;> simp at h <;> first | omega | exact ⟨a, b, c, rfl⟩
/-- The law is true, whatever its arguments hold. -/
theorem w_TopTurned (pl : Int) (cs : List Cp) (ca : Option Addr) (cc : Nat) (st : List Li) (sa : Option Addr) (sc : Nat) (fr : Int) (w : World) (hct : Ro w 0 w.heap.size ca cs.length cc 2 (cs.map cpC)) (hcs : ∀ x ∈ cs, 0 < x.s.length → Ro w 0 w.heap.size x.a x.s.length x.c 1 (ints x.s)) (hst : Ro w 0 w.heap.size sa st.length sc 1 (st.map liC)) (hss : ∀ x ∈ st, 0 < x.xs.length → Ro w 0 w.heap.size x.a x.xs.length x.c 1 (ints x.xs)) :
    Calls Tryz.prog 3 #[trV pl cs ca cc, .slice sa st.length sc, .int .i64 fr] w (RetV w (.bool true)) := by
  by_cases h1 : 10 < cs.length
  · exact top_c1 pl cs ca cc st sa sc fr w hct hcs hst hss h1
  by_cases h2 : 10 < st.length
  · exact top_c2 pl cs ca cc st sa sc fr w hct hcs hst hss h1 h2
  cases hT : isTr pl cs with
  | false => exact top_c3 pl cs ca cc st sa sc fr w hct hcs hst hss h1 h2 hT
  | true =>
  by_cases h4 : pl = 3
  case neg => exact top_c4 pl cs ca cc st sa sc fr w hct hcs hst hss h1 h2 hT h4
  cases hC : inB fr 0 (cs.length - 1) with
  | false => exact top_c5 pl cs ca cc st sa sc fr w hct hcs hst hss h1 h2 hT h4 hC
  | true =>
  by_cases h6 : fr = 0
  · exact top_c6 pl cs ca cc st sa sc fr w hct hcs hst hss h1 h2 hT h4 hC h6
  cases hS : isSt pl cs st with
  | false => exact top_c7 pl cs ca cc st sa sc fr w hct hcs hst hss h1 h2 hT h4 hC h6 hS
  | true =>
  subst h4
  have hcb := inB_iff.1 hC
  obtain ⟨_, _, hTc⟩ := isTr_b hT
  obtain ⟨hsl, hSc⟩ := isSt_b hS
  obtain ⟨i, rfl⟩ := Int.eq_ofNat_of_zero_le hcb.1
  obtain ⟨x, hx⟩ := some_get (xs := cs) (k := i) (by omega)
  have hxo := cpOk_b (hTc i x hx)
  obtain ⟨pn, hpn⟩ := Int.eq_ofNat_of_zero_le hxo.1.1
  have hpi : pn < i := by omega
  obtain ⟨lA, hlA⟩ := some_get (xs := st) (k := pn) (by omega)
  obtain ⟨lB, hlB⟩ := some_get (xs := st) (k := i) (by omega)
  obtain ⟨xp, hxp⟩ := some_get (xs := cs) (k := pn) (by omega)
  have hA := hSc pn lA xp hlA hxp
  have hB := hSc i lB x hlB hx
  have hxpo := cpOk_b (hTc pn xp hxp)
  obtain ⟨ax, aa, ac⟩ := lA
  obtain ⟨bx, ab, bc⟩ := lB
  obtain ⟨a0, a1, a2, rfl⟩ := three hA.1
  obtain ⟨b0, b1, b2, rfl⟩ := three hB.1
  have sA : ∀ p, p < 3 → ∃ s, xp.s[p]? = some s := fun p hp => some_get (by omega)
  have sB : ∀ p, p < 3 → ∃ s, x.s[p]? = some s := fun p hp => some_get (by omega)
  obtain ⟨s0, e0⟩ := sA 0 (by decide)
  obtain ⟨s1, e1⟩ := sA 1 (by decide)
  obtain ⟨s2, e2⟩ := sA 2 (by decide)
  obtain ⟨t0, f0⟩ := sB 0 (by decide)
  obtain ⟨t1, f1⟩ := sB 1 (by decide)
  obtain ⟨t2, f2⟩ := sB 2 (by decide)
  have ha0 := (hA.2 0 a0 s0 rfl e0).1
  have ha1 := (hA.2 1 a1 s1 rfl e1).1
  have ha2 := (hA.2 2 a2 s2 rfl e2).1
  have hb0 := (hB.2 0 b0 t0 rfl f0).1
  have hb1 := (hB.2 1 b1 t1 rfl f1).1
  have hb2 := (hB.2 2 b2 t2 rfl f2).1
  have hxl : ∀ y ∈ cs, y.s.length ≤ 1000000 := fun y hy => by
    obtain ⟨j, hj⟩ := List.mem_iff_getElem?.1 hy
    have := (cpOk_b (hTc j y hj)).2.1
    omega
  by_cases he : 100 * b0 + 10 * b1 + b2 = 100 * a0 + 10 * a1 + a2
  · exact top_eq cs ca cc st sa sc i pn x a0 a1 a2 b0 b1 b2 aa ab ac bc w hct hcs hst hss h1 h2 hT hS hxl (by omega) (by omega) hsl hx hpn hpi hlA hlB ha0 ha1 ha2 hb0 hb1 hb2 he
  · rcases kind_of (x := 100 * a0 + 10 * a1 + a2) (y := 100 * b0 + 10 * b1 + b2) (by omega) (by omega) he with hk | hk | hk
    · exact top_bad cs ca cc st sa sc i pn x a0 a1 a2 b0 b1 b2 aa ab ac bc w hct hcs hst hss h1 h2 hT hS hxl (by omega) (by omega) hsl hx hpn hpi hlA hlB ha0 ha1 ha2 hb0 hb1 hb2 he hk
    · exact top_k1 cs ca cc st sa sc i pn x a0 a1 a2 b0 b1 b2 aa ab ac bc w hct hcs hst hss h1 h2 hT hS hxl (by omega) (by omega) hsl hx hpn hpi hlA hlB ha0 ha1 ha2 hb0 hb1 hb2 he hk
    · exact top_k2 cs ca cc st sa sc i pn x a0 a1 a2 b0 b1 b2 aa ab ac bc w hct hcs hst hss h1 h2 hT hS hxl (by omega) (by omega) hsl hx hpn hpi hlA hlB ha0 ha1 ha2 hb0 hb1 hb2 he hk
end Go.Proofs


namespace Go.Proofs
open Go Go.Sx Go.RowKit Go.WideShapes Go.ChangeShapes

/-! # What comes in, as plain data -/

theorem mem_choose {α β : Type} {f : β → α} {p : α → Prop} (hp : ∀ a, p a → ∃ b, a = f b) : ∀ (xs : List α), (∀ a ∈ xs, p a) → ∃ ys : List β, xs = ys.map f
  | [], _ => ⟨[], rfl⟩
  | x :: xs, h => by
    obtain ⟨y, rfl⟩ := hp x (h x (List.mem_cons_self ..))
    obtain ⟨ys, rfl⟩ := mem_choose hp xs (fun a ha => h a (List.mem_cons_of_mem _ ha))
    exact ⟨y :: ys, rfl⟩
theorem cells_one {α : Type} {cs : List α} (hl : cs.length = 1) : ∃ v, cs = [v] := by
  match cs, hl with
  | [v], _ => exact ⟨v, rfl⟩
theorem cells_two {α : Type} {cs : List α} (hl : cs.length = 2) : ∃ v u, cs = [v, u] := by
  match cs, hl with
  | [v, u], _ => exact ⟨v, u, rfl⟩

section opens
variable {H : Type} {enc : TypeId × Value → H} {P : Program} {w : World} {base : Nat}

/-- Rows that are read: what each element's cells fulfil. -/
theorem rows_of {Q : List Value → Prop} {e : TypeId} {sz : Nat} {ad : Addr} {n cap : Nat} {elems : List (DataW H × List MemPlace)} {fuel : Nat} (hq : ∀ cs x, DataW.trod enc P w 0 (fun _ => true) true fuel e cs = some x → cs.length = sz ∧ Q cs) (hsz : P.cellsOf e = sz)
    (hsp : ad.spot = none) (hblk : ad.block < w.heap.size) (hl : n ≤ cap) (hlen : elems.length = n) (hel : ∀ i, i < n → (w.cells? 0 (ad.add (i * P.cellsOf e)) (P.cellsOf e)).bind (DataW.trod enc P w 0 (fun _ => true) true fuel e) = elems[i]?) :
    ∃ xs : List (List Value), Ro w 0 w.heap.size (some ad) n cap sz xs ∧ ∀ r ∈ xs, Q r := by
  have key : ∀ i, i < n → ∃ r : List Value, r.length = sz ∧ Q r ∧ ∀ j u, r[j]? = some u → w.cell? ⟨ad.block, ad.off + (i * sz + j), none⟩ = some u := by
    intro i hi2
    have h1 := hel i hi2
    have hlt : i < elems.length := by rw [hlen]; exact hi2
    rw [List.getElem?_eq_getElem hlt] at h1
    simp only [Option.bind_eq_some_iff] at h1
    obtain ⟨cs', h2, h3⟩ := h1
    obtain ⟨h4, h5⟩ := hq _ _ h3
    obtain ⟨_, hcl, hat⟩ := World.cells?_some h2
    refine ⟨cs', by omega, h5, fun j u hu => ?_⟩
    have hjl := (List.getElem?_eq_some_iff.1 hu).1
    have := hat j (by omega)
    rw [hu] at this
    rw [hsz] at this
    have e1 : (ad.add (i * sz)).add j = ⟨ad.block, ad.off + (i * sz + j), none⟩ := by
      rw [Addr.add_add, add_block _ _ hsp]
    rw [e1] at this
    exact this
  obtain ⟨f, hf⟩ : ∃ f : Nat → List Value, ∀ i, i < n → (f i).length = sz ∧ Q (f i) ∧ ∀ j u, (f i)[j]? = some u → w.cell? ⟨ad.block, ad.off + (i * sz + j), none⟩ = some u :=
    ⟨fun i => if h : i < n then Classical.choose (key i h) else [], fun i hi2 => by
      have := Classical.choose_spec (key i hi2)
      simp only [dif_pos hi2]
      exact this⟩
  have hget : ∀ i r, ((List.range n).map f)[i]? = some r → i < n ∧ r = f i := by
    intro i r hr
    simp only [List.getElem?_map, Option.map_eq_some_iff] at hr
    obtain ⟨k, hk, rfl⟩ := hr
    obtain ⟨h1, h2⟩ := List.getElem?_eq_some_iff.1 hk
    simp at h1 h2
    subst h2
    exact ⟨h1, rfl⟩
  have hmem : ∀ r ∈ (List.range n).map f, r.length = sz ∧ Q r := by
    intro r hr
    simp only [List.mem_map, List.mem_range] at hr
    obtain ⟨i, hi2, rfl⟩ := hr
    exact ⟨(hf i hi2).1, (hf i hi2).2.1⟩
  refine ⟨(List.range n).map f, ⟨by simp, fun r hr => (hmem r hr).1, hl, .inr ⟨ad, rfl, hsp, Nat.zero_le _, hblk, fun i r hr j u hu => ?_⟩⟩, fun r hr => (hmem r hr).2⟩
  obtain ⟨h1, rfl⟩ := hget i r hr
  exact (hf i h1).2.2 j u hu
/-- A slice whose header is well typed. -/
theorem open_rows {Q : List Value → Prop} {t e : TypeId} {sz fuel : Nat} {v : Value} {x : DataW H × List MemPlace} (ht : P.underlying t = some (.slice e)) (hq : ∀ fuel cs x, DataW.trod enc P w 0 (fun _ => true) true fuel e cs = some x → cs.length = sz ∧ Q cs) (hsz : P.cellsOf e = sz)
    (hv : Cell.okWide P w .any base t v) (h : DataW.trod enc P w 0 (fun _ => true) true fuel t [v] = some x) :
    ∃ (a : Option Addr) (n c : Nat) (xs : List (List Value)), v = .slice a n c ∧ Ro w 0 w.heap.size a n c sz xs ∧ ∀ r ∈ xs, Q r := by
  rcases DataW.trod_slice ht h with ⟨hc, _⟩ | ⟨ad, len, cap', elems, rest, n', _, hc, _, _, hl, hm, hlen, hel, _, _⟩
  · cases hc
    exact ⟨none, 0, 0, [], rfl, Ro.nil _ _ _ _, (fun _ h => by cases h)⟩
  · cases hc
    have hhas : w.has P .any base ad e cap' := by
      unfold Cell.okWide at hv
      rw [ht] at hv
      simp only [Cell.ok, ht] at hv
      exact hv.2.2
    obtain ⟨hcm, hsp, row, cells, hshape, _⟩ := hhas
    have hblk : ad.block < w.heap.size := by
      unfold World.shape? at hshape
      cases hb : w.heap[ad.block]? with
      | none => rw [hb] at hshape; cases hshape
      | some o => exact (Array.getElem?_eq_some_iff.1 hb).1
    obtain ⟨xs, h1, h2⟩ := rows_of (hq n') hsz hsp hblk hl hlen hel
    exact ⟨some ad, len, cap', xs, rfl, h1, h2⟩
/-- A slice of which nothing is known but that it is read. -/
theorem open_inner {Q : List Value → Prop} {t e : TypeId} {sz fuel : Nat} {cs : List Value} {x : DataW H × List MemPlace} (ht : P.underlying t = some (.slice e)) (hq : ∀ fuel cs x, DataW.trod enc P w 0 (fun _ => true) true fuel e cs = some x → cs.length = sz ∧ Q cs) (hsz : P.cellsOf e = sz) (hpos : 0 < sz)
    (h : DataW.trod enc P w 0 (fun _ => true) true fuel t cs = some x) :
    ∃ (a : Option Addr) (n c : Nat) (xs : List (List Value)), cs = [.slice a n c] ∧ xs.length = n ∧ (0 < n → Ro w 0 w.heap.size a n c sz xs) ∧ ∀ r ∈ xs, Q r := by
  rcases DataW.trod_slice ht h with ⟨hc, _⟩ | ⟨ad, len, cap', elems, rest, n', _, hc, _, _, hl, hm, hlen, hel, _, _⟩
  · exact ⟨none, 0, 0, [], hc, rfl, (fun h => absurd h (Nat.lt_irrefl _)), (fun _ h => by cases h)⟩
  · rcases Nat.eq_zero_or_pos len with h0 | h0
    · subst h0
      exact ⟨some ad, 0, cap', [], hc, rfl, (fun h => absurd h (Nat.lt_irrefl _)), (fun _ h => by cases h)⟩
    · have h1 := hel 0 h0
      have hlt : 0 < elems.length := by rw [hlen]; exact h0
      rw [List.getElem?_eq_getElem hlt] at h1
      simp only [Option.bind_eq_some_iff] at h1
      obtain ⟨cs', h2, h3⟩ := h1
      obtain ⟨h4, _⟩ := hq _ _ _ h3
      obtain ⟨_, hcl, hat⟩ := World.cells?_some h2
      have h5 := hat 0 (by omega)
      have h6 : (ad.add (0 * P.cellsOf e)).add 0 = ad := by simp [Addr.add]
      rw [h6, List.getElem?_eq_getElem (show 0 < cs'.length by omega)] at h5
      have hsp : ad.spot = none ∧ ad.block < w.heap.size := by
        unfold World.cell? at h5
        split at h5
        · rename_i hb
          refine ⟨?_, (Array.getElem?_eq_some_iff.1 hb).1⟩
          split at h5
          · cases h5
          · rename_i hs
            simpa using hs
        · cases h5
      obtain ⟨xs, g1, g2⟩ := rows_of (hq n') hsz hsp.1 hsp.2 hl hlen hel
      exact ⟨some ad, len, cap', xs, hc, g1.len, fun _ => g1, g2⟩
end opens

section seat
variable {H : Type} {enc : TypeId × Value → H} {w : World} {base : Nat}
theorem field_at {f : Array Field} {L : List (Nat × TypeId)} (h : f.toList.map (fun f => (f.offset, f.type)) = L) {i o : Nat} {u : TypeId} (hi : L[i]? = some (o, u)) : ∃ fld, f[i]? = some fld ∧ fld.offset = o ∧ fld.type = u := by
  subst h
  simp only [List.getElem?_map, Option.map_eq_some_iff] at hi
  obtain ⟨fld, h1, h2⟩ := hi
  cases h2
  exact ⟨fld, by simpa using h1, rfl, rfl⟩
theorem u3 : Tryz.prog.underlying 3 = some (.int .i64) := Tryz.ty3.int
theorem uIn : Tryz.prog.underlying 30 = some (.slice 3) := Tryz.ty30.slice
theorem uCp : Tryz.prog.underlying 22 = some (.slice 32) := Tryz.ty22.slice
theorem uSt : Tryz.prog.underlying 25 = some (.slice 30) := Tryz.ty25.slice
theorem c3 : Tryz.prog.cellsOf 3 = 1 := by kernel_rfl
theorem c30 : Tryz.prog.cellsOf 30 = 1 := by kernel_rfl
theorem c32 : Tryz.prog.cellsOf 32 = 2 := by kernel_rfl
theorem c22 : Tryz.prog.cellsOf 22 = 1 := by kernel_rfl
theorem c24 : Tryz.prog.cellsOf 24 = 2 := by kernel_rfl
theorem q_int (fuel : Nat) (cs : List Value) (x : DataW H × List MemPlace) (h : DataW.trod enc Tryz.prog w 0 (fun _ => true) true fuel 3 cs = some x) : cs.length = 1 ∧ ∃ n : Int, cs = intC n := by
  obtain ⟨n, rfl, _, _⟩ := DataW.trod_int u3 h
  exact ⟨rfl, n, rfl⟩
/-- A list of ints, as a list in memory. -/
theorem q_li (fuel : Nat) (cs : List Value) (x : DataW H × List MemPlace) (h : DataW.trod enc Tryz.prog w 0 (fun _ => true) true fuel 30 cs = some x) : cs.length = 1 ∧ ∃ l : Li, cs = liC l ∧ (0 < l.xs.length → Ro w 0 w.heap.size l.a l.xs.length l.c 1 (ints l.xs)) := by
  obtain ⟨a, n, c, xs, rfl, hn, hro, hQ⟩ := open_inner (Q := fun cs => ∃ n : Int, cs = intC n) uIn q_int c3 (by decide) h
  obtain ⟨l, rfl⟩ := mem_choose (f := intC) (p := fun cs => ∃ n : Int, cs = intC n) (fun _ h => h) xs hQ
  rw [List.length_map] at hn
  subst hn
  exact ⟨rfl, ⟨l, a, c⟩, rfl, hro⟩
theorem q_cp (fuel : Nat) (cs : List Value) (x : DataW H × List MemPlace) (h : DataW.trod enc Tryz.prog w 0 (fun _ => true) true fuel 32 cs = some x) : cs.length = 2 ∧ ∃ y : Cp, cs = cpC y ∧ (0 < y.s.length → Ro w 0 w.heap.size y.a y.s.length y.c 1 (ints y.s)) := by
  obtain ⟨f, hf, hfs⟩ := Tryz.ty32.struct
  obtain ⟨xs, n, _, _, hl, hxl, hat⟩ := DataW.trod_struct hf h
  have h2 : cs.length = 2 := by rw [← c32]; exact hl
  have hfl : f.size = 2 := by
    have := congrArg List.length hfs
    simpa using this
  obtain ⟨v0, v1, rfl⟩ := cells_two h2
  have hi0 : ∃ n, v0 = .int .i64 n := by
    obtain ⟨fld, h1, h2, h3⟩ := field_at (i := 0) (o := 0) (u := 3) hfs rfl
    have h4 := hat 0 fld h1
    rw [h2, h3, c3] at h4
    have hlt : 0 < xs.length := by omega
    rw [List.getElem?_eq_getElem hlt] at h4
    obtain ⟨n, h5, _, _⟩ := DataW.trod_int u3 h4
    exact ⟨n, by simpa using h5⟩
  have hi1 : ∃ l : Li, v1 = .slice l.a l.xs.length l.c ∧ (0 < l.xs.length → Ro w 0 w.heap.size l.a l.xs.length l.c 1 (ints l.xs)) := by
    obtain ⟨fld, h1, h2, h3⟩ := field_at (i := 1) (o := 1) (u := 30) hfs rfl
    have h4 := hat 1 fld h1
    rw [h2, h3, c30] at h4
    have hlt : 1 < xs.length := by omega
    rw [List.getElem?_eq_getElem hlt] at h4
    obtain ⟨_, l, h5, h6⟩ := q_li _ _ _ h4
    exact ⟨l, by simpa using h5, h6⟩
  obtain ⟨p, rfl⟩ := hi0
  obtain ⟨l, rfl, hro⟩ := hi1
  exact ⟨rfl, ⟨p, l.xs, l.a, l.c⟩, rfl, hro⟩
theorem ro_all {α : Type} {C : α → List Value} {G : α → Prop} {a : Option Addr} {n c sz : Nat} {xs : List (List Value)} (hro : Ro w 0 w.heap.size a n c sz xs) (hQ : ∀ r ∈ xs, ∃ y, r = C y ∧ G y) : ∃ ys : List α, n = ys.length ∧ Ro w 0 w.heap.size a ys.length c sz (ys.map C) ∧ ∀ y ∈ ys, G y := by
  have hc : ∃ ys : List α, xs = ys.map C ∧ ∀ y ∈ ys, G y := by
    have hlen := hro.len
    clear hro hlen
    induction xs with
    | nil => exact ⟨[], rfl, fun _ h => by cases h⟩
    | cons r xs ih =>
      obtain ⟨y, rfl, hy⟩ := hQ r (List.mem_cons_self ..)
      obtain ⟨ys, rfl, hys⟩ := ih (fun r hr => hQ r (List.mem_cons_of_mem _ hr))
      refine ⟨y :: ys, rfl, fun z hz => ?_⟩
      rcases List.mem_cons.1 hz with rfl | hz
      · exact hy
      · exact hys z hz
  obtain ⟨ys, rfl, hys⟩ := hc
  have hlen := hro.len
  rw [List.length_map] at hlen
  subst hlen
  exact ⟨ys, rfl, hro, hys⟩
set_option maxRecDepth 100000 in
theorem open_st {v : Value} {x : DataW H} {ps : List MemPlace} (hval : Value.okWide Tryz.prog w .any base 25 v) (h : DataW.Trod enc Tryz.prog w 0 (fun _ => true) true 25 v x ps) :
    ∃ (st : List Li) (sa : Option Addr) (sc : Nat), v = .slice sa st.length sc ∧ Ro w 0 w.heap.size sa st.length sc 1 (st.map liC) ∧ ∀ l ∈ st, 0 < l.xs.length → Ro w 0 w.heap.size l.a l.xs.length l.c 1 (ints l.xs) := by
  have hv : Cell.okWide Tryz.prog w .any base 25 v := by
    unfold Value.okWide at hval; rw [uSt] at hval; exact hval
  obtain ⟨a0, n0, c0, rfl⟩ := okWide_slice uSt hval
  obtain ⟨fuel, h⟩ := h
  obtain ⟨a, n, c, xs, he, hro, hQ⟩ := open_rows (Q := fun cs => ∃ l : Li, cs = liC l ∧ (0 < l.xs.length → Ro w 0 w.heap.size l.a l.xs.length l.c 1 (ints l.xs))) uSt q_li c30 hv h
  obtain ⟨st, rfl, h1, h2⟩ := ro_all hro hQ
  exact ⟨st, a, c, he, h1, h2⟩
set_option maxRecDepth 100000 in
theorem open_tr {v : Value} {x : DataW H} {ps : List MemPlace} (hval : Value.okWide Tryz.prog w .any base 24 v) (h : DataW.Trod enc Tryz.prog w 0 (fun _ => true) true 24 v x ps) :
    ∃ (pl : Int) (cs : List Cp) (ca : Option Addr) (cc : Nat), v = trV pl cs ca cc ∧ Ro w 0 w.heap.size ca cs.length cc 2 (cs.map cpC) ∧ ∀ y ∈ cs, 0 < y.s.length → Ro w 0 w.heap.size y.a y.s.length y.c 1 (ints y.s) := by
  obtain ⟨f, hf, hfs⟩ := Tryz.ty24.struct
  unfold Value.okWide at hval
  rw [hf] at hval
  obtain ⟨cs, rfl, hsz, ts, hts, _, hrow⟩ := hval
  have hts' : ts = [3, 22] := Option.some.inj (hts.symm.trans (by kernel_rfl))
  subst hts'
  obtain ⟨fuel, h⟩ := h
  obtain ⟨xs, n, _, _, hl, hxl, hat⟩ := DataW.trod_struct hf h
  have hfl : f.size = 2 := by
    have := congrArg List.length hfs
    simpa using this
  obtain ⟨l⟩ := cs
  have h2 : l.length = 2 := by
    have : (Value.agg l.toArray).cells.toList.length = Tryz.prog.cellsOf 24 := hl
    rw [c24] at this
    simpa [Value.cells] using this
  obtain ⟨v0, v1, rfl⟩ := cells_two h2
  simp only [Value.cells] at hat
  have hi0 : ∃ n, v0 = .int .i64 n := by
    obtain ⟨fld, h1, h2, h3⟩ := field_at (i := 0) (o := 0) (u := 3) hfs rfl
    have h4 := hat 0 fld h1
    rw [h2, h3, c3] at h4
    have hlt : 0 < xs.length := by omega
    rw [List.getElem?_eq_getElem hlt] at h4
    obtain ⟨n, h5, _, _⟩ := DataW.trod_int u3 h4
    exact ⟨n, by simpa using h5⟩
  have hi1 : ∃ (cs : List Cp) (ca : Option Addr) (cc : Nat), v1 = .slice ca cs.length cc ∧ Ro w 0 w.heap.size ca cs.length cc 2 (cs.map cpC) ∧ ∀ y ∈ cs, 0 < y.s.length → Ro w 0 w.heap.size y.a y.s.length y.c 1 (ints y.s) := by
    obtain ⟨fld, h1, h2, h3⟩ := field_at (i := 1) (o := 1) (u := 22) hfs rfl
    have h4 := hat 1 fld h1
    rw [h2, h3, c22] at h4
    have hlt : 1 < xs.length := by omega
    rw [List.getElem?_eq_getElem hlt] at h4
    have h4' : DataW.trod enc Tryz.prog w 0 (fun _ => true) true n 22 [v1] = some xs[1] := h4
    obtain ⟨u, hu1, hu2⟩ := hrow 1 v1 rfl
    cases hu1
    obtain ⟨a, m, c, rows, he, hro, hQ⟩ := open_rows (Q := fun cs => ∃ y : Cp, cs = cpC y ∧ (0 < y.s.length → Ro w 0 w.heap.size y.a y.s.length y.c 1 (ints y.s))) uCp q_cp c32 hu2 h4'
    obtain ⟨cs, rfl, h1, h2⟩ := ro_all hro hQ
    exact ⟨cs, a, c, he, h1, h2⟩
  obtain ⟨p, rfl⟩ := hi0
  obtain ⟨cs, ca, cc, rfl, h1, h2⟩ := hi1
  exact ⟨p, cs, ca, cc, rfl, h1, h2⟩
end seat
end Go.Proofs


namespace Go.Proofs.YtceepchchaaceaaGreat
open Go Go.Sx Go.RowKit Go.WideShapes Go.ChangeShapes

theorem own : ownKnob Tryz.prog.godebug = none := by kernel_rfl
theorem laidOut : laidOutB Tryz.prog = true := by kernel_rfl
section
variable {H : Type} {enc : TypeId × Value → H}
theorem trodAll_below {W W' : World} (hb : Below W.heap.size W W') : ∀ {ts : List TypeId} {vs : List Value} {ds : List (DataW H)} {p : List MemPlace}, (∀ t ∈ ts, Tryz.prog.readableRec t = true ∧ t < Tryz.prog.types.size) → DataW.TrodAll enc Tryz.prog W 0 (fun _ => true) true ts vs ds p → (∀ x ∈ p, x.block < W.heap.size) → DataW.TrodAll enc Tryz.prog W' 0 (fun b => decide (b < W.heap.size)) true ts vs ds p
  | [], [], [], _, _, h, _ => h
  | t :: ts, v :: vs, d :: ds, _, hr, h, hlt => by
    obtain ⟨p, q, h1, h2, rfl⟩ := h
    exact ⟨p, q, Below.trod laidOut (hr t (List.mem_cons_self ..)).1 (hr t (List.mem_cons_self ..)).2 h1 hb (fun x hx => hlt x (List.mem_append.2 (.inl hx))), trodAll_below hb (fun u hu => hr u (List.mem_cons_of_mem _ hu)) h2 (fun x hx => hlt x (List.mem_append.2 (.inr hx))), rfl⟩
  | [], _ :: _, _, _, _, h, _ => h.elim
  | [], [], _ :: _, _, _, h, _ => h.elim
  | _ :: _, [], _, _, _, h, _ => h.elim
  | _ :: _, _ :: _, [], _, _, h, _ => h.elim
theorem trodAll_cons {W : World} {sp : Nat → Bool} {t : TypeId} {ts : List TypeId} {vs : List Value} {ds : List (DataW H)} {p : List MemPlace} (h : DataW.TrodAll enc Tryz.prog W 0 sp true (t :: ts) vs ds p) :
    ∃ v vs' d ds' p' q, vs = v :: vs' ∧ ds = d :: ds' ∧ DataW.Trod enc Tryz.prog W 0 sp true t v d p' ∧ DataW.TrodAll enc Tryz.prog W 0 sp true ts vs' ds' q := by
  match vs, ds, h with
  | v :: vs', d :: ds', h =>
    obtain ⟨p', q, h1, h2, _⟩ := h
    exact ⟨v, vs', d, ds', p', q, rfl, rfl, h1, h2⟩
theorem trodAll_nil {W : World} {sp : Nat → Bool} {vs : List Value} {ds : List (DataW H)} {p : List MemPlace} (h : DataW.TrodAll enc Tryz.prog W 0 sp true [] vs ds p) : vs = [] ∧ ds = [] := by
  match vs, ds, h with
  | [], [], _ => exact ⟨rfl, rfl⟩
set_option maxRecDepth 100000 in
theorem topTurned_law (W : World) (base : Nat) (args : Array Value) (ds : List (DataW H)) (p : List MemPlace) (hval : ∀ (j : Nat) t v, Tryz.f3.params[j]? = some t → args[j]? = some v → Value.okWide Tryz.prog W .any base t v)
    (hA : DataW.TrodAll enc Tryz.prog W 0 (fun _ => true) true Tryz.f3.params.toList args.toList ds p) : Calls Tryz.prog 3 args W (RetV W (.bool true)) ∧ ∃ d1 d2 d3, ds = [d1, d2, d3] := by
  obtain ⟨l⟩ := args
  rw [Tryz.params3] at hA hval
  obtain ⟨v0, l0, d0, e0, p0, q0, hl0, rfl, h0, hA0⟩ := trodAll_cons hA
  have hl0' : l = v0 :: l0 := hl0
  subst hl0'
  obtain ⟨v1, l1, d1, e1, p1, q1, hl1, rfl, h1, hA1⟩ := trodAll_cons hA0
  subst hl1
  obtain ⟨v2, l2, d2, e2, p2, q2, hl2, rfl, h2, hA2⟩ := trodAll_cons hA1
  subst hl2
  obtain ⟨rfl, rfl⟩ := trodAll_nil hA2
  obtain ⟨pl, cs, ca, cc, rfl, hct, hcs⟩ := open_tr (hval 0 24 v0 rfl rfl) h0
  obtain ⟨st, sa, sc, rfl, hst, hss⟩ := open_st (hval 1 25 v1 rfl rfl) h1
  obtain ⟨fr, rfl, _⟩ := open_int u3 (hval 2 3 v2 rfl rfl) h2
  exact ⟨w_TopTurned pl cs ca cc st sa sc fr W hct hcs hst hss, d0, d1, d2, rfl⟩
end
set_option maxRecDepth 100000 in
theorem topTurned_lifted (os : Os) (started : os.Started) (H : Type) (enc : TypeId × Value → H) :
    ReturnsInHanded {} Tryz.checked os 3 .any (Rows.topTurnedSpec.pre6 enc Tryz.prog Tryz.f3 Rows.topTurnedRow.domain false) (Rows.topTurnedSpec.post enc Tryz.prog Tryz.f3 false true false false) := by
  refine returnsInHanded_of_change (C := Tryz.checked) own started (by kernel_rfl) Tryz.func3
    (ChangeSpec.witness6 (enc := enc) (C := Tryz.checked) false ⟨#[], #[.agg #[.int .i64 0, .slice none 0 0], .slice none 0 0, .int .i64 0], []⟩ 8 (by kernel_rfl) (by kernel_rfl) (by kernel_rfl) (by kernel_rfl)) ?_
  intro W base args ds gs before hval0 hW hcnd _
  have hval : ∀ (j : Nat) t v, Tryz.f3.params[j]? = some t → args[j]? = some v → Value.okWide Tryz.prog W .any base t v := hval0
  have hW' := hW
  obtain ⟨p, q, hA0, hV, rfl, hfz, hnd⟩ := hW
  have hA : DataW.TrodAll enc Tryz.prog W 0 (fun _ => true) true Tryz.f3.params.toList args.toList ds p := hA0
  obtain ⟨rfl, rfl⟩ := trodVars_none hV
  have hlt : ∀ x ∈ p, x.block < W.heap.size := fun x hx => hW'.lt x (by simpa using hx)
  obtain ⟨hlaw, d1, d2, d3, rfl⟩ := topTurned_law W base args ds p hval hA
  refine hlaw.mono ?_
  rintro e W' ⟨rfl, hb⟩
  refine ⟨_, rfl, ?_⟩
  have hread : (Tryz.f3.params.toList.all fun t => Tryz.prog.readableRec t && decide (t < Tryz.prog.types.size)) = true := by kernel_rfl
  have hres : Tryz.f3.resultTypes = #[4] := rfl
  rw [List.append_nil] at hW'
  refine ⟨[d1, d2, d3], [], p, [], p, [], hW', ?_, ?_, ?_, hb.frame _, fun h => by cases h⟩
  · rw [hres]
    exact trodAll_mk1 (shut_bool Tryz.underlying4 _)
  · refine trodAll_below hb (fun t ht => ?_) hA hlt
    have := List.all_eq_true.1 hread t ht
    simpa using this
  · rfl
/-- TopTurned: for every input the law returns true, and each argument reads behind the call as it read before. -/
theorem topTurned_holds : Rows.TopTurnedSaid :=
  OpenClaim.holds_of_wide 3 Tryz.f3 rfl rfl rfl rfl rfl rfl rfl ⟨rfl, rfl, rfl, rfl, rfl⟩ rfl rfl rfl rfl rfl (by kernel_rfl) Tryz.func3 (by kernel_rfl)
    (of_decide_eq_true (by kernel_rfl)) (by unfold Func.isWrapper; first | (rw [if_pos (by decide +kernel)]; kernel_rfl) | (rw [if_neg (by decide +kernel)]; exact ⟨rfl, rfl⟩))
    (fun os started H enc _ => topTurned_lifted os started H enc)
#print axioms topTurned_holds
end Go.Proofs.YtceepchchaaceaaGreat

