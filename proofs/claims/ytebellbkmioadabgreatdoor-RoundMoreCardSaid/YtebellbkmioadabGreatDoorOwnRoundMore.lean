/- RoundMore: for every input the law returns true, and each argument reads behind the call as it read before. Conditions: the package-level variables that the row lists hold what the program's text lays (tied by the card). -/
import Derived.Test.YtebellbkmioadabGreatDoorOwnC
import Derived.Test.YtebellbkmioadabGreatDoorOwnE
import Derived.Test.YtebellbkmioadabGreatDoorOwnF
import Derived.LaidOnce
import Derived.SevenTiedAt
import Derived.Test.YtebellbkmioadabGreatDoorTie
import Derived.Test.YtebellbkmioadabGreatDoorCards
set_option linter.unusedVariables false
set_option linter.unusedSimpArgs false
namespace Go.Proofs
open Go Go.Sx

/-! # Plain laws of round: rounding -/

/-! ## Numbers behind a figure -/

theorem fig_mono {sh : Sh} {v w : Int} (hs : isSh sh = true) (h : v ≤ w) : fig sh v ≤ fig sh w := toF_mono (isSh_b hs).1.1 h
/-! ## Lists that lie on a map from one place on -/

end Go.Proofs


namespace Go.Proofs
open Go Go.Sx

/-! # Plain laws of round: what is sure -/

theorem sureK_mem {sh : Sh} {e : Int} {i : Int} : ∀ k, i ∈ sureK sh e k ↔ ∃ (j : Nat) (r : Int), j < k ∧ i = j ∧ sh.rows[j]? = some r ∧ fig sh (r - e) = fig sh (r + e)
  | 0 => by simp [sureK]
  | k + 1 => by
    have ih := sureK_mem (sh := sh) (e := e) (i := i) k
    have key : (∃ (j : Nat) (r : Int), j < k + 1 ∧ i = j ∧ sh.rows[j]? = some r ∧ fig sh (r - e) = fig sh (r + e)) ↔ i ∈ sureK sh e k ∨ (i = k ∧ ∃ r, sh.rows[k]? = some r ∧ fig sh (r - e) = fig sh (r + e)) := by
      rw [ih]
      constructor
      · rintro ⟨j, r, h1, h2, h3, h4⟩
        by_cases hj : j = k
        · subst hj; exact .inr ⟨h2, r, h3, h4⟩
        · exact .inl ⟨j, r, by omega, h2, h3, h4⟩
      · rintro (⟨j, r, h1, h2, h3, h4⟩ | ⟨h1, r, h2, h3⟩)
        · exact ⟨j, r, by omega, h2, h3, h4⟩
        · exact ⟨k, r, by omega, h1, h2, h3⟩
    rw [key]
    simp only [sureK]
    cases hr : sh.rows[k]? with
    | none => simp
    | some r =>
      simp only
      by_cases h : fig sh (r - e) = fig sh (r + e)
      · rw [if_pos h]; simp [h]
      · rw [if_neg h]; simp [h]
theorem sure_has {sh : Sh} {e r : Int} {k : Nat} (hr : sh.rows[k]? = some r) : (sureL sh e).contains (k : Int) = decide (fig sh (r - e) = fig sh (r + e)) := by
  have hk := (List.getElem?_eq_some_iff.1 hr).1
  have h1 : ((k : Int) ∈ sureL sh e) ↔ fig sh (r - e) = fig sh (r + e) := by
    rw [sureL, sureK_mem]
    constructor
    · rintro ⟨j, r', _, h2, h3, h4⟩
      have : j = k := by omega
      subst this; rw [hr] at h3; cases h3; exact h4
    · exact fun h => ⟨k, r, hk, rfl, hr, h⟩
  rw [List.contains_eq_mem]
  exact decide_eq_decide.2 h1
theorem sure_mono {sh : Sh} (hs : isSh sh = true) {r a b : Int} (hab : b ≤ a ∧ 0 ≤ b) (h : fig sh (r - a) = fig sh (r + a)) : fig sh (r - b) = fig sh (r + b) := by
  have h1 := fig_mono hs (show r - a ≤ r - b by omega)
  have h2 := fig_mono hs (show r - b ≤ r + b by omega)
  have h3 := fig_mono hs (show r + b ≤ r + a by omega)
  omega

theorem errs_le {sh : Sh} (hs : isSh sh = true) {i j : Nat} {a b : Int} (hij : i ≤ j) (ha : sh.errs[i]? = some a) (hb : sh.errs[j]? = some b) : b ≤ a ∧ 0 ≤ b :=
  ⟨errs_mono (isSh_e hs) i j a b hij ha hb, (errs_b (isSh_e hs) b (List.mem_of_getElem? hb)).1⟩
/-! ## More guard figures -/

def within (a b : Sp) : Prop := b.1 ≤ a.1 ∧ a.1 ≤ a.2 ∧ a.2 ≤ b.2
theorem truK_mono {a b : Int} (h : b ≤ a) : ∀ {rs t : List Int}, truK b rs t = true → truK a rs t = true := by
  intro rs t ht
  rw [truK_iff] at ht ⊢
  refine ⟨ht.1, fun j r n hr hn => ?_⟩
  have := inB_iff.1 (ht.2 j r n hr hn)
  exact inB_iff.2 (by omega)
theorem isE_within {S T : Int → Prop} {a b : Sp} (ha : IsE S (some a)) (hb : IsE T (some b)) (h : ∀ x, S x → T x) : within a b :=
  ⟨(hb.2.2 _ (h _ ha.1)).1, (ha.2.2 _ ha.1).2, (hb.2.2 _ (h _ ha.2.1)).2⟩
theorem endT_E {F : Int → Int} {e : Int} (he : 0 ≤ e) (rows : List Int) (of : Int → Int → Int) : IsE (fun x => ∃ t, truK e rows t = true ∧ of (sumI t) (figO F t) = x) (some ((endT F e rows of).getD (0, 0))) := by
  have := endT_isE (F := F) he rows of
  rwa [endT_some he] at this
theorem endT_within {F : Int → Int} {a b : Int} (hb : 0 ≤ b) (hab : b ≤ a) (rows : List Int) (of : Int → Int → Int) : within ((endT F b rows of).getD (0, 0)) ((endT F a rows of).getD (0, 0)) :=
  isE_within (endT_E hb rows of) (endT_E (by omega) rows of) fun x ⟨t, h1, h2⟩ => ⟨t, truK_mono hab h1, h2⟩

/-! ## Totals of truths -/

/-! ## The other sign -/

end Go.Proofs


namespace Go.Proofs
open Go Go.Sx Go.RowKit

end Go.Proofs


namespace Go.Proofs
open Go Go.Sx Go.RowKit

end Go.Proofs


namespace Go.Proofs
open Go Go.Sx Go.RowKit

theorem fig_len (sh : Sh) (e : Int) : (figL sh e).length = sh.rows.length := by simp [figL]
theorem figL_get {sh : Sh} {e r : Int} {i : Nat} (hr : sh.rows[i]? = some r) : (spans (figL sh e))[i]? = some (spanC (fig sh (r - e), fig sh (r + e))) := by
  have : (figL sh e)[i]? = some (fig sh (r - e), fig sh (r + e)) := by simp [figL, hr]
  exact map_get (f := spanC) this
end Go.Proofs


namespace Go.Proofs
open Go Go.Sx Go.RowKit

set_option maxRecDepth 20000 in
theorem law_right (sh : Sh) (pt : Pt) (gd : Int) (w : World) (hre : Ro w 0 w.heap.size pt.ea sh.errs.length pt.ec 1 (ints sh.errs)) (hrr : Ro w 0 w.heap.size pt.ra sh.rows.length pt.rc 1 (ints sh.rows)) : Calls Tryz.prog 9 #[shV sh pt, (.int .i64 gd)] w (RetV w (.bool (okG sh gd))) := by
  have hok : okG sh gd = (isSh sh && inB gd 0 (sh.errs.length - 1)) := rfl
  refine calls_T0 (av := [_, _]) Tryz.func9 rfl rfl rfl ?_
  refine t_seq ?_
  refine t_reg ?_
  refine to_box rfl rfl (fun b2 => ?_)
  refine to_as rfl rfl ?_
  refine to_nil ?_
  refine tn_code ?_
  refine t_seq ?_
  refine t_reg ?_
  first | refine to_lda rfl rfl rfl ?_ | refine to_ldea rfl (by assumption) rfl rfl ?_
  refine to_call0 rfl rfl (fun w s => law_short _ _ w) rfl ?_
  refine to_mv rfl rfl ?_
  refine to_gs rfl rfl rfl (fun h1 => ?_) (fun h1 => ?_)
  · try simp only [decide_eq_true_eq, decide_eq_false_iff_not, Bool.not_eq_true', Bool.not_eq_false', Int.not_lt, Int.not_le, ne_eq, Decidable.not_not] at h1
    try have h1b := inB_iff.1 h1
    refine to_gt rfl rfl ?_
    first | refine to_lda rfl rfl rfl ?_ | refine to_ldea rfl (by assumption) rfl rfl ?_
    refine to_gt rfl rfl ?_
    refine to_call0 rfl rfl (fun w s => ref_Sheet sh pt w (rdw s) (rdw s)) rfl ?_
    refine to_pkT rfl rfl rfl ?_
    refine to_mv rfl rfl ?_
    refine to_gs rfl rfl rfl (fun h2 => ?_) (fun h2 => ?_)
    · try simp only [decide_eq_true_eq, decide_eq_false_iff_not, Bool.not_eq_true', Bool.not_eq_false', Int.not_lt, Int.not_le, ne_eq, Decidable.not_not] at h2
      try have h2b := inB_iff.1 h2
      have hsh : isSh sh = true := h2
      refine to_gt rfl rfl ?_
      first | refine to_lda rfl rfl rfl ?_ | refine to_ldea rfl (by assumption) rfl rfl ?_
      refine to_gt rfl rfl ?_
      refine to_mv rfl rfl ?_
      refine to_gt rfl rfl ?_
      refine to_call0 rfl rfl (fun w s => ref_Guard sh pt _ w (by have h9 := isSh_b hsh; omega)) rfl ?_
      refine to_pkT rfl rfl rfl ?_
      refine to_as rfl rfl ?_
      refine to_nil ?_
      refine tn_code ?_
      refine t_ret1 rfl rfl (res_tmp rfl) (fun w' s => ?_)
      first | (rw [hok]; simp_all; done) | (rw [hok]; simp [*]; done)
    · try simp only [decide_eq_true_eq, decide_eq_false_iff_not, Bool.not_eq_true', Bool.not_eq_false', Int.not_lt, Int.not_le, ne_eq, Decidable.not_not] at h2
      try have h2b := inB_iff.1 h2
      refine to_gf rfl rfl rfl rfl ?_
      refine to_gf rfl rfl rfl rfl ?_
      refine to_gf rfl rfl rfl rfl ?_
      refine to_pkF rfl rfl rfl ?_
      refine to_as rfl rfl ?_
      refine to_nil ?_
      refine tn_code ?_
      refine t_ret1 rfl rfl (res_tmp rfl) (fun w' s => ?_)
      first | (rw [hok]; simp_all; done) | (rw [hok]; simp [*]; done)
  · try simp only [decide_eq_true_eq, decide_eq_false_iff_not, Bool.not_eq_true', Bool.not_eq_false', Int.not_lt, Int.not_le, ne_eq, Decidable.not_not] at h1
    try have h1b := inB_iff.1 h1
    have hnot : isSh sh = false := (by rw [Bool.eq_false_iff]; intro hh; have h9 := isSh_b hh; simp at h1; omega)
    refine to_gf rfl rfl rfl rfl ?_
    refine to_gf rfl rfl rfl rfl ?_
    refine to_pkF rfl rfl rfl ?_
    refine to_mv rfl rfl ?_
    refine to_gf rfl rfl rfl rfl ?_
    refine to_gf rfl rfl rfl rfl ?_
    refine to_gf rfl rfl rfl rfl ?_
    refine to_pkF rfl rfl rfl ?_
    refine to_as rfl rfl ?_
    refine to_nil ?_
    refine tn_code ?_
    refine t_ret1 rfl rfl (res_tmp rfl) (fun w' s => ?_)
    first | (rw [hok]; simp_all; done) | (rw [hok]; simp [*]; done)

end Go.Proofs


namespace Go.Proofs
open Go Go.Sx Go.RowKit

theorem grd_ok {sh : Sh} {k : Nat} {e : Int} (h : sh.errs[k]? = some e) : inB (k : Int) 0 (sh.errs.length - 1) = true := by
  have := (List.getElem?_eq_some_iff.1 h).1
  exact inB_iff.2 (by omega)
theorem row_ok {sh : Sh} {k : Nat} {r : Int} (h : sh.rows[k]? = some r) : inB (k : Int) 0 (sh.rows.length - 1) = true := by
  have := (List.getElem?_eq_some_iff.1 h).1
  exact inB_iff.2 (by omega)
theorem row_ex {sh : Sh} {row : Int} (h : inB row 0 (sh.rows.length - 1) = true) : ∃ (k : Nat) (r : Int), row = (k : Int) ∧ sh.rows[k]? = some r := by
  have hb := inB_iff.1 h
  obtain ⟨k, rfl⟩ := Int.eq_ofNat_of_zero_le hb.1
  obtain ⟨e, he⟩ := some_get (xs := sh.rows) (k := k) (by omega)
  exact ⟨k, e, rfl, he⟩
end Go.Proofs


namespace Go.Proofs
open Go Go.Sx Go.RowKit

end Go.Proofs


namespace Go.Proofs
open Go Go.Sx Go.RowKit

set_option maxRecDepth 20000 in
theorem law_within (a b : Sp) (w : World) (h : within a b) : Calls Tryz.prog 18 #[spanV a, spanV b] w (RetV w (.bool true)) := by
  have hA := h.1
  have hB := h.2.1
  have hC := h.2.2
  refine calls_T0 (av := [_, _]) Tryz.func18 rfl rfl rfl ?_
  refine t_seq ?_
  refine t_reg ?_
  refine to_box rfl rfl (fun b2 => ?_)
  refine to_box rfl rfl (fun b3 => ?_)
  refine to_as rfl rfl ?_
  refine to_nil ?_
  refine tn_code ?_
  refine t_seq ?_
  refine t_reg ?_
  first | refine to_fa rfl rfl rfl (by simp only [Nat.reduceAdd]; rfl) rfl ?_ | refine to_fae rfl rfl rfl (by simp only [Nat.reduceAdd]; rfl) rfl ?_
  first | refine to_lds rfl rfl rfl ?_ | refine to_ldes rfl (by assumption) rfl rfl ?_
  first | refine to_fa rfl rfl rfl (by simp only [Nat.reduceAdd]; rfl) rfl ?_ | refine to_fae rfl rfl rfl (by simp only [Nat.reduceAdd]; rfl) rfl ?_
  first | refine to_lds rfl rfl rfl ?_ | refine to_ldes rfl (by assumption) rfl rfl ?_
  refine to_geq rfl rfl rfl ?_
  refine to_fix (s := 9) (b' := true) rfl (decide_eq_true (by omega)) ?_
  refine to_mv rfl rfl ?_
  refine to_gt rfl rfl ?_
  first | refine to_fa rfl rfl rfl (by simp only [Nat.reduceAdd]; rfl) rfl ?_ | refine to_fae rfl rfl rfl (by simp only [Nat.reduceAdd]; rfl) rfl ?_
  refine to_gt rfl rfl ?_
  first | refine to_lds rfl rfl rfl ?_ | refine to_ldes rfl (by assumption) rfl rfl ?_
  refine to_gt rfl rfl ?_
  first | refine to_fa rfl rfl rfl (by simp only [Nat.reduceAdd]; rfl) rfl ?_ | refine to_fae rfl rfl rfl (by simp only [Nat.reduceAdd]; rfl) rfl ?_
  refine to_gt rfl rfl ?_
  first | refine to_lds rfl rfl rfl ?_ | refine to_ldes rfl (by assumption) rfl rfl ?_
  refine to_gt rfl rfl ?_
  refine to_leq rfl rfl rfl ?_
  refine to_fix (s := 15) (b' := true) rfl (decide_eq_true (by omega)) ?_
  refine to_pkT rfl rfl rfl ?_
  refine to_mv rfl rfl ?_
  refine to_gt rfl rfl ?_
  first | refine to_fa rfl rfl rfl (by simp only [Nat.reduceAdd]; rfl) rfl ?_ | refine to_fae rfl rfl rfl (by simp only [Nat.reduceAdd]; rfl) rfl ?_
  refine to_gt rfl rfl ?_
  first | refine to_lds rfl rfl rfl ?_ | refine to_ldes rfl (by assumption) rfl rfl ?_
  refine to_gt rfl rfl ?_
  first | refine to_fa rfl rfl rfl (by simp only [Nat.reduceAdd]; rfl) rfl ?_ | refine to_fae rfl rfl rfl (by simp only [Nat.reduceAdd]; rfl) rfl ?_
  refine to_gt rfl rfl ?_
  first | refine to_lds rfl rfl rfl ?_ | refine to_ldes rfl (by assumption) rfl rfl ?_
  refine to_gt rfl rfl ?_
  refine to_leq rfl rfl rfl ?_
  refine to_fix (s := 22) (b' := true) rfl (decide_eq_true (by omega)) ?_
  refine to_pkT rfl rfl rfl ?_
  refine to_as rfl rfl ?_
  refine to_nil ?_
  refine tn_code ?_
  refine t_ret1 rfl rfl (res_tmp rfl) (fun w' s => ?_)
  rfl

theorem c_FigG {sh : Sh} {pt : Pt} {k : Nat} {e gd : Int} {w : World} (hre : Ro w 0 w.heap.size pt.ea sh.errs.length pt.ec 1 (ints sh.errs)) (hrr : Ro w 0 w.heap.size pt.ra sh.rows.length pt.rc 1 (ints sh.rows)) (hs : isSh sh = true) (he : sh.errs[k]? = some e) (hgk : gd = (k : Int)) : Calls Tryz.prog 13 #[shV sh pt, .int .i64 gd] w (Ret w (RSpE (figL sh e) 0)) := by
  subst hgk; exact r_Figures_t sh pt k e w hre hrr hs he
theorem c_TotG {sh : Sh} {pt : Pt} {k : Nat} {e gd : Int} {w : World} (hre : Ro w 0 w.heap.size pt.ea sh.errs.length pt.ec 1 (ints sh.errs)) (hrr : Ro w 0 w.heap.size pt.ra sh.rows.length pt.rc 1 (ints sh.rows)) (hs : isSh sh = true) (he : sh.errs[k]? = some e) (hgk : gd = (k : Int)) : Calls Tryz.prog 14 #[shV sh pt, .int .i64 gd] w (RetV w (.tuple #[spanV (rTot sh e), .int .i64 0])) := by
  subst hgk; exact r_Total_t sh pt k e w hre hrr hs he
theorem c_AddG {sh : Sh} {pt : Pt} {k : Nat} {e gd : Int} {w : World} (hre : Ro w 0 w.heap.size pt.ea sh.errs.length pt.ec 1 (ints sh.errs)) (hrr : Ro w 0 w.heap.size pt.ra sh.rows.length pt.rc 1 (ints sh.rows)) (hs : isSh sh = true) (he : sh.errs[k]? = some e) (hgk : gd = (k : Int)) : Calls Tryz.prog 15 #[shV sh pt, .int .i64 gd] w (RetV w (.tuple #[spanV (rAdd sh e), .int .i64 0])) := by
  subst hgk; exact r_Adds_t sh pt k e w hre hrr hs he
theorem c_DifG {sh : Sh} {pt : Pt} {k : Nat} {e gd : Int} {w : World} (hre : Ro w 0 w.heap.size pt.ea sh.errs.length pt.ec 1 (ints sh.errs)) (hrr : Ro w 0 w.heap.size pt.ra sh.rows.length pt.rc 1 (ints sh.rows)) (hs : isSh sh = true) (he : sh.errs[k]? = some e) (hgk : gd = (k : Int)) : Calls Tryz.prog 16 #[shV sh pt, .int .i64 gd] w (RetV w (.tuple #[spanV (rDif sh e), .int .i64 0])) := by
  subst hgk; exact r_Differs_t sh pt k e w hre hrr hs he
theorem c_SurG {sh : Sh} {pt : Pt} {k : Nat} {e gd : Int} {w : World} (hre : Ro w 0 w.heap.size pt.ea sh.errs.length pt.ec 1 (ints sh.errs)) (hrr : Ro w 0 w.heap.size pt.ra sh.rows.length pt.rc 1 (ints sh.rows)) (hs : isSh sh = true) (he : sh.errs[k]? = some e) (hgk : gd = (k : Int)) : Calls Tryz.prog 17 #[shV sh pt, .int .i64 gd] w (Ret w (RSlE (sureL sh e) 0)) := by
  subst hgk; exact r_Sure_t sh pt k e w hre hrr hs he
theorem sureL_len (sh : Sh) (e : Int) : (sureL sh e).length ≤ sh.rows.length := sureK_len sh e sh.rows.length

set_option maxRecDepth 20000 in
theorem w_RoundMore_no (sh : Sh) (pt : Pt) (gd : Int) (more row : Int) (w : World) (hre : Ro w 0 w.heap.size pt.ea sh.errs.length pt.ec 1 (ints sh.errs)) (hrr : Ro w 0 w.heap.size pt.ra sh.rows.length pt.rc 1 (ints sh.rows)) (ho : okG sh gd = false) (hg : Gl w) : Calls Tryz.prog 3 #[shV sh pt, (.int .i64 gd), (.int .i64 more), (.int .i64 row)] w (RetV w (.bool true)) := by
  refine calls_T0 (av := [_, _, _, _]) Tryz.func3 rfl rfl rfl ?_
  refine t_seq ?_
  refine t_reg ?_
  refine to_box rfl rfl (fun b4 => ?_)
  refine to_as rfl rfl ?_
  refine to_nil ?_
  refine tn_code ?_
  refine t_seq ?_
  refine t_seq ?_
  refine t_reg ?_
  first | refine to_lda rfl rfl rfl ?_ | refine to_ldea rfl (by assumption) rfl rfl ?_
  refine to_mv rfl rfl ?_
  refine to_call0 rfl rfl (fun w s => law_right sh pt _ w (rdw s) (rdw s)) rfl ?_
  refine to_fix (s := 31) (b' := false) rfl (ho) ?_
  refine to_not rfl rfl ?_
  refine to_mv rfl rfl ?_
  refine to_gf rfl rfl rfl rfl ?_
  refine to_gf rfl rfl rfl rfl ?_
  refine to_pkT rfl rfl rfl ?_
  refine to_mv rfl rfl ?_
  refine to_gf rfl rfl rfl rfl ?_
  refine to_gf rfl rfl rfl rfl ?_
  refine to_pkT rfl rfl rfl ?_
  refine to_mv rfl rfl ?_
  refine to_gf rfl rfl rfl rfl ?_
  refine to_gf rfl rfl rfl rfl ?_
  refine to_gf rfl rfl rfl rfl ?_
  refine to_gf rfl rfl rfl rfl ?_
  refine to_gf rfl rfl rfl rfl ?_
  refine to_gf rfl rfl rfl rfl ?_
  refine to_pkT rfl rfl rfl ?_
  refine to_mv rfl rfl ?_
  refine to_gf rfl rfl rfl rfl ?_
  refine to_gf rfl rfl rfl rfl ?_
  refine to_gf rfl rfl rfl rfl ?_
  refine to_gf rfl rfl rfl rfl ?_
  refine to_pkT rfl rfl rfl ?_
  refine to_nil ?_
  refine tn_code ?_
  refine t_ifT rfl ?_
  refine t_seq ?_
  refine t_reg ?_
  refine to_call0 rfl rfl (fun w s => law_known w (gl_up hg (belowH_of s))) rfl ?_
  refine to_as rfl rfl ?_
  refine to_nil ?_
  refine tn_code ?_
  refine t_ret1 rfl rfl (res_tmp rfl) (fun w' s => ?_)
  rfl

set_option maxRecDepth 20000 in
theorem w_RoundMore_mn (sh : Sh) (pt : Pt) (gd : Int) (more row : Int) (w : World) (hre : Ro w 0 w.heap.size pt.ea sh.errs.length pt.ec 1 (ints sh.errs)) (hrr : Ro w 0 w.heap.size pt.ra sh.rows.length pt.rc 1 (ints sh.rows)) (hs : isSh sh = true) (k : Nat) (e : Int) (hgk : gd = (k : Int)) (he : sh.errs[k]? = some e) (hm : more < 0) (hg : Gl w) : Calls Tryz.prog 3 #[shV sh pt, (.int .i64 gd), (.int .i64 more), (.int .i64 row)] w (RetV w (.bool true)) := by
  subst hgk
  have heb := errs_b (isSh_e hs) e (List.mem_of_getElem? he)
  have hbb := isSh_b hs
  have hxe := map_get (f := intC) he
  have hke := (List.getElem?_eq_some_iff.1 he).1
  have hok := okG_t hs he
  refine calls_T0 (av := [_, _, _, _]) Tryz.func3 rfl rfl rfl ?_
  refine t_seq ?_
  refine t_reg ?_
  refine to_box rfl rfl (fun b4 => ?_)
  refine to_as rfl rfl ?_
  refine to_nil ?_
  refine tn_code ?_
  refine t_seq ?_
  refine t_seq ?_
  refine t_reg ?_
  first | refine to_lda rfl rfl rfl ?_ | refine to_ldea rfl (by assumption) rfl rfl ?_
  refine to_mv rfl rfl ?_
  refine to_call0 rfl rfl (fun w s => law_right sh pt _ w (rdw s) (rdw s)) rfl ?_
  refine to_fix (s := 31) (b' := true) rfl (hok) ?_
  refine to_not rfl rfl ?_
  refine to_mv rfl rfl ?_
  refine to_gt rfl rfl ?_
  refine to_mv rfl rfl ?_
  refine to_gt rfl rfl ?_
  refine to_lss rfl rfl rfl ?_
  refine to_fix (s := 35) (b' := true) rfl (decide_eq_true hm) ?_
  refine to_pkF rfl rfl rfl ?_
  refine to_mv rfl rfl ?_
  refine to_gf rfl rfl rfl rfl ?_
  refine to_gf rfl rfl rfl rfl ?_
  refine to_pkT rfl rfl rfl ?_
  refine to_mv rfl rfl ?_
  refine to_gf rfl rfl rfl rfl ?_
  refine to_gf rfl rfl rfl rfl ?_
  refine to_gf rfl rfl rfl rfl ?_
  refine to_gf rfl rfl rfl rfl ?_
  refine to_gf rfl rfl rfl rfl ?_
  refine to_gf rfl rfl rfl rfl ?_
  refine to_pkT rfl rfl rfl ?_
  refine to_mv rfl rfl ?_
  refine to_gf rfl rfl rfl rfl ?_
  refine to_gf rfl rfl rfl rfl ?_
  refine to_gf rfl rfl rfl rfl ?_
  refine to_gf rfl rfl rfl rfl ?_
  refine to_pkT rfl rfl rfl ?_
  refine to_nil ?_
  refine tn_code ?_
  refine t_ifT rfl ?_
  refine t_seq ?_
  refine t_reg ?_
  refine to_call0 rfl rfl (fun w s => law_known w (gl_up hg (belowH_of s))) rfl ?_
  refine to_as rfl rfl ?_
  refine to_nil ?_
  refine tn_code ?_
  refine t_ret1 rfl rfl (res_tmp rfl) (fun w' s => ?_)
  rfl

set_option maxRecDepth 20000 in
theorem w_RoundMore_mx (sh : Sh) (pt : Pt) (gd : Int) (more row : Int) (w : World) (hre : Ro w 0 w.heap.size pt.ea sh.errs.length pt.ec 1 (ints sh.errs)) (hrr : Ro w 0 w.heap.size pt.ra sh.rows.length pt.rc 1 (ints sh.rows)) (hs : isSh sh = true) (k : Nat) (e : Int) (hgk : gd = (k : Int)) (he : sh.errs[k]? = some e) (hm : ¬ more < 0) (hm2 : more > 5) (hg : Gl w) : Calls Tryz.prog 3 #[shV sh pt, (.int .i64 gd), (.int .i64 more), (.int .i64 row)] w (RetV w (.bool true)) := by
  subst hgk
  have heb := errs_b (isSh_e hs) e (List.mem_of_getElem? he)
  have hbb := isSh_b hs
  have hxe := map_get (f := intC) he
  have hke := (List.getElem?_eq_some_iff.1 he).1
  have hok := okG_t hs he
  refine calls_T0 (av := [_, _, _, _]) Tryz.func3 rfl rfl rfl ?_
  refine t_seq ?_
  refine t_reg ?_
  refine to_box rfl rfl (fun b4 => ?_)
  refine to_as rfl rfl ?_
  refine to_nil ?_
  refine tn_code ?_
  refine t_seq ?_
  refine t_seq ?_
  refine t_reg ?_
  first | refine to_lda rfl rfl rfl ?_ | refine to_ldea rfl (by assumption) rfl rfl ?_
  refine to_mv rfl rfl ?_
  refine to_call0 rfl rfl (fun w s => law_right sh pt _ w (rdw s) (rdw s)) rfl ?_
  refine to_fix (s := 31) (b' := true) rfl (hok) ?_
  refine to_not rfl rfl ?_
  refine to_mv rfl rfl ?_
  refine to_gt rfl rfl ?_
  refine to_mv rfl rfl ?_
  refine to_gt rfl rfl ?_
  refine to_lss rfl rfl rfl ?_
  refine to_fix (s := 35) (b' := false) rfl (decide_eq_false (by omega)) ?_
  refine to_pkF rfl rfl rfl ?_
  refine to_mv rfl rfl ?_
  refine to_gt rfl rfl ?_
  refine to_mv rfl rfl ?_
  refine to_gt rfl rfl ?_
  refine to_gtr rfl rfl rfl ?_
  refine to_fix (s := 39) (b' := true) rfl (decide_eq_true hm2) ?_
  refine to_pkF rfl rfl rfl ?_
  refine to_mv rfl rfl ?_
  refine to_gf rfl rfl rfl rfl ?_
  refine to_gf rfl rfl rfl rfl ?_
  refine to_gf rfl rfl rfl rfl ?_
  refine to_gf rfl rfl rfl rfl ?_
  refine to_gf rfl rfl rfl rfl ?_
  refine to_gf rfl rfl rfl rfl ?_
  refine to_pkT rfl rfl rfl ?_
  refine to_mv rfl rfl ?_
  refine to_gf rfl rfl rfl rfl ?_
  refine to_gf rfl rfl rfl rfl ?_
  refine to_gf rfl rfl rfl rfl ?_
  refine to_gf rfl rfl rfl rfl ?_
  refine to_pkT rfl rfl rfl ?_
  refine to_nil ?_
  refine tn_code ?_
  refine t_ifT rfl ?_
  refine t_seq ?_
  refine t_reg ?_
  refine to_call0 rfl rfl (fun w s => law_known w (gl_up hg (belowH_of s))) rfl ?_
  refine to_as rfl rfl ?_
  refine to_nil ?_
  refine tn_code ?_
  refine t_ret1 rfl rfl (res_tmp rfl) (fun w' s => ?_)
  rfl

set_option maxRecDepth 20000 in
theorem w_RoundMore_gN (sh : Sh) (pt : Pt) (gd : Int) (more row : Int) (w : World) (hre : Ro w 0 w.heap.size pt.ea sh.errs.length pt.ec 1 (ints sh.errs)) (hrr : Ro w 0 w.heap.size pt.ra sh.rows.length pt.rc 1 (ints sh.rows)) (hs : isSh sh = true) (k : Nat) (e : Int) (hgk : gd = (k : Int)) (he : sh.errs[k]? = some e) (m : Nat) (hmm : more = (m : Int)) (hm5 : m ≤ 5) (hgn : inB ((k : Int) + (m : Int)) 0 (sh.errs.length - 1) = false) (hg : Gl w) : Calls Tryz.prog 3 #[shV sh pt, (.int .i64 gd), (.int .i64 more), (.int .i64 row)] w (RetV w (.bool true)) := by
  subst hgk
  have heb := errs_b (isSh_e hs) e (List.mem_of_getElem? he)
  have hbb := isSh_b hs
  have hxe := map_get (f := intC) he
  have hke := (List.getElem?_eq_some_iff.1 he).1
  have hok := okG_t hs he
  subst hmm
  refine calls_T0 (av := [_, _, _, _]) Tryz.func3 rfl rfl rfl ?_
  refine t_seq ?_
  refine t_reg ?_
  refine to_box rfl rfl (fun b4 => ?_)
  refine to_as rfl rfl ?_
  refine to_nil ?_
  refine tn_code ?_
  refine t_seq ?_
  refine t_seq ?_
  refine t_reg ?_
  first | refine to_lda rfl rfl rfl ?_ | refine to_ldea rfl (by assumption) rfl rfl ?_
  refine to_mv rfl rfl ?_
  refine to_call0 rfl rfl (fun w s => law_right sh pt _ w (rdw s) (rdw s)) rfl ?_
  refine to_fix (s := 31) (b' := true) rfl (hok) ?_
  refine to_not rfl rfl ?_
  refine to_mv rfl rfl ?_
  refine to_gt rfl rfl ?_
  refine to_mv rfl rfl ?_
  refine to_gt rfl rfl ?_
  refine to_lss rfl rfl rfl ?_
  refine to_fix (s := 35) (b' := false) rfl (decide_eq_false (by omega)) ?_
  refine to_pkF rfl rfl rfl ?_
  refine to_mv rfl rfl ?_
  refine to_gt rfl rfl ?_
  refine to_mv rfl rfl ?_
  refine to_gt rfl rfl ?_
  refine to_gtr rfl rfl rfl ?_
  refine to_fix (s := 39) (b' := false) rfl (decide_eq_false (by omega)) ?_
  refine to_pkF rfl rfl rfl ?_
  refine to_mv rfl rfl ?_
  refine to_gt rfl rfl ?_
  first | refine to_lda rfl rfl rfl ?_ | refine to_ldea rfl (by assumption) rfl rfl ?_
  refine to_gt rfl rfl ?_
  refine to_mv rfl rfl ?_
  refine to_gt rfl rfl ?_
  refine to_mv rfl rfl ?_
  refine to_gt rfl rfl ?_
  refine to_add rfl rfl (by omega) rfl ?_
  refine to_gt rfl rfl ?_
  refine to_call0 rfl rfl (fun w s => ref_Guard sh pt _ w (by omega)) rfl ?_
  refine to_fix (s := 46) (b' := false) rfl (hgn) ?_
  refine to_gt rfl rfl ?_
  refine to_not rfl rfl ?_
  refine to_pkF rfl rfl rfl ?_
  refine to_mv rfl rfl ?_
  refine to_gf rfl rfl rfl rfl ?_
  refine to_gf rfl rfl rfl rfl ?_
  refine to_gf rfl rfl rfl rfl ?_
  refine to_gf rfl rfl rfl rfl ?_
  refine to_pkT rfl rfl rfl ?_
  refine to_nil ?_
  refine tn_code ?_
  refine t_ifT rfl ?_
  refine t_seq ?_
  refine t_reg ?_
  refine to_call0 rfl rfl (fun w s => law_known w (gl_up hg (belowH_of s))) rfl ?_
  refine to_as rfl rfl ?_
  refine to_nil ?_
  refine tn_code ?_
  refine t_ret1 rfl rfl (res_tmp rfl) (fun w' s => ?_)
  rfl

set_option maxRecDepth 20000 in
theorem w_RoundMore_rN (sh : Sh) (pt : Pt) (gd : Int) (more row : Int) (w : World) (hre : Ro w 0 w.heap.size pt.ea sh.errs.length pt.ec 1 (ints sh.errs)) (hrr : Ro w 0 w.heap.size pt.ra sh.rows.length pt.rc 1 (ints sh.rows)) (hs : isSh sh = true) (k : Nat) (e : Int) (hgk : gd = (k : Int)) (he : sh.errs[k]? = some e) (m : Nat) (hmm : more = (m : Int)) (hm5 : m ≤ 5) (e2 : Int) (he2 : sh.errs[k + m]? = some e2) (hrn : inB row 0 (sh.rows.length - 1) = false) (hg : Gl w) : Calls Tryz.prog 3 #[shV sh pt, (.int .i64 gd), (.int .i64 more), (.int .i64 row)] w (RetV w (.bool true)) := by
  subst hgk
  have heb := errs_b (isSh_e hs) e (List.mem_of_getElem? he)
  have hbb := isSh_b hs
  have hxe := map_get (f := intC) he
  have hke := (List.getElem?_eq_some_iff.1 he).1
  have hok := okG_t hs he
  subst hmm
  have hgt2 : inB ((k : Int) + (m : Int)) 0 (sh.errs.length - 1) = true := by have h9 := grd_ok he2; rwa [Int.natCast_add] at h9
  have heb2 := errs_b (isSh_e hs) e2 (List.mem_of_getElem? he2)
  have hle := errs_le hs (Nat.le_add_right k m) he he2
  refine calls_T0 (av := [_, _, _, _]) Tryz.func3 rfl rfl rfl ?_
  refine t_seq ?_
  refine t_reg ?_
  refine to_box rfl rfl (fun b4 => ?_)
  refine to_as rfl rfl ?_
  refine to_nil ?_
  refine tn_code ?_
  refine t_seq ?_
  refine t_seq ?_
  refine t_reg ?_
  first | refine to_lda rfl rfl rfl ?_ | refine to_ldea rfl (by assumption) rfl rfl ?_
  refine to_mv rfl rfl ?_
  refine to_call0 rfl rfl (fun w s => law_right sh pt _ w (rdw s) (rdw s)) rfl ?_
  refine to_fix (s := 31) (b' := true) rfl (hok) ?_
  refine to_not rfl rfl ?_
  refine to_mv rfl rfl ?_
  refine to_gt rfl rfl ?_
  refine to_mv rfl rfl ?_
  refine to_gt rfl rfl ?_
  refine to_lss rfl rfl rfl ?_
  refine to_fix (s := 35) (b' := false) rfl (decide_eq_false (by omega)) ?_
  refine to_pkF rfl rfl rfl ?_
  refine to_mv rfl rfl ?_
  refine to_gt rfl rfl ?_
  refine to_mv rfl rfl ?_
  refine to_gt rfl rfl ?_
  refine to_gtr rfl rfl rfl ?_
  refine to_fix (s := 39) (b' := false) rfl (decide_eq_false (by omega)) ?_
  refine to_pkF rfl rfl rfl ?_
  refine to_mv rfl rfl ?_
  refine to_gt rfl rfl ?_
  first | refine to_lda rfl rfl rfl ?_ | refine to_ldea rfl (by assumption) rfl rfl ?_
  refine to_gt rfl rfl ?_
  refine to_mv rfl rfl ?_
  refine to_gt rfl rfl ?_
  refine to_mv rfl rfl ?_
  refine to_gt rfl rfl ?_
  refine to_add rfl rfl (by omega) rfl ?_
  refine to_gt rfl rfl ?_
  refine to_call0 rfl rfl (fun w s => ref_Guard sh pt _ w (by omega)) rfl ?_
  refine to_fix (s := 46) (b' := true) rfl (hgt2) ?_
  refine to_gt rfl rfl ?_
  refine to_not rfl rfl ?_
  refine to_pkF rfl rfl rfl ?_
  refine to_mv rfl rfl ?_
  refine to_gt rfl rfl ?_
  first | refine to_lda rfl rfl rfl ?_ | refine to_ldea rfl (by assumption) rfl rfl ?_
  refine to_gt rfl rfl ?_
  refine to_mv rfl rfl ?_
  refine to_gt rfl rfl ?_
  refine to_call0 rfl rfl (fun w s => ref_Row sh pt _ w (by omega)) rfl ?_
  refine to_fix (s := 52) (b' := false) rfl (hrn) ?_
  refine to_gt rfl rfl ?_
  refine to_not rfl rfl ?_
  refine to_pkF rfl rfl rfl ?_
  refine to_nil ?_
  refine tn_code ?_
  refine t_ifT rfl ?_
  refine t_seq ?_
  refine t_reg ?_
  refine to_call0 rfl rfl (fun w s => law_known w (gl_up hg (belowH_of s))) rfl ?_
  refine to_as rfl rfl ?_
  refine to_nil ?_
  refine tn_code ?_
  refine t_ret1 rfl rfl (res_tmp rfl) (fun w' s => ?_)
  rfl

set_option maxRecDepth 20000 in
theorem w_RoundMore_ok (sh : Sh) (pt : Pt) (gd : Int) (more row : Int) (w : World) (hre : Ro w 0 w.heap.size pt.ea sh.errs.length pt.ec 1 (ints sh.errs)) (hrr : Ro w 0 w.heap.size pt.ra sh.rows.length pt.rc 1 (ints sh.rows)) (hs : isSh sh = true) (k : Nat) (e : Int) (hgk : gd = (k : Int)) (he : sh.errs[k]? = some e) (m : Nat) (hmm : more = (m : Int)) (hm5 : m ≤ 5) (e2 : Int) (he2 : sh.errs[k + m]? = some e2) (i : Nat) (r : Int) (hri : row = (i : Int)) (hr : sh.rows[i]? = some r) (hg : Gl w) : Calls Tryz.prog 3 #[shV sh pt, (.int .i64 gd), (.int .i64 more), (.int .i64 row)] w (RetV w (.bool true)) := by
  subst hgk
  have heb := errs_b (isSh_e hs) e (List.mem_of_getElem? he)
  have hbb := isSh_b hs
  have hxe := map_get (f := intC) he
  have hke := (List.getElem?_eq_some_iff.1 he).1
  have hok := okG_t hs he
  subst hmm
  have hgt2 : inB ((k : Int) + (m : Int)) 0 (sh.errs.length - 1) = true := by have h9 := grd_ok he2; rwa [Int.natCast_add] at h9
  have heb2 := errs_b (isSh_e hs) e2 (List.mem_of_getElem? he2)
  have hle := errs_le hs (Nat.le_add_right k m) he he2
  subst hri
  have hrt := row_ok hr
  have hrb := isSh_r hs (List.mem_of_getElem? hr)
  have hxr := map_get (f := intC) hr
  have hir := (List.getElem?_eq_some_iff.1 hr).1
  have hfl := fig_len sh e
  have hfl2 := fig_len sh e2
  have hxf := figL_get (e := e) hr
  have hxf2 := figL_get (e := e2) hr
  have hW1 : within (fig sh (r - e2), fig sh (r + e2)) (fig sh (r - e), fig sh (r + e)) := ⟨fig_mono hs (by omega), fig_mono hs (by omega), fig_mono hs (by omega)⟩
  have hW2 : within (rTot sh e2) (rTot sh e) := endT_within (F := fig sh) heb2.1 hle.1 sh.rows (fun k _ => fig sh k)
  have hW3 : within (rAdd sh e2) (rAdd sh e) := endT_within (F := fig sh) heb2.1 hle.1 sh.rows (fun _ a => a)
  have hW4 : within (rDif sh e2) (rDif sh e) := endT_within (F := fig sh) heb2.1 hle.1 sh.rows (fun k a => a - fig sh k)
  have hsm : (sureL sh e).contains (i : Int) = true → (sureL sh e2).contains (i : Int) = true := by
    rw [sure_has hr, sure_has hr]
    intro h9
    exact decide_eq_true (sure_mono hs hle (of_decide_eq_true h9))
  have hs1 := sureL_len sh e
  have hs2 := sureL_len sh e2
  refine calls_T0 (av := [_, _, _, _]) Tryz.func3 rfl rfl rfl ?_
  refine t_seq ?_
  refine t_reg ?_
  refine to_box rfl rfl (fun b4 => ?_)
  refine to_as rfl rfl ?_
  refine to_nil ?_
  refine tn_code ?_
  refine t_seq ?_
  refine t_seq ?_
  refine t_reg ?_
  first | refine to_lda rfl rfl rfl ?_ | refine to_ldea rfl (by assumption) rfl rfl ?_
  refine to_mv rfl rfl ?_
  refine to_call0 rfl rfl (fun w s => law_right sh pt _ w (rdw s) (rdw s)) rfl ?_
  refine to_fix (s := 31) (b' := true) rfl (hok) ?_
  refine to_not rfl rfl ?_
  refine to_mv rfl rfl ?_
  refine to_gt rfl rfl ?_
  refine to_mv rfl rfl ?_
  refine to_gt rfl rfl ?_
  refine to_lss rfl rfl rfl ?_
  refine to_fix (s := 35) (b' := false) rfl (decide_eq_false (by omega)) ?_
  refine to_pkF rfl rfl rfl ?_
  refine to_mv rfl rfl ?_
  refine to_gt rfl rfl ?_
  refine to_mv rfl rfl ?_
  refine to_gt rfl rfl ?_
  refine to_gtr rfl rfl rfl ?_
  refine to_fix (s := 39) (b' := false) rfl (decide_eq_false (by omega)) ?_
  refine to_pkF rfl rfl rfl ?_
  refine to_mv rfl rfl ?_
  refine to_gt rfl rfl ?_
  first | refine to_lda rfl rfl rfl ?_ | refine to_ldea rfl (by assumption) rfl rfl ?_
  refine to_gt rfl rfl ?_
  refine to_mv rfl rfl ?_
  refine to_gt rfl rfl ?_
  refine to_mv rfl rfl ?_
  refine to_gt rfl rfl ?_
  refine to_add rfl rfl (by omega) rfl ?_
  refine to_gt rfl rfl ?_
  refine to_call0 rfl rfl (fun w s => ref_Guard sh pt _ w (by omega)) rfl ?_
  refine to_fix (s := 46) (b' := true) rfl (hgt2) ?_
  refine to_gt rfl rfl ?_
  refine to_not rfl rfl ?_
  refine to_pkF rfl rfl rfl ?_
  refine to_mv rfl rfl ?_
  refine to_gt rfl rfl ?_
  first | refine to_lda rfl rfl rfl ?_ | refine to_ldea rfl (by assumption) rfl rfl ?_
  refine to_gt rfl rfl ?_
  refine to_mv rfl rfl ?_
  refine to_gt rfl rfl ?_
  refine to_call0 rfl rfl (fun w s => ref_Row sh pt _ w (by omega)) rfl ?_
  refine to_fix (s := 52) (b' := true) rfl (hrt) ?_
  refine to_gt rfl rfl ?_
  refine to_not rfl rfl ?_
  refine to_pkF rfl rfl rfl ?_
  refine to_nil ?_
  refine tn_code ?_
  refine t_ifF rfl ?_
  refine t_skip ?_
  refine tn_code ?_
  refine t_seq ?_
  refine t_reg ?_
  first | refine to_lda rfl rfl rfl ?_ | refine to_ldea rfl (by assumption) rfl rfl ?_
  refine to_mv rfl rfl ?_
  refine to_callR rfl rfl (fun w s => c_FigG (rdw s) (rdw s) hs he rfl) rfl (fun v59 lo59 w59 hlo59 hR59 => ?_)
  obtain ⟨pa59, pc59, rfl, hro59⟩ := hR59
  rw [hfl] at *
  refine to_mv rfl rfl ?_
  refine to_ex rfl rfl rfl ?_
  refine to_ex rfl rfl rfl ?_
  refine to_as rfl rfl ?_
  refine to_as rfl rfl ?_
  refine to_nil ?_
  refine tn_code ?_
  refine t_seq ?_
  refine t_reg ?_
  first | refine to_lda rfl rfl rfl ?_ | refine to_ldea rfl (by assumption) rfl rfl ?_
  refine to_mv rfl rfl ?_
  refine to_mv rfl rfl ?_
  refine to_add rfl rfl (by omega) rfl ?_
  refine to_callR rfl rfl (fun w s => c_FigG (rdw s) (rdw s) hs he2 (by omega)) rfl (fun v67 lo67 w67 hlo67 hR67 => ?_)
  obtain ⟨pa67, pc67, rfl, hro67⟩ := hR67
  rw [hfl2] at *
  refine to_mv rfl rfl ?_
  refine to_ex rfl rfl rfl ?_
  refine to_ex rfl rfl rfl ?_
  refine to_as rfl rfl ?_
  refine to_as rfl rfl ?_
  refine to_nil ?_
  refine tn_code ?_
  refine t_seq ?_
  refine t_reg ?_
  first | refine to_lda rfl rfl rfl ?_ | refine to_ldea rfl (by assumption) rfl rfl ?_
  refine to_mv rfl rfl ?_
  refine to_call0 rfl rfl (fun w s => c_TotG (rdw s) (rdw s) hs he rfl) rfl ?_
  refine to_mv rfl rfl ?_
  refine to_ex rfl rfl rfl ?_
  refine to_ex rfl rfl rfl ?_
  refine to_alloc rfl (fun b13 => ?_)
  first | refine to_st rfl rfl rfl rfl ?_ | refine to_ste rfl rfl (by assumption) rfl rfl ?_
  refine to_as rfl rfl ?_
  refine to_nil ?_
  refine tn_code ?_
  refine t_seq ?_
  refine t_reg ?_
  first | refine to_lda rfl rfl rfl ?_ | refine to_ldea rfl (by assumption) rfl rfl ?_
  refine to_mv rfl rfl ?_
  refine to_mv rfl rfl ?_
  refine to_add rfl rfl (by omega) rfl ?_
  refine to_call0 rfl rfl (fun w s => c_TotG (rdw s) (rdw s) hs he2 (by omega)) rfl ?_
  refine to_mv rfl rfl ?_
  refine to_ex rfl rfl rfl ?_
  refine to_ex rfl rfl rfl ?_
  refine to_alloc rfl (fun b15 => ?_)
  first | refine to_st rfl rfl rfl rfl ?_ | refine to_ste rfl rfl (by assumption) rfl rfl ?_
  refine to_as rfl rfl ?_
  refine to_nil ?_
  refine tn_code ?_
  refine t_seq ?_
  refine t_reg ?_
  first | refine to_lda rfl rfl rfl ?_ | refine to_ldea rfl (by assumption) rfl rfl ?_
  refine to_mv rfl rfl ?_
  refine to_call0 rfl rfl (fun w s => c_AddG (rdw s) (rdw s) hs he rfl) rfl ?_
  refine to_mv rfl rfl ?_
  refine to_ex rfl rfl rfl ?_
  refine to_ex rfl rfl rfl ?_
  refine to_alloc rfl (fun b17 => ?_)
  first | refine to_st rfl rfl rfl rfl ?_ | refine to_ste rfl rfl (by assumption) rfl rfl ?_
  refine to_as rfl rfl ?_
  refine to_nil ?_
  refine tn_code ?_
  refine t_seq ?_
  refine t_reg ?_
  first | refine to_lda rfl rfl rfl ?_ | refine to_ldea rfl (by assumption) rfl rfl ?_
  refine to_mv rfl rfl ?_
  refine to_mv rfl rfl ?_
  refine to_add rfl rfl (by omega) rfl ?_
  refine to_call0 rfl rfl (fun w s => c_AddG (rdw s) (rdw s) hs he2 (by omega)) rfl ?_
  refine to_mv rfl rfl ?_
  refine to_ex rfl rfl rfl ?_
  refine to_ex rfl rfl rfl ?_
  refine to_alloc rfl (fun b19 => ?_)
  first | refine to_st rfl rfl rfl rfl ?_ | refine to_ste rfl rfl (by assumption) rfl rfl ?_
  refine to_as rfl rfl ?_
  refine to_nil ?_
  refine tn_code ?_
  refine t_seq ?_
  refine t_reg ?_
  first | refine to_lda rfl rfl rfl ?_ | refine to_ldea rfl (by assumption) rfl rfl ?_
  refine to_mv rfl rfl ?_
  refine to_call0 rfl rfl (fun w s => c_DifG (rdw s) (rdw s) hs he rfl) rfl ?_
  refine to_mv rfl rfl ?_
  refine to_ex rfl rfl rfl ?_
  refine to_ex rfl rfl rfl ?_
  refine to_alloc rfl (fun b21 => ?_)
  first | refine to_st rfl rfl rfl rfl ?_ | refine to_ste rfl rfl (by assumption) rfl rfl ?_
  refine to_as rfl rfl ?_
  refine to_nil ?_
  refine tn_code ?_
  refine t_seq ?_
  refine t_reg ?_
  first | refine to_lda rfl rfl rfl ?_ | refine to_ldea rfl (by assumption) rfl rfl ?_
  refine to_mv rfl rfl ?_
  refine to_mv rfl rfl ?_
  refine to_add rfl rfl (by omega) rfl ?_
  refine to_call0 rfl rfl (fun w s => c_DifG (rdw s) (rdw s) hs he2 (by omega)) rfl ?_
  refine to_mv rfl rfl ?_
  refine to_ex rfl rfl rfl ?_
  refine to_ex rfl rfl rfl ?_
  refine to_alloc rfl (fun b23 => ?_)
  first | refine to_st rfl rfl rfl rfl ?_ | refine to_ste rfl rfl (by assumption) rfl rfl ?_
  refine to_as rfl rfl ?_
  refine to_nil ?_
  refine tn_code ?_
  refine t_seq ?_
  refine t_reg ?_
  first | refine to_lda rfl rfl rfl ?_ | refine to_ldea rfl (by assumption) rfl rfl ?_
  refine to_mv rfl rfl ?_
  refine to_callR rfl rfl (fun w s => c_SurG (rdw s) (rdw s) hs he rfl) rfl (fun v115 lo115 w115 hlo115 hR115 => ?_)
  obtain ⟨pa115, pc115, rfl, hro115⟩ := hR115
  refine to_mv rfl rfl ?_
  refine to_ex rfl rfl rfl ?_
  refine to_ex rfl rfl rfl ?_
  refine to_as rfl rfl ?_
  refine to_as rfl rfl ?_
  refine to_nil ?_
  refine tn_code ?_
  refine t_seq ?_
  refine t_reg ?_
  first | refine to_lda rfl rfl rfl ?_ | refine to_ldea rfl (by assumption) rfl rfl ?_
  refine to_mv rfl rfl ?_
  refine to_mv rfl rfl ?_
  refine to_add rfl rfl (by omega) rfl ?_
  refine to_callR rfl rfl (fun w s => c_SurG (rdw s) (rdw s) hs he2 (by omega)) rfl (fun v123 lo123 w123 hlo123 hR123 => ?_)
  obtain ⟨pa123, pc123, rfl, hro123⟩ := hR123
  refine to_mv rfl rfl ?_
  refine to_ex rfl rfl rfl ?_
  refine to_ex rfl rfl rfl ?_
  refine to_as rfl rfl ?_
  refine to_as rfl rfl ?_
  refine to_nil ?_
  refine tn_code ?_
  refine t_seq ?_
  refine t_seq ?_
  refine t_reg ?_
  refine to_mv rfl rfl ?_
  refine to_neq rfl rfl rfl ?_
  refine to_fix (s := 127) (b' := false) rfl (rfl) ?_
  refine to_mv rfl rfl ?_
  refine to_gt rfl rfl ?_
  refine to_mv rfl rfl ?_
  refine to_gt rfl rfl ?_
  refine to_neq rfl rfl rfl ?_
  refine to_fix (s := 130) (b' := false) rfl (rfl) ?_
  refine to_pkF rfl rfl rfl ?_
  refine to_mv rfl rfl ?_
  refine to_gt rfl rfl ?_
  refine to_mv rfl rfl ?_
  refine to_gt rfl rfl ?_
  refine to_neq rfl rfl rfl ?_
  refine to_fix (s := 134) (b' := false) rfl (rfl) ?_
  refine to_pkF rfl rfl rfl ?_
  refine to_mv rfl rfl ?_
  refine to_gt rfl rfl ?_
  refine to_mv rfl rfl ?_
  refine to_gt rfl rfl ?_
  refine to_neq rfl rfl rfl ?_
  refine to_fix (s := 138) (b' := false) rfl (rfl) ?_
  refine to_pkF rfl rfl rfl ?_
  refine to_mv rfl rfl ?_
  refine to_gt rfl rfl ?_
  refine to_mv rfl rfl ?_
  refine to_gt rfl rfl ?_
  refine to_neq rfl rfl rfl ?_
  refine to_fix (s := 142) (b' := false) rfl (rfl) ?_
  refine to_pkF rfl rfl rfl ?_
  refine to_mv rfl rfl ?_
  refine to_gt rfl rfl ?_
  refine to_mv rfl rfl ?_
  refine to_gt rfl rfl ?_
  refine to_neq rfl rfl rfl ?_
  refine to_fix (s := 146) (b' := false) rfl (rfl) ?_
  refine to_pkF rfl rfl rfl ?_
  refine to_mv rfl rfl ?_
  refine to_gt rfl rfl ?_
  refine to_mv rfl rfl ?_
  refine to_gt rfl rfl ?_
  refine to_neq rfl rfl rfl ?_
  refine to_fix (s := 150) (b' := false) rfl (rfl) ?_
  refine to_pkF rfl rfl rfl ?_
  refine to_mv rfl rfl ?_
  refine to_gt rfl rfl ?_
  refine to_mv rfl rfl ?_
  refine to_gt rfl rfl ?_
  refine to_neq rfl rfl rfl ?_
  refine to_fix (s := 154) (b' := false) rfl (rfl) ?_
  refine to_pkF rfl rfl rfl ?_
  refine to_mv rfl rfl ?_
  refine to_gt rfl rfl ?_
  refine to_mv rfl rfl ?_
  refine to_gt rfl rfl ?_
  refine to_neq rfl rfl rfl ?_
  refine to_fix (s := 158) (b' := false) rfl (rfl) ?_
  refine to_pkF rfl rfl rfl ?_
  refine to_mv rfl rfl ?_
  refine to_gt rfl rfl ?_
  refine to_mv rfl rfl ?_
  refine to_gt rfl rfl ?_
  refine to_neq rfl rfl rfl ?_
  refine to_fix (s := 162) (b' := false) rfl (rfl) ?_
  refine to_pkF rfl rfl rfl ?_
  refine to_mv rfl rfl ?_
  refine to_gt rfl rfl ?_
  refine to_mv rfl rfl ?_
  refine to_gt rfl rfl ?_
  refine to_lenS rfl rfl ?_
  refine to_gt rfl rfl ?_
  first | refine to_fa rfl rfl rfl (by simp only [Nat.reduceAdd]; rfl) rfl ?_ | refine to_fae rfl rfl rfl (by simp only [Nat.reduceAdd]; rfl) rfl ?_
  refine to_gt rfl rfl ?_
  first | refine to_lds rfl rfl rfl ?_ | refine to_ldes rfl (by assumption) rfl rfl ?_
  refine to_gt rfl rfl ?_
  refine to_lenS rfl rfl ?_
  refine to_gt rfl rfl ?_
  refine to_neq rfl rfl rfl ?_
  refine to_fix (s := 170) (b' := false) rfl (by simp) ?_
  refine to_pkF rfl rfl rfl ?_
  refine to_mv rfl rfl ?_
  refine to_gt rfl rfl ?_
  refine to_mv rfl rfl ?_
  refine to_gt rfl rfl ?_
  refine to_lenS rfl rfl ?_
  refine to_gt rfl rfl ?_
  refine to_mv rfl rfl ?_
  refine to_gt rfl rfl ?_
  refine to_lenS rfl rfl ?_
  refine to_gt rfl rfl ?_
  refine to_neq rfl rfl rfl ?_
  refine to_fix (s := 177) (b' := false) rfl (by simp) ?_
  refine to_pkF rfl rfl rfl ?_
  refine to_nil ?_
  refine tn_code ?_
  refine t_ifF rfl ?_
  refine t_skip ?_
  refine tn_code ?_
  refine t_seq ?_
  refine t_seq ?_
  refine t_regD rfl (by kernel_rfl) (by kernel_rfl) ?_
  refine to_mv rfl rfl ?_
  refine to_mv rfl rfl ?_
  first | refine to_ix rfl rfl rfl (by first | omega | decide) (by first | omega | decide) rfl ?_ | refine to_ixi rfl rfl rfl (by omega) (by omega) (by omega) rfl ?_
  first | refine to_lda rfl rfl rfl ?_ | refine to_ldea rfl (by assumption) rfl rfl ?_
  refine to_mv rfl rfl ?_
  refine to_mv rfl rfl ?_
  first | refine to_ix rfl rfl rfl (by first | omega | decide) (by first | omega | decide) rfl ?_ | refine to_ixi rfl rfl rfl (by omega) (by omega) (by omega) rfl ?_
  first | refine to_lda rfl rfl rfl ?_ | refine to_ldea rfl (by assumption) rfl rfl ?_
  refine to_call0 rfl rfl (fun w s => law_within (fig sh (r - e2), fig sh (r + e2)) (fig sh (r - e), fig sh (r + e)) w hW1) rfl ?_
  refine to_fix (s := 187) (b' := true) rfl (rfl) ?_
  refine to_not rfl rfl ?_
  refine to_mv rfl rfl ?_
  refine to_gt rfl rfl ?_
  first | refine to_lda rfl rfl rfl ?_ | refine to_ldea rfl (by assumption) rfl rfl ?_
  refine to_gt rfl rfl ?_
  first | refine to_lda rfl rfl rfl ?_ | refine to_ldea rfl (by assumption) rfl rfl ?_
  refine to_gt rfl rfl ?_
  refine to_call0 rfl rfl (fun w s => law_within (rTot sh e2) (rTot sh e) w hW2) rfl ?_
  refine to_fix (s := 192) (b' := true) rfl (rfl) ?_
  refine to_gt rfl rfl ?_
  refine to_not rfl rfl ?_
  refine to_pkF rfl rfl rfl ?_
  refine to_mv rfl rfl ?_
  refine to_gt rfl rfl ?_
  first | refine to_lda rfl rfl rfl ?_ | refine to_ldea rfl (by assumption) rfl rfl ?_
  refine to_gt rfl rfl ?_
  first | refine to_lda rfl rfl rfl ?_ | refine to_ldea rfl (by assumption) rfl rfl ?_
  refine to_gt rfl rfl ?_
  refine to_call0 rfl rfl (fun w s => law_within (rAdd sh e2) (rAdd sh e) w hW3) rfl ?_
  refine to_fix (s := 198) (b' := true) rfl (rfl) ?_
  refine to_gt rfl rfl ?_
  refine to_not rfl rfl ?_
  refine to_pkF rfl rfl rfl ?_
  refine to_mv rfl rfl ?_
  refine to_gt rfl rfl ?_
  first | refine to_lda rfl rfl rfl ?_ | refine to_ldea rfl (by assumption) rfl rfl ?_
  refine to_gt rfl rfl ?_
  first | refine to_lda rfl rfl rfl ?_ | refine to_ldea rfl (by assumption) rfl rfl ?_
  refine to_gt rfl rfl ?_
  refine to_call0 rfl rfl (fun w s => law_within (rDif sh e2) (rDif sh e) w hW4) rfl ?_
  refine to_fix (s := 204) (b' := true) rfl (rfl) ?_
  refine to_gt rfl rfl ?_
  refine to_not rfl rfl ?_
  refine to_pkF rfl rfl rfl ?_
  refine to_nil ?_
  refine tn_code ?_
  refine t_ifF rfl ?_
  refine t_skip ?_
  refine tn_code ?_
  refine t_seq ?_
  refine t_reg ?_
  refine to_mv rfl rfl ?_
  refine to_mv rfl rfl ?_
  refine to_call0 rfl rfl (fun w s => ref_Listed (sureL sh e) _ _ _ w (rdw s) (by omega)) rfl ?_
  refine to_not rfl rfl ?_
  refine to_mv rfl rfl ?_
  refine to_gs rfl rfl rfl (fun h1 => ?_) (fun h1 => ?_)
  · try simp only [decide_eq_true_eq, decide_eq_false_iff_not, Bool.not_eq_true', Bool.not_eq_false', Int.not_lt, Int.not_le, ne_eq, Decidable.not_not] at h1
    try have h1b := inB_iff.1 h1
    refine to_gf rfl rfl rfl rfl ?_
    refine to_gf rfl rfl rfl rfl ?_
    refine to_gf rfl rfl rfl rfl ?_
    refine to_pkT rfl rfl rfl ?_
    refine to_mv rfl rfl ?_
    refine to_gt rfl rfl ?_
    refine to_call0 rfl rfl (fun w s => law_known w (gl_up hg (belowH_of s))) rfl ?_
    refine to_pkT rfl rfl rfl ?_
    refine to_as rfl rfl ?_
    refine to_nil ?_
    refine tn_code ?_
    refine t_ret1 rfl rfl (res_tmp rfl) (fun w' s => ?_)
    rfl
  · try simp only [decide_eq_true_eq, decide_eq_false_iff_not, Bool.not_eq_true', Bool.not_eq_false', Int.not_lt, Int.not_le, ne_eq, Decidable.not_not] at h1
    try have h1b := inB_iff.1 h1
    refine to_gt rfl rfl ?_
    refine to_mv rfl rfl ?_
    refine to_gt rfl rfl ?_
    refine to_mv rfl rfl ?_
    refine to_gt rfl rfl ?_
    refine to_call0 rfl rfl (fun w s => ref_Listed (sureL sh e2) _ _ _ w (rdw s) (by omega)) rfl ?_
    refine to_fix (s := 214) (b' := true) rfl (hsm (by assumption)) ?_
    refine to_pkF rfl rfl rfl ?_
    refine to_mv rfl rfl ?_
    refine to_gt rfl rfl ?_
    refine to_call0 rfl rfl (fun w s => law_known w (gl_up hg (belowH_of s))) rfl ?_
    refine to_pkT rfl rfl rfl ?_
    refine to_as rfl rfl ?_
    refine to_nil ?_
    refine tn_code ?_
    refine t_ret1 rfl rfl (res_tmp rfl) (fun w' s => ?_)
    rfl

theorem w_RoundMore (sh : Sh) (pt : Pt) (gd more row : Int) (w : World) (hre : Ro w 0 w.heap.size pt.ea sh.errs.length pt.ec 1 (ints sh.errs)) (hrr : Ro w 0 w.heap.size pt.ra sh.rows.length pt.rc 1 (ints sh.rows)) (hg : Gl w) : Calls Tryz.prog 3 #[shV sh pt, .int .i64 gd, .int .i64 more, .int .i64 row] w (RetV w (.bool true)) := by
  rcases bool_tf (okG sh gd) with ho | ho
  · obtain ⟨hs, k, e, hk, he⟩ := okG_b ho
    by_cases hm : more < 0
    · exact w_RoundMore_mn sh pt gd more row w hre hrr hs k e hk he hm hg
    · by_cases hm2 : more > 5
      · exact w_RoundMore_mx sh pt gd more row w hre hrr hs k e hk he hm hm2 hg
      · obtain ⟨m, hmm⟩ := Int.eq_ofNat_of_zero_le (show 0 ≤ more by omega)
        rcases bool_tf (inB ((k : Int) + (m : Int)) 0 (sh.errs.length - 1)) with hgn | hgn
        · have hb := inB_iff.1 hgn
          obtain ⟨e2, he2⟩ := some_get (xs := sh.errs) (k := k + m) (by omega)
          rcases bool_tf (inB row 0 (sh.rows.length - 1)) with hrn | hrn
          · obtain ⟨i, r, hi, hr⟩ := row_ex hrn
            exact w_RoundMore_ok sh pt gd more row w hre hrr hs k e hk he m hmm (by omega) e2 he2 i r hi hr hg
          · exact w_RoundMore_rN sh pt gd more row w hre hrr hs k e hk he m hmm (by omega) e2 he2 hrn hg
        · exact w_RoundMore_gN sh pt gd more row w hre hrr hs k e hk he m hmm (by omega) hgn hg
  · exact w_RoundMore_no sh pt gd more row w hre hrr ho hg

end Go.Proofs


namespace Go.Proofs.YtebellbkmioadabGreatDoor
open Go Go.Sx Go.RowKit Go.WideShapes Go.ChangeShapes

section
variable {H : Type} {enc : TypeId × Value → H}
set_option maxRecDepth 100000 in
theorem roundMore_law (W : World) (base : Nat) (args : Array Value) (ds : List (DataW H)) (p : List MemPlace) (hval : ∀ (j : Nat) t v, Tryz.f3.params[j]? = some t → args[j]? = some v → Value.okWide Tryz.prog W .any base t v)
    (hA : DataW.TrodAll enc Tryz.prog W 0 (fun _ => true) true Tryz.f3.params.toList args.toList ds p) (hg : Gl W) : Calls Tryz.prog 3 args W (RetV W (.bool true)) := by
  obtain ⟨l⟩ := args
  rw [Tryz.params3] at hA hval
  obtain ⟨v0, l0, d0, e0, p0, q0, hl0, rfl, h0, hA0⟩ := trodAll_cons hA
  have hl0' : l = v0 :: l0 := hl0
  subst hl0'
  obtain ⟨v1, l1, d1, e1, p1, q1, hl1, rfl, h1, hA1⟩ := trodAll_cons hA0
  subst hl1
  obtain ⟨v2, l2, d2, e2, p2, q2, hl2, rfl, h2, hA2⟩ := trodAll_cons hA1
  subst hl2
  obtain ⟨v3, l3, d3, e3, p3, q3, hl3, rfl, h3, hA3⟩ := trodAll_cons hA2
  subst hl3
  obtain rfl := trodAll_nil hA3
  obtain ⟨sh0, pt0, rfl, hre0, hrr0⟩ := open_sh (hval 0 25 v0 rfl rfl) h0
  obtain ⟨n1, rfl, _⟩ := open_i u3 (hval 1 3 v1 rfl rfl) h1
  obtain ⟨n2, rfl, _⟩ := open_i u3 (hval 2 3 v2 rfl rfl) h2
  obtain ⟨n3, rfl, _⟩ := open_i u3 (hval 3 3 v3 rfl rfl) h3
  exact w_RoundMore sh0 pt0 n1 n2 n3 W hre0 hrr0 hg
end

set_option maxRecDepth 100000 in
theorem roundMore_lifted (os : Os) (started : os.Started) (H : Type) (enc : TypeId × Value → H) :
    ReturnsInHanded {} Tryz.checked os 3 .any (fun w args => (Rows.roundMoreSpec.pre enc Tryz.prog Tryz.f3 [] false w args ∧ laidMetH Tryz.prog laidL w) ∧ sizedMet enc Tryz.prog Tryz.f3 (OpenSpec.ofChange Rows.roundMoreSpec) false w args)
      (Rows.roundMoreSpec.post enc Tryz.prog Tryz.f3 false true false false) :=
  law_lifted started (by kernel_rfl) Tryz.func3 rfl rfl (by kernel_rfl) (fun ds h => by
      match ds, h with
      | [_, _, _, _], _ => rfl)
    (ChangeSpec.witness_shaped (enc := enc) (C := Tryz.checked) (os := os) (X := fun w _ => laidMetH Tryz.prog laidL w) false (World.laidAll Tryz.prog os laidL) #[.agg #[.int .i64 0, .int .i64 0, .slice none 0 0, .slice none 0 0], .int .i64 0, .int .i64 0, .int .i64 0] 8 (World.laidAll_os _ _ _)
      (World.shaped_of_ZipB (by kernel_rfl) (by kernel_rfl)) (by kernel_rfl) (by kernel_rfl) (by kernel_rfl)
      (by rw [MakeChecks.laidMetH_plain _ _ _ (by kernel_rfl)]; exact laidMet_laidAll _ (by kernel_rfl) (by kernel_rfl)))
    (fun W base args ds p hval hA hg => roundMore_law W base args ds p hval hA hg)

theorem roundMore_holds : Rows.RoundMoreSaid :=
  OpenClaim.holds_of_wide 3 Tryz.f3 rfl rfl rfl rfl rfl rfl rfl ⟨rfl, rfl, rfl, rfl, rfl⟩ rfl rfl rfl rfl rfl (by kernel_rfl) Tryz.func3 (by kernel_rfl)
    (of_decide_eq_true (by kernel_rfl)) (by unfold Func.isWrapper; first | (rw [if_pos (by decide +kernel)]; kernel_rfl) | (rw [if_neg (by decide +kernel)]; exact ⟨rfl, rfl⟩))
    (fun os started H enc _ => roundMore_lifted os started H enc)

theorem roundMore_card : Rows.RoundMoreCardSaid :=
  Claim7.holds_tied_plain_at .later [] [.data, .data, .data, .data, .pinned] true (true, "54bc54d732b00ab41745012f143d3a299984cc0782d0007b60a3d798b30a7197") true
    roundMore_holds (fun _ h => by cases h) (by kernel_rfl) (fun _ h => by cases h) roundMore_row_tie rfl ⟨rfl, rfl⟩ (by kernel_rfl) rfl
    (fun f fn hf hfn => by
      obtain rfl : f = 3 := Option.some.inj ((show Tryz.prog.funcNamed "ephemerist/ephemeristlaw04.RoundMore" = some 3 by kernel_rfl).symm.trans hf) |>.symm
      obtain rfl : fn = Tryz.f3 := (Option.some.inj (Tryz.func3.symm.trans hfn)).symm
      exact ⟨by kernel_rfl, fun j t ht => by
        rw [Tryz.params3] at ht
        have hm : t ∈ [25, 3, 3, 3] := by simpa using Array.mem_of_getElem? ht
        have hall : ([25, 3, 3, 3].all fun u => !Tryz.prog.wantsStandIn u) = true := by kernel_rfl
        exact (show Tryz.prog.wantsStandIn t = false by simpa using List.all_eq_true.1 hall t hm)⟩)
    (by kernel_rfl)
end Go.Proofs.YtebellbkmioadabGreatDoor

