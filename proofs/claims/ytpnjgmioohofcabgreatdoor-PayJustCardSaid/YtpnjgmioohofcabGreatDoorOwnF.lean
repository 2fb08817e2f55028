/- Contracts on texts that are read, the chapter's examples, and how a law's row follows from its contract. No condition beyond each theorem's own. -/
import Derived.Test.YtpnjgmioohofcabGreatDoorOwnE
import Derived.Test.YtpnjgmioohofcabGreatDoorOwnB
import Derived.Test.YtpnjgmioohofcabGreatDoorRows
import Derived.WalkKit
import Derived.ProofKit
import Derived.Lay
import Derived.Stop.LaidErr
import Derived.Lib.LaidTab
import Derived.Shelf.Vars
import Derived.MakeChecks
import Derived.LaidMore
import Derived.Stop.Joined
set_option linter.unusedVariables false
set_option linter.unusedSimpArgs false
namespace Go.Proofs
open Go Go.Sx Go.RowKit

set_option maxRecDepth 20000 in
theorem sure_t (z : ByteArray) (w : World)  : Calls Tryz.prog 100 #[.bool true, .string z] w (RetV w (.tuple #[])) := by
  refine calls_T0 (av := [_, _]) Tryz.func100 rfl rfl rfl ?_
  refine t_seq ?_
  refine t_reg ?_
  refine to_mv rfl rfl ?_
  refine to_not rfl rfl ?_
  refine to_nil ?_
  refine tn_code ?_
  refine t_ifF rfl ?_
  refine t_skip ?_
  exact t_end0 rfl rfl (fun w' s => rfl)

set_option maxRecDepth 20000 in
theorem sure_f (z : ByteArray) (w : World) : Calls Tryz.prog 100 #[.bool false, .string z] w (fun e w' => e = .panicked (pan 130 (.agg [.string z].toArray)) ∧ RowKit.Below w.heap.size w w') := by
  refine calls_TG (av := [_, _]) Tryz.func100 rfl rfl rfl (St.start w) ?_
  refine t_seq ?_
  refine t_reg ?_
  refine to_mv rfl rfl ?_
  refine to_not rfl rfl ?_
  refine to_nil ?_
  refine tn_code ?_
  refine t_ifT rfl ?_
  refine t_reg ?_
  refine to_mv rfl rfl ?_
  refine to_bs rfl rfl ?_
  refine to_mi rfl rfl rfl ?_
  exact to_panic rfl (fun a w' e s => ⟨e.ds, rfl, below_of s⟩)

def NumP (l : Bs) (w : World) : Ending → World → Prop := fun e w' => RowKit.Below w.heap.size w w' ∧ ((∃ n, numB l = some n ∧ e = .returned (.int .i64 n)) ∨ (numB l = none ∧ ∃ z, e = .panicked (pan 130 (.agg [.string z].toArray))))
theorem numB_bad {l : Bs} {p : Nat} {c : UInt8} (h : l[p]? = some c) (hd : isDg c = false) : numB l = none := by
  simp only [numB]
  rw [if_neg]
  rintro ⟨_, _, h3, _⟩
  have := List.all_eq_true.1 h3 c (List.mem_of_getElem? h)
  rw [hd] at this; cases this
theorem numB_long {l : Bs} (h : 3 < l.length) : numB l = none := by
  simp only [numB]
  rw [if_neg]
  rintro ⟨_, h2, _⟩
  omega
theorem numB_nil : numB [] = none := rfl
theorem numB_ne {l : Bs} (h : ¬ decB (valK l l.length) = l) : numB l = none := by
  simp only [numB]
  rw [if_neg]
  rintro ⟨_, _, _, h4⟩
  exact h h4
theorem numB_t {l : Bs} (h0 : ¬ l = []) (h1 : l.length ≤ 3) (h2 : ∀ j, j < l.length → ∀ c, l[j]? = some c → isDg c = true) (h3 : decB (valK l l.length) = l) : numB l = some (valK l l.length) := by
  simp only [numB]
  have hall : l.all isDg = true := by
    refine List.all_eq_true.2 (fun c hc => ?_)
    obtain ⟨j, hj⟩ := List.mem_iff_getElem?.1 hc
    exact h2 j (List.getElem?_eq_some_iff.1 hj).1 c hj
  rw [if_pos ⟨h0, h1, hall, h3⟩]
theorem dg_f {c : UInt8} (h : c.toNat < 48 ∨ 57 < c.toNat) : isDg c = false := by
  simp only [isDg, Bool.and_eq_false_iff, decide_eq_false_iff_not]
  omega
theorem dg_t {c : UInt8} (h : 48 ≤ c.toNat ∧ c.toNat ≤ 57) : isDg c = true := by
  simp only [isDg, Bool.and_eq_true, decide_eq_true_eq]; omega
theorem len_nil {l : Bs} (h : ¬ l = []) : 1 ≤ l.length := by cases l with
  | nil => exact absurd rfl h
  | cons _ _ => simp

set_option maxRecDepth 20000 in
theorem c_number (l : Bs) (w : World) (hg : Gl w) : Calls Tryz.prog 101 #[strV l] w (NumP l w) := by
  refine calls_TG (av := [_]) Tryz.func101 rfl rfl rfl (St.start w) ?_
  refine t_seq ?_
  refine t_reg ?_
  refine to_as rfl rfl ?_
  refine to_nil ?_
  refine tn_code ?_
  refine t_seq ?_
  refine t_reg ?_
  refine to_as rfl rfl ?_
  refine to_nil ?_
  refine tn_code ?_
  refine t_seq ?_
  refine t_seq ?_
  refine t_reg ?_
  refine to_mv rfl rfl ?_
  refine to_rgs rfl rfl (fun b7 => ?_)
  refine to_nil ?_
  refine tn_code ?_
  refine t_blk ?_
  refine t_loop2 (ι := Nat) (fun p => p ≤ l.length ∧ (∀ j, j < p → ∀ c, l[j]? = some c → isDg c = true) ∧ (1 ≤ p → l.length ≤ 3)) (fun p => [(0, strV l), (3, .int .i64 (valK l p)), (7, (.pointer (some ⟨b7, 0, none⟩)))]) (fun p => [.own b7 (isIt l p), .snap 0 w.heap.size w]) (fun p => l.length - p) (0) [.own b7 (isIt l 0), .snap 0 w.heap.size w] (rfl) (⟨Nat.zero_le _, fun j hj => absurd hj (Nat.not_lt_zero _), fun h => absurd h (by decide)⟩) (⟨rfl, rfl, rfl, trivial⟩) ?_
  rintro p ⟨hp0, hdg, hl3⟩
  show T _ _ _ ⟨_, [(0, strV l), (3, .int .i64 (valK l p)), (7, (.pointer (some ⟨b7, 0, none⟩)))], _⟩ [.own b7 (isIt l p), .snap 0 w.heap.size w]
  refine t_seq ?_
  refine t_reg ?_
  rcases nx_cases l p with ⟨c, hc, ha⟩ | ⟨c, hc, ha⟩ | hp
  · refine to_nxa rfl hc ha rfl ?_
    refine to_ex rfl rfl rfl ?_
    refine to_nil ?_
    refine tn_code ?_
    refine t_seq ?_
    refine t_ifT rfl ?_
    refine t_skip ?_
    refine tn_code ?_
    refine t_blk ?_
    refine t_seq ?_
    refine t_reg ?_
    refine to_ex rfl rfl rfl ?_
    refine to_as rfl rfl ?_
    refine to_nil ?_
    refine tn_code ?_
    refine t_seq ?_
    refine t_reg ?_
    refine to_mv rfl rfl ?_
    refine to_geqk rfl rfl rfl ?_
    refine to_mv rfl rfl ?_
    refine to_gs rfl rfl rfl (fun h1 => ?_) (fun h1 => ?_)
    · try simp only [decide_eq_true_eq, decide_eq_false_iff_not, Bool.not_eq_true', Bool.not_eq_false', Int.not_lt, Int.not_le, ne_eq, Decidable.not_not] at h1
      try have h1b := inB_iff.1 h1
      refine to_gt rfl rfl ?_
      refine to_mv rfl rfl ?_
      refine to_gt rfl rfl ?_
      refine to_leqk rfl rfl rfl ?_
      refine to_pkT rfl rfl rfl ?_
      refine to_mv rfl rfl ?_
      refine to_gs rfl rfl rfl (fun h2 => ?_) (fun h2 => ?_)
      · try simp only [decide_eq_true_eq, decide_eq_false_iff_not, Bool.not_eq_true', Bool.not_eq_false', Int.not_lt, Int.not_le, ne_eq, Decidable.not_not] at h2
        try have h2b := inB_iff.1 h2
        refine to_gt rfl rfl ?_
        refine to_mv rfl rfl ?_
        refine to_gt rfl rfl ?_
        refine to_lenL rfl rfl ?_
        refine to_gt rfl rfl ?_
        refine to_leq rfl rfl rfl ?_
        refine to_pkT rfl rfl rfl ?_
        refine to_mv rfl rfl ?_
        refine to_bc (s := 21) rfl (fun h3 => ?_) (fun h3 => ?_)
        · try simp only [decide_eq_true_eq, decide_eq_false_iff_not, Bool.not_eq_true', Bool.not_eq_false', Int.not_lt, Int.not_le, ne_eq, Decidable.not_not] at h3
          try have h3b := inB_iff.1 h3
          refine to_call0 rfl rfl (fun w s => sure_t _ w) rfl ?_
          refine to_nil ?_
          refine tn_code ?_
          have hpl : p + 1 ≤ l.length := (List.getElem?_eq_some_iff.1 hc).1
          have hl2 : l.length ≤ 3 := by omega
          have hdc := dg_t (c := c) (by omega)
          have hdg2 : ∀ j, j < p + 1 → ∀ c, l[j]? = some c → isDg c = true := by
            intro j hj cc hcc
            rcases Nat.lt_succ_iff_lt_or_eq.1 hj with h' | rfl
            · exact hdg j h' cc hcc
            · rw [hc] at hcc; cases hcc; exact hdc
          have hvb := valK_b hdg hp0 (by omega)
          refine t_reg ?_
          refine to_mv rfl rfl ?_
          refine to_mul rfl rfl (by first | omega | exact mul_ok (by omega) (by omega) (by omega) (by omega)) rfl ?_
          refine to_mv rfl rfl ?_
          refine to_subk rfl rfl (by first | exact IntWalk.i32_in _ (by omega) | exact IntWalk.u8_in _ (by omega)) rfl ?_
          refine to_cv rfl (by first | exact wrap_id (by omega) | exact IntWalk.u8_in _ (by omega) | exact IntWalk.i32_in _ (by omega)) rfl ?_
          refine to_add rfl rfl (by omega) rfl ?_
          refine to_as rfl rfl ?_
          refine to_nil ?_
          refine tn_blk ?_
          exact tn_loop2 (p + 1) [.own b7 (isIt l (p + 1)), .snap 0 w.heap.size w] (rfl) (⟨hpl, hdg2, fun _ => hl2⟩) (by omega) (⟨rfl, congrArg (fun z => some (Value.int .i64 z)) (by rw [valK_succ hc]), rfl, trivial⟩)
        · try simp only [decide_eq_true_eq, decide_eq_false_iff_not, Bool.not_eq_true', Bool.not_eq_false', Int.not_lt, Int.not_le, ne_eq, Decidable.not_not] at h3
          try have h3b := inB_iff.1 h3
          exact to_callF rfl rfl (fun w s => sure_f _ w) rfl (fun w' s a ea => ⟨ea.ds, below_of s, .inr ⟨(by first | exact numB_bad hc (dg_f (by omega)) | exact numB_long (by omega)), _, rfl⟩⟩)
      · try simp only [decide_eq_true_eq, decide_eq_false_iff_not, Bool.not_eq_true', Bool.not_eq_false', Int.not_lt, Int.not_le, ne_eq, Decidable.not_not] at h2
        try have h2b := inB_iff.1 h2
        refine to_gf rfl rfl rfl rfl ?_
        refine to_gf rfl rfl rfl rfl ?_
        refine to_gf rfl rfl rfl rfl ?_
        refine to_pkF rfl rfl rfl ?_
        refine to_mv rfl rfl ?_
        exact to_callF rfl rfl (fun w s => sure_f _ w) rfl (fun w' s a ea => ⟨ea.ds, below_of s, .inr ⟨(by first | exact numB_bad hc (dg_f (by omega)) | exact numB_long (by omega)), _, rfl⟩⟩)
    · try simp only [decide_eq_true_eq, decide_eq_false_iff_not, Bool.not_eq_true', Bool.not_eq_false', Int.not_lt, Int.not_le, ne_eq, Decidable.not_not] at h1
      try have h1b := inB_iff.1 h1
      refine to_gf rfl rfl rfl rfl ?_
      refine to_gf rfl rfl rfl rfl ?_
      refine to_pkF rfl rfl rfl ?_
      refine to_mv rfl rfl ?_
      refine to_gf rfl rfl rfl rfl ?_
      refine to_gf rfl rfl rfl rfl ?_
      refine to_gf rfl rfl rfl rfl ?_
      refine to_pkF rfl rfl rfl ?_
      refine to_mv rfl rfl ?_
      exact to_callF rfl rfl (fun w s => sure_f _ w) rfl (fun w' s a ea => ⟨ea.ds, below_of s, .inr ⟨(by first | exact numB_bad hc (dg_f (by omega)) | exact numB_long (by omega)), _, rfl⟩⟩)
  · refine to_nxm rfl hc ha rfl (fun r q hr => ?_)
    refine to_ex rfl rfl rfl ?_
    refine to_nil ?_
    refine tn_code ?_
    refine t_seq ?_
    refine t_ifT rfl ?_
    refine t_skip ?_
    refine tn_code ?_
    refine t_blk ?_
    refine t_seq ?_
    refine t_reg ?_
    refine to_ex rfl rfl rfl ?_
    refine to_as rfl rfl ?_
    refine to_nil ?_
    refine tn_code ?_
    refine t_seq ?_
    refine t_reg ?_
    refine to_mv rfl rfl ?_
    refine to_geqk rfl rfl rfl ?_
    refine to_fix (s := 12) (b' := true) rfl (decide_eq_true (by omega)) ?_
    refine to_mv rfl rfl ?_
    refine to_gt rfl rfl ?_
    refine to_mv rfl rfl ?_
    refine to_gt rfl rfl ?_
    refine to_leqk rfl rfl rfl ?_
    refine to_fix (s := 15) (b' := false) rfl (decide_eq_false (by omega)) ?_
    refine to_pkT rfl rfl rfl ?_
    refine to_mv rfl rfl ?_
    refine to_gf rfl rfl rfl rfl ?_
    refine to_gf rfl rfl rfl rfl ?_
    refine to_gf rfl rfl rfl rfl ?_
    refine to_pkF rfl rfl rfl ?_
    refine to_mv rfl rfl ?_
    exact to_callF rfl rfl (fun w s => sure_f _ w) rfl (fun w' s a ea => ⟨ea.ds, below_of s, .inr ⟨(by first | exact numB_bad hc (dg_f (by omega)) | exact numB_long (by omega)), _, rfl⟩⟩)
  · refine to_nxe rfl hp rfl ?_
    refine to_ex rfl rfl rfl ?_
    refine to_nil ?_
    refine tn_code ?_
    refine t_seq ?_
    refine t_ifF rfl ?_
    refine t_exit ?_
    refine tx_code ?_
    refine tx_inv ?_
    refine tx_blk ?_
    refine tn_code ?_
    refine t_seq ?_
    have hpe : p = l.length := by omega
    subst hpe
    refine t_reg ?_
    refine to_mv rfl rfl ?_
    refine to_sne rfl rfl rfl ?_
    refine to_mv rfl rfl ?_
    refine to_gs rfl rfl rfl (fun h4 => ?_) (fun h4 => ?_)
    · try simp only [decide_eq_true_eq, decide_eq_false_iff_not, Bool.not_eq_true', Bool.not_eq_false', Int.not_lt, Int.not_le, ne_eq, Decidable.not_not] at h4
      try have h4b := inB_iff.1 h4
      have hlp := len_nil (l := l) h4
      have hvb := valK_b hdg (Nat.le_refl _) (hl3 hlp)
      refine to_gt rfl rfl ?_
      refine to_mv rfl rfl ?_
      refine to_gt rfl rfl ?_
      refine to_call0 rfl rfl (fun w s => itoa_c _ w hvb (gl_up hg (belowH_of s))) rfl ?_
      refine to_gt rfl rfl ?_
      refine to_mv rfl rfl ?_
      refine to_gt rfl rfl ?_
      refine to_seq rfl rfl rfl ?_
      refine to_pkT rfl rfl rfl ?_
      refine to_mv rfl rfl ?_
      refine to_bc (s := 37) rfl (fun h5 => ?_) (fun h5 => ?_)
      · try simp only [decide_eq_true_eq, decide_eq_false_iff_not, Bool.not_eq_true', Bool.not_eq_false', Int.not_lt, Int.not_le, ne_eq, Decidable.not_not] at h5
        try have h5b := inB_iff.1 h5
        refine to_call0 rfl rfl (fun w s => sure_t _ w) rfl ?_
        refine to_nil ?_
        refine tn_code ?_
        refine t_seq ?_
        refine t_reg ?_
        refine to_mv rfl rfl ?_
        refine to_as rfl rfl ?_
        refine to_nil ?_
        refine tn_code ?_
        refine t_ret1G rfl rfl (res_tmp rfl) (fun w' s => ?_)
        exact ⟨below_of s, .inl ⟨_, numB_t (by assumption) (hl3 (len_nil (by assumption))) hdg (by assumption), rfl⟩⟩
      · try simp only [decide_eq_true_eq, decide_eq_false_iff_not, Bool.not_eq_true', Bool.not_eq_false', Int.not_lt, Int.not_le, ne_eq, Decidable.not_not] at h5
        try have h5b := inB_iff.1 h5
        exact to_callF rfl rfl (fun w s => sure_f _ w) rfl (fun w' s a ea => ⟨ea.ds, below_of s, .inr ⟨(by first | (subst_vars; exact numB_nil) | exact numB_ne (by assumption)), _, rfl⟩⟩)
    · try simp only [decide_eq_true_eq, decide_eq_false_iff_not, Bool.not_eq_true', Bool.not_eq_false', Int.not_lt, Int.not_le, ne_eq, Decidable.not_not] at h4
      try have h4b := inB_iff.1 h4
      refine to_gf rfl rfl rfl rfl ?_
      refine to_gf rfl rfl rfl rfl ?_
      refine to_gf rfl rfl rfl rfl ?_
      refine to_gf rfl rfl rfl rfl ?_
      refine to_pkF rfl rfl rfl ?_
      refine to_mv rfl rfl ?_
      exact to_callF rfl rfl (fun w s => sure_f _ w) rfl (fun w' s a ea => ⟨ea.ds, below_of s, .inr ⟨(by first | (subst_vars; exact numB_nil) | exact numB_ne (by assumption)), _, rfl⟩⟩)

end Go.Proofs


namespace Go.Proofs
open Go Go.Sx Go.RowKit

def ParP (s : Bs) (w : World) : Ending → World → Prop := fun e w' => RowKit.Below w.heap.size w w' ∧ ((∃ (b : Bk) (a : Option Addr) (c : Nat), parseB s = some b ∧ e = .returned (bkV b a c) ∧ Ro w' w.heap.size w'.heap.size a b.lines.length c 10 (b.lines.map linC)) ∨ (parseB s = none ∧ ∃ z, e = .panicked (pan 130 (.agg [.string z].toArray))))
theorem splitL_each (c : UInt8) : ∀ {s r : Bs}, r ∈ splitL c s → r.length ≤ s.length
  | [], r, h => by simp [splitL] at h; subst h; exact Nat.le_refl _
  | x :: xs, r, h => by
    simp only [splitL] at h
    split at h
    · rcases List.mem_cons.1 h with rfl | h
      · exact Nat.zero_le _
      · have := splitL_each c h; simp; omega
    · split at h
      · simp at h; subst h; simp
      · rename_i w ws he
        rcases List.mem_cons.1 h with rfl | h
        · have := splitL_each c (s := xs) (r := w) (by rw [he]; exact List.mem_cons_self ..)
          simp; omega
        · have := splitL_each c (s := xs) (r := r) (by rw [he]; exact List.mem_cons_of_mem _ h)
          simp; omega
theorem len6 {ns : List Int} (h : ns.length = 6) : ∃ n0 n1 n2 n3 n4 n5, ns = [n0, n1, n2, n3, n4, n5] := by
  match ns, h with
  | [n0, n1, n2, n3, n4, n5], _ => exact ⟨_, _, _, _, _, _, rfl⟩
theorem len10 {ns : List Int} (h : ns.length = 10) : ∃ n0 n1 n2 n3 n4 n5 n6 n7 n8 n9, ns = [n0, n1, n2, n3, n4, n5, n6, n7, n8, n9] := by
  match ns, h with
  | [n0, n1, n2, n3, n4, n5, n6, n7, n8, n9], _ => exact ⟨_, _, _, _, _, _, _, _, _, _, rfl⟩
theorem parse_short {s : Bs} (h : (splitL 10 s).length < 3) : parseB s = none := by
  simp only [parseB]; rw [if_neg (by omega)]
theorem parse_none {s : Bs} {i : Nat} {b : Bk} {r : Bs} (h3 : 3 ≤ (splitL 10 s).length) (hb : bkK (splitL 10 s) i = some b) (hr : (splitL 10 s)[i]? = some r) (hi : i < (splitL 10 s).length - 2) (hn : stepB i r b = none) : parseB s = none := by
  simp only [parseB]
  rw [if_pos h3, bkK_none (i := i + 1) (by rw [bkK_succ hb hr, hn]) _ (by omega)]
theorem parse_ne {s : Bs} {b : Bk} (h3 : 3 ≤ (splitL 10 s).length) (hb : bkK (splitL 10 s) ((splitL 10 s).length - 2) = some b) (hn : ¬ textB b = s) : parseB s = none := by
  simp only [parseB]
  rw [if_pos h3, hb]
  exact if_neg hn
theorem parse_t {s : Bs} {b : Bk} (h3 : 3 ≤ (splitL 10 s).length) (hb : bkK (splitL 10 s) ((splitL 10 s).length - 2) = some b) (hn : textB b = s) : parseB s = some b := by
  simp only [parseB]
  rw [if_pos h3, hb]
  exact if_pos hn
theorem step_bad {i : Nat} {r : Bs} {b : Bk} (h : rowN r = none) : stepB i r b = none := by simp only [stepB, h]
theorem step_0f {r : Bs} {b : Bk} {ns : List Int} (h : rowN r = some ns) (hl : ¬ ns.length = 6) : stepB 0 r b = none := by simp only [stepB, h, if_true, if_neg hl]
theorem step_0t {r : Bs} {b : Bk} {ns : List Int} (h : rowN r = some ns) (hl : ns.length = 6) : stepB 0 r b = some (hdOf ns) := by simp only [stepB, h, if_true, if_pos hl]
theorem step_f {i : Nat} {r : Bs} {b : Bk} {ns : List Int} (h : rowN r = some ns) (hi : ¬ i = 0) (hl : ¬ ns.length = 10) : stepB i r b = none := by simp only [stepB, h, if_neg hi, if_neg hl]
theorem step_t {i : Nat} {r : Bs} {b : Bk} {ns : List Int} (h : rowN r = some ns) (hi : ¬ i = 0) (hl : ns.length = 10) : stepB i r b = some { b with lines := b.lines ++ [lnOf ns] } := by simp only [stepB, h, if_neg hi, if_pos hl]
theorem rowN_bad {r wd : Bs} {k : Nat} (h : ((splitL 32 r).drop 1)[k]? = some wd) (hn : numB wd = none) : rowN r = none := numsB_none h hn
theorem rowN_t {r : Bs} {ns : List Int} {k : Nat} (hk : k = (splitL 32 r).length - 1) (h : numsB (((splitL 32 r).drop 1).take k) = some ns) : rowN r = some ns := by
  rw [rowN, ← h, List.take_of_length_le (by rw [List.length_drop]; omega)]
theorem nums_next {ws : List Bs} {wd : Bs} {k : Nat} {ns : List Int} {n : Int} (h : numsB (ws.take k) = some ns) (hw : ws[k]? = some wd) (hn : numB wd = some n) : numsB (ws.take (k + 1)) = some (ns ++ [n]) := by
  rw [take_snoc hw, numsB_snoc, h, hn]

set_option maxRecDepth 20000 in
theorem c_parsed (tx : Bs) (w : World) (hls : tx.length ≤ 500) (hg : Gl w) : Calls Tryz.prog 70 #[strV tx] w (ParP tx w) := by
  have hsl := splitL_len 10 tx
  refine calls_TG (av := [_]) Tryz.func70 rfl rfl rfl (St.start w) ?_
  refine t_seq ?_
  refine t_reg ?_
  refine to_alloc rfl (fun b2 => ?_)
  refine to_nil ?_
  refine tn_code ?_
  refine t_seq ?_
  refine t_reg ?_
  refine to_mv rfl rfl ?_
  refine to_callR rfl rfl (fun w s => split_c tx 10 w (by omega) (gl_up hg (belowH_of s))) rfl (fun v11 lo11 w11 hlo11 hR11 => ?_)
  obtain ⟨a11, c11, rfl, hro11⟩ := hR11
  refine to_as rfl rfl ?_
  refine to_nil ?_
  refine tn_code ?_
  refine t_seq ?_
  refine t_reg ?_
  refine to_mv rfl rfl ?_
  refine to_lenS rfl rfl ?_
  refine to_geq rfl rfl rfl ?_
  refine to_mv rfl rfl ?_
  refine to_bc (s := 14) rfl (fun h1 => ?_) (fun h1 => ?_)
  · try simp only [decide_eq_true_eq, decide_eq_false_iff_not, Bool.not_eq_true', Bool.not_eq_false', Int.not_lt, Int.not_le, ne_eq, Decidable.not_not] at h1
    try have h1b := inB_iff.1 h1
    have hr3 : 3 ≤ (splitL 10 tx).length := by omega
    refine to_call0 rfl rfl (fun w s => sure_t _ w) rfl ?_
    refine to_nil ?_
    refine tn_code ?_
    refine t_seq ?_
    refine t_reg ?_
    refine to_alloc rfl (fun b4 => ?_)
    refine to_nil ?_
    refine tn_code ?_
    refine t_seq ?_
    refine t_seq ?_
    refine t_reg ?_
    refine to_mv rfl rfl ?_
    refine to_mv rfl rfl ?_
    refine to_lenS rfl rfl ?_
    refine to_sub rfl rfl (by omega) rfl ?_
    refine to_slHk ((splitL 10 tx).length - 2) rfl rfl (by simp only [Int.ofNat_eq_natCast]; omega) (by have := hro11.le; omega) rfl ?_
    refine to_lenS rfl rfl ?_
    refine to_mv rfl rfl ?_
    refine to_nil ?_
    refine tn_code ?_
    refine t_blk ?_
    refine t_nilrow 52 10 ?_
    refine t_loop2 (ι := Nat × Bk × Option Addr × Nat) (fun ((i, b, a', c') : Nat × Bk × Option Addr × Nat) => i ≤ (splitL 10 tx).length - 2 ∧ bkK (splitL 10 tx) i = some b) (fun ((i, b, a', c') : Nat × Bk × Option Addr × Nat) => [(0, strV tx), (2, (.pointer (some ⟨b2, 0, none⟩))), (4, (.pointer (some ⟨b4, 0, none⟩))), (21, .slice a11 ((splitL 10 tx).length - 2) c11), (22, .int .i64 (((splitL 10 tx).length - 2 : Nat) : Int)), (23, .int .i64 (i : Int))]) (fun ((i, b, a', c') : Nat × Bk × Option Addr × Nat) => [.own b4 (isC (bkC b a' c') 24), .row a' b.lines.length c' 52 10 (b.lines.map linC), .own b2 (isC [.int .i64 0, .int .i64 0, .int .i64 0, .int .i64 0, .int .i64 0, .int .i64 0, .slice none 0 0] 24), .snap lo11 w11.heap.size w11, .snap 0 w.heap.size w]) (fun ((i, b, a', c') : Nat × Bk × Option Addr × Nat) => (splitL 10 tx).length - 2 - i) ((0, bk0, none, 0)) [.own b4 (isC [.int .i64 0, .int .i64 0, .int .i64 0, .int .i64 0, .int .i64 0, .int .i64 0, .slice none 0 0] 24), .row none 0 0 52 10 [], .own b2 (isC [.int .i64 0, .int .i64 0, .int .i64 0, .int .i64 0, .int .i64 0, .int .i64 0, .slice none 0 0] 24), .snap lo11 w11.heap.size w11, .snap 0 w.heap.size w] (rfl) (⟨Nat.zero_le _, rfl⟩) (⟨rfl, rfl, rfl, rfl, rfl, rfl, trivial⟩) ?_
    rintro ⟨i, b, a', c'⟩ hk
    try dsimp only at hk
    show T _ _ _ ⟨_, [(0, strV tx), (2, (.pointer (some ⟨b2, 0, none⟩))), (4, (.pointer (some ⟨b4, 0, none⟩))), (21, .slice a11 ((splitL 10 tx).length - 2) c11), (22, .int .i64 (((splitL 10 tx).length - 2 : Nat) : Int)), (23, .int .i64 (i : Int))], _⟩ [.own b4 (isC (bkC b a' c') 24), .row a' b.lines.length c' 52 10 (b.lines.map linC), .own b2 (isC [.int .i64 0, .int .i64 0, .int .i64 0, .int .i64 0, .int .i64 0, .int .i64 0, .slice none 0 0] 24), .snap lo11 w11.heap.size w11, .snap 0 w.heap.size w]
    refine t_seq ?_
    refine t_reg ?_
    refine to_lss rfl rfl rfl ?_
    refine to_nil ?_
    refine tn_code ?_
    refine t_seq ?_
    refine t_if rfl (fun h2 => ?_) (fun h2 => ?_)
    · try simp only [decide_eq_true_eq, decide_eq_false_iff_not, Bool.not_eq_true', Bool.not_eq_false', Int.not_lt, Int.not_le, ne_eq, Decidable.not_not] at h2
      try have h2b := inB_iff.1 h2
      obtain ⟨hi, hbk⟩ := hk
      obtain ⟨r, hr⟩ := some_get (xs := splitL 10 tx) (k := i) (by omega)
      have hx := map_get (f := strC) hr
      have hrl := splitL_each 10 (List.mem_of_getElem? hr)
      have hsl2 := splitL_len 32 r
      have hok0 := (bkK_ok hbk).2
      refine t_skip ?_
      refine tn_code ?_
      refine t_seq ?_
      refine t_blk ?_
      refine t_seq ?_
      refine t_reg ?_
      refine to_mv rfl rfl ?_
      first | refine to_ix rfl rfl rfl (by first | omega | decide) (by first | omega | decide) rfl ?_ | refine to_ixi rfl rfl rfl (by omega) (by omega) (by omega) rfl ?_
      first | refine to_lds rfl rfl rfl ?_ | refine to_ldes rfl (by assumption) rfl rfl ?_
      refine to_as rfl rfl ?_
      refine to_as rfl rfl ?_
      refine to_nil ?_
      refine tn_code ?_
      refine t_seq ?_
      refine t_reg ?_
      refine to_as rfl rfl ?_
      refine to_nil ?_
      refine tn_code ?_
      refine t_seq ?_
      refine t_seq ?_
      refine t_reg ?_
      refine to_mv rfl rfl ?_
      refine to_callR rfl rfl (fun w s => split_c r 32 w (by omega) (gl_up hg (belowH_of s))) rfl (fun v29 lo29 w29 hlo29 hR29 => ?_)
      obtain ⟨a29, c29, rfl, hro29⟩ := hR29
      refine to_slL rfl rfl hsl2.1 rfl (fun a30 hS30 => ?_)
      refine to_lenS rfl rfl ?_
      refine to_mv rfl rfl ?_
      refine to_nil ?_
      refine tn_code ?_
      refine t_blk ?_
      refine t_nilrow 3 1 ?_
      refine t_loop2 (ι := Nat × List Int × Option Addr × Nat) (fun ((k, ns, a2, c2) : Nat × List Int × Option Addr × Nat) => k ≤ (splitL 32 r).length - 1 ∧ numsB (((splitL 32 r).drop 1).take k) = some ns) (fun ((k, ns, a2, c2) : Nat × List Int × Option Addr × Nat) => [(0, strV tx), (2, (.pointer (some ⟨b2, 0, none⟩))), (4, (.pointer (some ⟨b4, 0, none⟩))), (5, .int .i64 (i : Int)), (6, strV r), (7, .slice a2 k c2), (21, .slice a11 ((splitL 10 tx).length - 2) c11), (22, .int .i64 (((splitL 10 tx).length - 2 : Nat) : Int)), (23, .int .i64 (i : Int)), (30, .slice a30 ((splitL 32 r).length - 1) (c29 - 1)), (31, .int .i64 (((splitL 32 r).length - 1 : Nat) : Int)), (32, .int .i64 (k : Int))]) (fun ((k, ns, a2, c2) : Nat × List Int × Option Addr × Nat) => [.row a2 k c2 3 1 (ints ns), .snap lo29 w29.heap.size w29, .own b4 (isC (bkC b a' c') 24), .row a' b.lines.length c' 52 10 (b.lines.map linC), .own b2 (isC [.int .i64 0, .int .i64 0, .int .i64 0, .int .i64 0, .int .i64 0, .int .i64 0, .slice none 0 0] 24), .snap lo11 w11.heap.size w11, .snap 0 w.heap.size w]) (fun ((k, ns, a2, c2) : Nat × List Int × Option Addr × Nat) => (splitL 32 r).length - 1 - k) ((0, [], none, 0)) [.row none 0 0 3 1 [], .snap lo29 w29.heap.size w29, .own b4 (isC (bkC b a' c') 24), .row a' b.lines.length c' 52 10 (b.lines.map linC), .own b2 (isC [.int .i64 0, .int .i64 0, .int .i64 0, .int .i64 0, .int .i64 0, .int .i64 0, .slice none 0 0] 24), .snap lo11 w11.heap.size w11, .snap 0 w.heap.size w] (rfl) (⟨Nat.zero_le _, rfl⟩) (⟨rfl, rfl, rfl, rfl, rfl, rfl, rfl, rfl, rfl, rfl, rfl, rfl, trivial⟩) ?_
      rintro ⟨k, ns, a2, c2⟩ hk
      try dsimp only at hk
      show T _ _ _ ⟨_, [(0, strV tx), (2, (.pointer (some ⟨b2, 0, none⟩))), (4, (.pointer (some ⟨b4, 0, none⟩))), (5, .int .i64 (i : Int)), (6, strV r), (7, .slice a2 k c2), (21, .slice a11 ((splitL 10 tx).length - 2) c11), (22, .int .i64 (((splitL 10 tx).length - 2 : Nat) : Int)), (23, .int .i64 (i : Int)), (30, .slice a30 ((splitL 32 r).length - 1) (c29 - 1)), (31, .int .i64 (((splitL 32 r).length - 1 : Nat) : Int)), (32, .int .i64 (k : Int))], _⟩ [.row a2 k c2 3 1 (ints ns), .snap lo29 w29.heap.size w29, .own b4 (isC (bkC b a' c') 24), .row a' b.lines.length c' 52 10 (b.lines.map linC), .own b2 (isC [.int .i64 0, .int .i64 0, .int .i64 0, .int .i64 0, .int .i64 0, .int .i64 0, .slice none 0 0] 24), .snap lo11 w11.heap.size w11, .snap 0 w.heap.size w]
      refine t_seq ?_
      refine t_reg ?_
      refine to_lss rfl rfl rfl ?_
      refine to_nil ?_
      refine tn_code ?_
      refine t_seq ?_
      refine t_if rfl (fun h3 => ?_) (fun h3 => ?_)
      · try simp only [decide_eq_true_eq, decide_eq_false_iff_not, Bool.not_eq_true', Bool.not_eq_false', Int.not_lt, Int.not_le, ne_eq, Decidable.not_not] at h3
        try have h3b := inB_iff.1 h3
        obtain ⟨hk2, hns⟩ := hk
        obtain ⟨wd, hw⟩ := some_get (xs := (splitL 32 r).drop 1) (k := k) (by rw [List.length_drop]; omega)
        have hx2 : ((strs (splitL 32 r)).drop 1)[k]? = some (strC wd) := by rw [← List.map_drop]; exact map_get (f := strC) hw
        have hnl := (numsB_b hns).1
        rw [List.length_take, List.length_drop] at hnl
        refine t_skip ?_
        refine tn_code ?_
        refine t_seq ?_
        refine t_blk ?_
        refine t_seq ?_
        refine t_reg ?_
        first | refine to_ix rfl rfl rfl (by first | omega | decide) (by first | omega | decide) rfl ?_ | refine to_ixi rfl rfl rfl (by omega) (by omega) (by omega) rfl ?_
        first | refine to_lds rfl rfl rfl ?_ | refine to_ldes rfl (by assumption) rfl rfl ?_
        refine to_as rfl rfl ?_
        refine to_nil ?_
        refine tn_code ?_
        refine t_reg ?_
        refine to_mv rfl rfl ?_
        refine to_mv rfl rfl ?_
        refine to_callP (R := NumP wd) rfl rfl (fun w s => c_number wd w (gl_up hg (belowH_of s))) rfl (fun w2 s2 e2 w3 hd => ?_)
        obtain ⟨hbl, ⟨nn, hn, rfl⟩ | ⟨hn, z, rfl⟩⟩ := hd
        rotate_left
        · exact .inr ⟨_, rfl, fun a ea => ⟨ea.ds, below_tr (below_of s2) hbl, .inr ⟨parse_none hr3 hbk hr (by omega) (step_bad (rowN_bad hw hn)), _, rfl⟩⟩⟩
        refine .inl ⟨_, _, rfl, s2.below hbl, ?_⟩
        · skip
          refine to_bsl rfl rfl rfl rfl (fun a39 => ?_)
          refine to_app rfl rfl rfl (by simp [scals, scal]) (by decide) (by omega) (by decide) rfl (fun a40 c40 => ?_)
          refine to_as rfl rfl ?_
          refine to_nil ?_
          refine tn_blk ?_
          refine tn_code ?_
          refine t_reg ?_
          refine to_add rfl rfl (by omega) rfl ?_
          refine to_mv rfl rfl ?_
          refine to_nil ?_
          exact tn_loop2 ((k + 1, ns ++ [nn], a40, c40)) [.row a40 (k + 1) c40 3 1 (ints ns ++ [[.int .i64 nn]]), .snap lo29 w29.heap.size w29, .own b4 (isC (bkC b a' c') 24), .row a' b.lines.length c' 52 10 (b.lines.map linC), .own b2 (isC [.int .i64 0, .int .i64 0, .int .i64 0, .int .i64 0, .int .i64 0, .int .i64 0, .slice none 0 0] 24), .snap lo11 w11.heap.size w11, .snap 0 w.heap.size w] (by dsimp only; rw [ints_snoc]) (⟨by (try dsimp only); omega, nums_next hns hw hn⟩) (by dsimp only; omega) (⟨rfl, rfl, rfl, rfl, rfl, rfl, rfl, rfl, rfl, rfl, rfl, rfl, trivial⟩)
      · try simp only [decide_eq_true_eq, decide_eq_false_iff_not, Bool.not_eq_true', Bool.not_eq_false', Int.not_lt, Int.not_le, ne_eq, Decidable.not_not] at h3
        try have h3b := inB_iff.1 h3
        obtain ⟨hk2, hns⟩ := hk
        have hkl : k = (splitL 32 r).length - 1 := by omega
        have hrn := rowN_t hkl hns
        have hnl := (numsB_b hns).1
        rw [List.length_take, List.length_drop] at hnl
        have hnk : ns.length = k := by omega
        refine t_exit ?_
        refine tx_code ?_
        refine tx_inv ?_
        refine tx_blk ?_
        refine tn_code ?_
        refine t_seq ?_
        refine t_seq ?_
        refine t_reg ?_
        refine to_mv rfl rfl ?_
        refine to_eql rfl rfl rfl ?_
        refine to_nil ?_
        refine tn_code ?_
        refine t_if rfl (fun h4 => ?_) (fun h4 => ?_)
        · try simp only [decide_eq_true_eq, decide_eq_false_iff_not, Bool.not_eq_true', Bool.not_eq_false', Int.not_lt, Int.not_le, ne_eq, Decidable.not_not] at h4
          try have h4b := inB_iff.1 h4
          have hi0 : i = 0 := by omega
          subst hi0
          refine t_seq ?_
          refine t_reg ?_
          refine to_mv rfl rfl ?_
          refine to_lenS rfl rfl ?_
          refine to_eql rfl rfl rfl ?_
          refine to_mv rfl rfl ?_
          refine to_bc (s := 46) rfl (fun h5 => ?_) (fun h5 => ?_)
          · try simp only [decide_eq_true_eq, decide_eq_false_iff_not, Bool.not_eq_true', Bool.not_eq_false', Int.not_lt, Int.not_le, ne_eq, Decidable.not_not] at h5
            try have h5b := inB_iff.1 h5
            have hk6 : k = 6 := by omega
            subst hk6
            obtain ⟨n0, n1, n2, n3, n4, n5, rfl⟩ := len6 hnk
            refine to_call0 rfl rfl (fun w s => sure_t _ w) rfl ?_
            refine to_nil ?_
            refine tn_code ?_
            refine t_seq ?_
            have hq0 : (ints [n0, n1, n2, n3, n4, n5])[0]? = some (intC n0) := rfl
            have hq1 : (ints [n0, n1, n2, n3, n4, n5])[1]? = some (intC n1) := rfl
            have hq2 : (ints [n0, n1, n2, n3, n4, n5])[2]? = some (intC n2) := rfl
            have hq3 : (ints [n0, n1, n2, n3, n4, n5])[3]? = some (intC n3) := rfl
            have hq4 : (ints [n0, n1, n2, n3, n4, n5])[4]? = some (intC n4) := rfl
            have hq5 : (ints [n0, n1, n2, n3, n4, n5])[5]? = some (intC n5) := rfl
            refine t_regM [19] [.row a2 6 c2 3 1 (ints [n0, n1, n2, n3, n4, n5]), .snap 0 w.heap.size w] rfl (by kernel_rfl) (by kernel_rfl) ?_
            refine tm_q ?e1 rfl ?q1 ?r1
            case q1 =>
              refine to_mv rfl rfl ?_
              exact tmq_end
            refine tm_q ?e2 rfl ?q2 ?r2
            case q2 =>
              first | refine to_ix rfl rfl rfl (by first | omega | decide) (by first | omega | decide) rfl ?_ | refine to_ixi rfl rfl rfl (by omega) (by omega) (by omega) rfl ?_
              exact tmq_end
            refine tm_q ?e3 rfl ?q3 ?r3
            case q3 =>
              first | refine to_lds rfl rfl rfl ?_ | refine to_ldes rfl (by assumption) rfl rfl ?_
              exact tmq_end
            refine tm_q ?e4 rfl ?q4 ?r4
            case q4 =>
              refine to_mv rfl rfl ?_
              exact tmq_end
            refine tm_q ?e5 rfl ?q5 ?r5
            case q5 =>
              first | refine to_ix rfl rfl rfl (by first | omega | decide) (by first | omega | decide) rfl ?_ | refine to_ixi rfl rfl rfl (by omega) (by omega) (by omega) rfl ?_
              exact tmq_end
            refine tm_q ?e6 rfl ?q6 ?r6
            case q6 =>
              first | refine to_lds rfl rfl rfl ?_ | refine to_ldes rfl (by assumption) rfl rfl ?_
              exact tmq_end
            refine tm_q ?e7 rfl ?q7 ?r7
            case q7 =>
              refine to_mv rfl rfl ?_
              exact tmq_end
            refine tm_q ?e8 rfl ?q8 ?r8
            case q8 =>
              first | refine to_ix rfl rfl rfl (by first | omega | decide) (by first | omega | decide) rfl ?_ | refine to_ixi rfl rfl rfl (by omega) (by omega) (by omega) rfl ?_
              exact tmq_end
            refine tm_q ?e9 rfl ?q9 ?r9
            case q9 =>
              first | refine to_lds rfl rfl rfl ?_ | refine to_ldes rfl (by assumption) rfl rfl ?_
              exact tmq_end
            refine tm_q ?e10 rfl ?q10 ?r10
            case q10 =>
              refine to_mv rfl rfl ?_
              exact tmq_end
            refine tm_q ?e11 rfl ?q11 ?r11
            case q11 =>
              first | refine to_ix rfl rfl rfl (by first | omega | decide) (by first | omega | decide) rfl ?_ | refine to_ixi rfl rfl rfl (by omega) (by omega) (by omega) rfl ?_
              exact tmq_end
            refine tm_q ?e12 rfl ?q12 ?r12
            case q12 =>
              first | refine to_lds rfl rfl rfl ?_ | refine to_ldes rfl (by assumption) rfl rfl ?_
              exact tmq_end
            refine tm_q ?e13 rfl ?q13 ?r13
            case q13 =>
              refine to_mv rfl rfl ?_
              exact tmq_end
            refine tm_q ?e14 rfl ?q14 ?r14
            case q14 =>
              first | refine to_ix rfl rfl rfl (by first | omega | decide) (by first | omega | decide) rfl ?_ | refine to_ixi rfl rfl rfl (by omega) (by omega) (by omega) rfl ?_
              exact tmq_end
            refine tm_q ?e15 rfl ?q15 ?r15
            case q15 =>
              first | refine to_lds rfl rfl rfl ?_ | refine to_ldes rfl (by assumption) rfl rfl ?_
              exact tmq_end
            refine tm_q ?e16 rfl ?q16 ?r16
            case q16 =>
              refine to_mv rfl rfl ?_
              exact tmq_end
            refine tm_q ?e17 rfl ?q17 ?r17
            case q17 =>
              first | refine to_ix rfl rfl rfl (by first | omega | decide) (by first | omega | decide) rfl ?_ | refine to_ixi rfl rfl rfl (by omega) (by omega) (by omega) rfl ?_
              exact tmq_end
            refine tm_q ?e18 rfl ?q18 ?r18
            case q18 =>
              first | refine to_lds rfl rfl rfl ?_ | refine to_ldes rfl (by assumption) rfl rfl ?_
              exact tmq_end
            refine tm_q ?e19 rfl ?q19 ?r19
            case q19 =>
              refine to_bs rfl rfl ?_
              exact tmq_end
            refine tm_s rfl ?_ (fun _ h => by cases h) rfl
            first | refine to_st rfl rfl rfl rfl ?_ | refine to_ste rfl rfl (by assumption) rfl rfl ?_
            refine tm_sl (by kernel_rfl) rfl rfl ?_
            refine tn_code ?_
            refine t_exit ?_
            refine tx_code ?_
            refine tx_blk ?_
            refine tn_code ?_
            refine t_reg ?_
            refine to_add rfl rfl (by omega) rfl ?_
            refine to_mv rfl rfl ?_
            refine to_nil ?_
            refine tx_nilrow 52 10 ?_
            exact tn_loop2 ((0 + 1, ⟨n0, n1, n2, n3, n4, n5, []⟩, none, 0)) [.own b4 (isC [.int .i64 n0, .int .i64 n1, .int .i64 n2, .int .i64 n3, .int .i64 n4, .int .i64 n5, .slice none 0 0] 24), .row none 0 0 52 10 [], .own b2 (isC [.int .i64 0, .int .i64 0, .int .i64 0, .int .i64 0, .int .i64 0, .int .i64 0, .slice none 0 0] 24), .snap lo11 w11.heap.size w11, .snap 0 w.heap.size w] (rfl) (⟨by (try dsimp only); omega, by (try dsimp only); rw [bkK_succ hbk hr]; exact step_0t hrn rfl⟩) (by dsimp only; omega) (⟨rfl, rfl, rfl, rfl, rfl, rfl, trivial⟩)
          · try simp only [decide_eq_true_eq, decide_eq_false_iff_not, Bool.not_eq_true', Bool.not_eq_false', Int.not_lt, Int.not_le, ne_eq, Decidable.not_not] at h5
            try have h5b := inB_iff.1 h5
            exact to_callF rfl rfl (fun w s => sure_f _ w) rfl (fun w' s a ea => ⟨ea.ds, below_of s, .inr ⟨parse_none hr3 hbk hr (by omega) (step_0f hrn (by omega)), _, rfl⟩⟩)
        · try simp only [decide_eq_true_eq, decide_eq_false_iff_not, Bool.not_eq_true', Bool.not_eq_false', Int.not_lt, Int.not_le, ne_eq, Decidable.not_not] at h4
          try have h4b := inB_iff.1 h4
          have hi0 : ¬ i = 0 := by omega
          refine t_skip ?_
          refine tn_code ?_
          refine t_seq ?_
          refine t_reg ?_
          refine to_mv rfl rfl ?_
          refine to_lenS rfl rfl ?_
          refine to_eql rfl rfl rfl ?_
          refine to_mv rfl rfl ?_
          refine to_bc (s := 70) rfl (fun h6 => ?_) (fun h6 => ?_)
          · try simp only [decide_eq_true_eq, decide_eq_false_iff_not, Bool.not_eq_true', Bool.not_eq_false', Int.not_lt, Int.not_le, ne_eq, Decidable.not_not] at h6
            try have h6b := inB_iff.1 h6
            have hk10 : k = 10 := by omega
            subst hk10
            obtain ⟨n0, n1, n2, n3, n4, n5, n6, n7, n8, n9, rfl⟩ := len10 hnk
            refine to_call0 rfl rfl (fun w s => sure_t _ w) rfl ?_
            refine to_nil ?_
            refine tn_code ?_
            have hq0 : (ints [n0, n1, n2, n3, n4, n5, n6, n7, n8, n9])[0]? = some (intC n0) := rfl
            have hq1 : (ints [n0, n1, n2, n3, n4, n5, n6, n7, n8, n9])[1]? = some (intC n1) := rfl
            have hq2 : (ints [n0, n1, n2, n3, n4, n5, n6, n7, n8, n9])[2]? = some (intC n2) := rfl
            have hq3 : (ints [n0, n1, n2, n3, n4, n5, n6, n7, n8, n9])[3]? = some (intC n3) := rfl
            have hq4 : (ints [n0, n1, n2, n3, n4, n5, n6, n7, n8, n9])[4]? = some (intC n4) := rfl
            have hq5 : (ints [n0, n1, n2, n3, n4, n5, n6, n7, n8, n9])[5]? = some (intC n5) := rfl
            have hq6 : (ints [n0, n1, n2, n3, n4, n5, n6, n7, n8, n9])[6]? = some (intC n6) := rfl
            have hq7 : (ints [n0, n1, n2, n3, n4, n5, n6, n7, n8, n9])[7]? = some (intC n7) := rfl
            have hq8 : (ints [n0, n1, n2, n3, n4, n5, n6, n7, n8, n9])[8]? = some (intC n8) := rfl
            have hq9 : (ints [n0, n1, n2, n3, n4, n5, n6, n7, n8, n9])[9]? = some (intC n9) := rfl
            refine t_regM [35, 36, 38] [.row a2 10 c2 3 1 (ints [n0, n1, n2, n3, n4, n5, n6, n7, n8, n9]), .own b4 (isC (bkC b a' c') 24), .snap 0 w.heap.size w] rfl (by kernel_rfl) (by kernel_rfl) ?_
            refine tm_q ?e20 rfl ?q20 ?r20
            case q20 =>
              first | refine to_fa rfl rfl rfl (by simp only [Nat.reduceAdd]; rfl) rfl ?_ | refine to_fae rfl rfl rfl (by simp only [Nat.reduceAdd]; rfl) rfl ?_
              exact tmq_end
            refine tm_q ?e21 rfl ?q21 ?r21
            case q21 =>
              first | refine to_lds rfl rfl rfl ?_ | refine to_ldes rfl (by assumption) rfl rfl ?_
              exact tmq_end
            refine tm_q ?e22 rfl ?q22 ?r22
            case q22 =>
              refine to_mv rfl rfl ?_
              exact tmq_end
            refine tm_q ?e23 rfl ?q23 ?r23
            case q23 =>
              first | refine to_ix rfl rfl rfl (by first | omega | decide) (by first | omega | decide) rfl ?_ | refine to_ixi rfl rfl rfl (by omega) (by omega) (by omega) rfl ?_
              exact tmq_end
            refine tm_q ?e24 rfl ?q24 ?r24
            case q24 =>
              first | refine to_lds rfl rfl rfl ?_ | refine to_ldes rfl (by assumption) rfl rfl ?_
              exact tmq_end
            refine tm_q ?e25 rfl ?q25 ?r25
            case q25 =>
              refine to_mv rfl rfl ?_
              exact tmq_end
            refine tm_q ?e26 rfl ?q26 ?r26
            case q26 =>
              first | refine to_ix rfl rfl rfl (by first | omega | decide) (by first | omega | decide) rfl ?_ | refine to_ixi rfl rfl rfl (by omega) (by omega) (by omega) rfl ?_
              exact tmq_end
            refine tm_q ?e27 rfl ?q27 ?r27
            case q27 =>
              first | refine to_lds rfl rfl rfl ?_ | refine to_ldes rfl (by assumption) rfl rfl ?_
              exact tmq_end
            refine tm_q ?e28 rfl ?q28 ?r28
            case q28 =>
              refine to_mv rfl rfl ?_
              exact tmq_end
            refine tm_q ?e29 rfl ?q29 ?r29
            case q29 =>
              first | refine to_ix rfl rfl rfl (by first | omega | decide) (by first | omega | decide) rfl ?_ | refine to_ixi rfl rfl rfl (by omega) (by omega) (by omega) rfl ?_
              exact tmq_end
            refine tm_q ?e30 rfl ?q30 ?r30
            case q30 =>
              first | refine to_lds rfl rfl rfl ?_ | refine to_ldes rfl (by assumption) rfl rfl ?_
              exact tmq_end
            refine tm_q ?e31 rfl ?q31 ?r31
            case q31 =>
              refine to_mv rfl rfl ?_
              exact tmq_end
            refine tm_q ?e32 rfl ?q32 ?r32
            case q32 =>
              first | refine to_ix rfl rfl rfl (by first | omega | decide) (by first | omega | decide) rfl ?_ | refine to_ixi rfl rfl rfl (by omega) (by omega) (by omega) rfl ?_
              exact tmq_end
            refine tm_q ?e33 rfl ?q33 ?r33
            case q33 =>
              first | refine to_lds rfl rfl rfl ?_ | refine to_ldes rfl (by assumption) rfl rfl ?_
              exact tmq_end
            refine tm_q ?e34 rfl ?q34 ?r34
            case q34 =>
              refine to_bs rfl rfl ?_
              exact tmq_end
            refine tm_q ?e35 rfl ?q35 ?r35
            case q35 =>
              refine to_mv rfl rfl ?_
              exact tmq_end
            refine tm_q ?e36 rfl ?q36 ?r36
            case q36 =>
              first | refine to_ix rfl rfl rfl (by first | omega | decide) (by first | omega | decide) rfl ?_ | refine to_ixi rfl rfl rfl (by omega) (by omega) (by omega) rfl ?_
              exact tmq_end
            refine tm_q ?e37 rfl ?q37 ?r37
            case q37 =>
              first | refine to_lds rfl rfl rfl ?_ | refine to_ldes rfl (by assumption) rfl rfl ?_
              exact tmq_end
            refine tm_q ?e38 rfl ?q38 ?r38
            case q38 =>
              refine to_mv rfl rfl ?_
              exact tmq_end
            refine tm_q ?e39 rfl ?q39 ?r39
            case q39 =>
              first | refine to_ix rfl rfl rfl (by first | omega | decide) (by first | omega | decide) rfl ?_ | refine to_ixi rfl rfl rfl (by omega) (by omega) (by omega) rfl ?_
              exact tmq_end
            refine tm_q ?e40 rfl ?q40 ?r40
            case q40 =>
              first | refine to_lds rfl rfl rfl ?_ | refine to_ldes rfl (by assumption) rfl rfl ?_
              exact tmq_end
            refine tm_q ?e41 rfl ?q41 ?r41
            case q41 =>
              refine to_mv rfl rfl ?_
              exact tmq_end
            refine tm_q ?e42 rfl ?q42 ?r42
            case q42 =>
              first | refine to_ix rfl rfl rfl (by first | omega | decide) (by first | omega | decide) rfl ?_ | refine to_ixi rfl rfl rfl (by omega) (by omega) (by omega) rfl ?_
              exact tmq_end
            refine tm_q ?e43 rfl ?q43 ?r43
            case q43 =>
              first | refine to_lds rfl rfl rfl ?_ | refine to_ldes rfl (by assumption) rfl rfl ?_
              exact tmq_end
            refine tm_q ?e44 rfl ?q44 ?r44
            case q44 =>
              refine to_mv rfl rfl ?_
              exact tmq_end
            refine tm_q ?e45 rfl ?q45 ?r45
            case q45 =>
              first | refine to_ix rfl rfl rfl (by first | omega | decide) (by first | omega | decide) rfl ?_ | refine to_ixi rfl rfl rfl (by omega) (by omega) (by omega) rfl ?_
              exact tmq_end
            refine tm_q ?e46 rfl ?q46 ?r46
            case q46 =>
              first | refine to_lds rfl rfl rfl ?_ | refine to_ldes rfl (by assumption) rfl rfl ?_
              exact tmq_end
            refine tm_q ?e47 rfl ?q47 ?r47
            case q47 =>
              refine to_mv rfl rfl ?_
              exact tmq_end
            refine tm_q ?e48 rfl ?q48 ?r48
            case q48 =>
              first | refine to_ix rfl rfl rfl (by first | omega | decide) (by first | omega | decide) rfl ?_ | refine to_ixi rfl rfl rfl (by omega) (by omega) (by omega) rfl ?_
              exact tmq_end
            refine tm_q ?e49 rfl ?q49 ?r49
            case q49 =>
              first | refine to_lds rfl rfl rfl ?_ | refine to_ldes rfl (by assumption) rfl rfl ?_
              exact tmq_end
            refine tm_q ?e50 rfl ?q50 ?r50
            case q50 =>
              refine to_mv rfl rfl ?_
              exact tmq_end
            refine tm_q ?e51 rfl ?q51 ?r51
            case q51 =>
              first | refine to_ix rfl rfl rfl (by first | omega | decide) (by first | omega | decide) rfl ?_ | refine to_ixi rfl rfl rfl (by omega) (by omega) (by omega) rfl ?_
              exact tmq_end
            refine tm_q ?e52 rfl ?q52 ?r52
            case q52 =>
              first | refine to_lds rfl rfl rfl ?_ | refine to_ldes rfl (by assumption) rfl rfl ?_
              exact tmq_end
            refine tm_q ?e53 rfl ?q53 ?r53
            case q53 =>
              refine to_bs rfl rfl ?_
              exact tmq_end
            refine tm_q ?e54 rfl ?q54 ?r54
            case q54 =>
              refine to_bs rfl rfl ?_
              exact tmq_end
            refine tm_s rfl ?_ (fun _ h => by cases h) rfl
            refine to_bsl rfl rfl rfl rfl (fun a108 => ?_)
            refine tm_se rfl ?_
            refine tm_s rfl ?_ (fun _ h => by cases h) rfl
            refine to_app rfl rfl rfl (by simp [scals, scal]) (by decide) (by omega) (by decide) rfl (fun a109 c109 => ?_)
            refine tm_se rfl ?_
            refine tm_q ?e55 rfl ?q55 ?r55
            case q55 =>
              first | refine to_fa rfl rfl rfl (by simp only [Nat.reduceAdd]; rfl) rfl ?_ | refine to_fae rfl rfl rfl (by simp only [Nat.reduceAdd]; rfl) rfl ?_
              exact tmq_end
            refine tm_s rfl ?_ (fun _ h => by cases h) rfl
            first | refine to_st rfl rfl rfl rfl ?_ | refine to_ste rfl rfl (by assumption) rfl rfl ?_
            refine tm_sl (by kernel_rfl) rfl rfl ?_
            refine tn_blk ?_
            refine tn_code ?_
            refine t_reg ?_
            refine to_add rfl rfl (by omega) rfl ?_
            refine to_mv rfl rfl ?_
            refine to_nil ?_
            exact tn_loop2 ((i + 1, { b with lines := b.lines ++ [⟨n0, n1, n2, n3, n4, n5, ⟨n6, n7, n8, n9⟩⟩] }, a109, c109)) [.own b4 (isC [.int .i64 b.hands, .int .i64 b.unit, .int .i64 b.sheet, .int .i64 b.error, .int .i64 b.morning, .int .i64 b.post, .slice a109 (b.lines.length + 1) c109] 24), .row a109 (b.lines.length + 1) c109 52 10 (b.lines.map linC ++ [linC ⟨n0, n1, n2, n3, n4, n5, ⟨n6, n7, n8, n9⟩⟩]), .own b2 (isC [.int .i64 0, .int .i64 0, .int .i64 0, .int .i64 0, .int .i64 0, .int .i64 0, .slice none 0 0] 24), .snap lo11 w11.heap.size w11, .snap 0 w.heap.size w] (by simp only [bkC, List.length_append, List.length_singleton, List.map_append, List.map_cons, List.map_nil]) (⟨by (try dsimp only); omega, by (try dsimp only); rw [bkK_succ hbk hr]; exact step_t hrn hi0 rfl⟩) (by dsimp only; omega) (⟨rfl, rfl, rfl, rfl, rfl, rfl, trivial⟩)
          · try simp only [decide_eq_true_eq, decide_eq_false_iff_not, Bool.not_eq_true', Bool.not_eq_false', Int.not_lt, Int.not_le, ne_eq, Decidable.not_not] at h6
            try have h6b := inB_iff.1 h6
            exact to_callF rfl rfl (fun w s => sure_f _ w) rfl (fun w' s a ea => ⟨ea.ds, below_of s, .inr ⟨parse_none hr3 hbk hr (by omega) (step_f hrn (by omega) (by omega)), _, rfl⟩⟩)
    · try simp only [decide_eq_true_eq, decide_eq_false_iff_not, Bool.not_eq_true', Bool.not_eq_false', Int.not_lt, Int.not_le, ne_eq, Decidable.not_not] at h2
      try have h2b := inB_iff.1 h2
      obtain ⟨hi, hbk⟩ := hk
      have hi2 : i = (splitL 10 tx).length - 2 := by omega
      subst hi2
      have hok := bkK_ok hbk
      have hno : numsOk b := ⟨hok.1.1, hok.1.2, by omega⟩
      refine t_exit ?_
      refine tx_code ?_
      refine tx_inv ?_
      refine tx_blk ?_
      refine tn_code ?_
      refine t_seq ?_
      refine t_reg ?_
      first | refine to_lda rfl rfl rfl ?_ | refine to_ldea rfl (by assumption) rfl rfl ?_
      refine to_call0 rfl rfl (fun w s => pay_text b a' c' w (rdw s) hno (gl_up hg (belowH_of s))) rfl ?_
      refine to_mv rfl rfl ?_
      refine to_seq rfl rfl rfl ?_
      refine to_mv rfl rfl ?_
      refine to_bc (s := 115) rfl (fun h7 => ?_) (fun h7 => ?_)
      · try simp only [decide_eq_true_eq, decide_eq_false_iff_not, Bool.not_eq_true', Bool.not_eq_false', Int.not_lt, Int.not_le, ne_eq, Decidable.not_not] at h7
        try have h7b := inB_iff.1 h7
        refine to_call0 rfl rfl (fun w s => sure_t _ w) rfl ?_
        refine to_nil ?_
        refine tn_code ?_
        refine t_seq ?_
        refine t_reg ?_
        first | refine to_lda rfl rfl rfl ?_ | refine to_ldea rfl (by assumption) rfl rfl ?_
        first | refine to_st rfl rfl rfl rfl ?_ | refine to_ste rfl rfl (by assumption) rfl rfl ?_
        refine to_nil ?_
        refine tn_code ?_
        refine t_ret1G rfl rfl (res_cellA rfl rfl) (fun w' s => ?_)
        exact ⟨below_of s, .inl ⟨b, a', c', parse_t hr3 hbk (by assumption), rfl, ro_row s⟩⟩
      · try simp only [decide_eq_true_eq, decide_eq_false_iff_not, Bool.not_eq_true', Bool.not_eq_false', Int.not_lt, Int.not_le, ne_eq, Decidable.not_not] at h7
        try have h7b := inB_iff.1 h7
        exact to_callF rfl rfl (fun w s => sure_f _ w) rfl (fun w' s a ea => ⟨ea.ds, below_of s, .inr ⟨parse_ne hr3 hbk (by assumption), _, rfl⟩⟩)
  · try simp only [decide_eq_true_eq, decide_eq_false_iff_not, Bool.not_eq_true', Bool.not_eq_false', Int.not_lt, Int.not_le, ne_eq, Decidable.not_not] at h1
    try have h1b := inB_iff.1 h1
    exact to_callF rfl rfl (fun w s => sure_f _ w) rfl (fun w' s a ea => ⟨ea.ds, below_of s, .inr ⟨parse_short (by omega), _, rfl⟩⟩)

end Go.Proofs


namespace Go.Proofs
open Go Go.Sx Go.RowKit

def ResR (tx : Bs) (bb lo : Nat) : Out → World → Prop
  | .ok, w' => ∃ (b : Bk) (a : Option Addr) (c : Nat), parseB tx = some b ∧ w'.heap[bb]? = some (.cells (bkC b a c).toArray 24 (0, 0)) ∧ Ro w' lo w'.heap.size a b.lines.length c 10 (b.lines.map linC)
  | .no _, _ => parseB tx = none
  | .un _, _ => False
structure DoW (bb : Nat) (w w' : World) : Prop where
  os : w'.os = w.os
  tape : w'.tape = w.tape
  output : w'.output = w.output
  size : w.heap.size ≤ w'.heap.size
  block : ∀ k, k < w.heap.size → k ≠ bb → w'.heap[k]? = w.heap[k]?
def DoR (tx : Bs) (bb : Nat) (w : World) : Ending → World → Prop := fun e w' => ∃ o : Out, outE 128 130 o e ∧ DoW bb w w' ∧ ResR tx bb w.heap.size o w'
def AttR (tx : Bs) (bb : Nat) (w : World) : Ending → World → Prop := fun e w' => ∃ o : Out, e = .returned (.int .i64 o.er) ∧ DoW bb w w' ∧ ResR tx bb w.heap.size o w'
theorem cl_ne {w : World} {bt bb : Nat} {cs0 cs : List Value} {t : TypeId} (h : Rb w 0 w.heap.size bt cs) (hne : bt ≠ bb) : Cl w [.own bb (isC cs0 t), .snap 0 bb w, .snap (bb + 1) w.heap.size w] bt cs := ⟨fun w' s o v hv => by
  obtain ⟨h1, h2, te, h3⟩ := h
  have h4 : w'.heap[bt]? = w.heap[bt]? := by
    rcases Nat.lt_or_ge bt bb with h5 | h5
    · exact s.ok (.snap 0 bb w) (by simp) bt (Nat.zero_le _) h5
    · exact s.ok (.snap (bb + 1) w.heap.size w) (by simp) bt (by omega) h2
  simp [World.cell?, h4, h3, hv]⟩
theorem doW_of {w w' : World} {bb : Nat} {p : Obj → Prop} {H : List Seg} (s : St w (.own bb p :: H) w') (h1 : .snap 0 bb w ∈ H) (h2 : .snap (bb + 1) w.heap.size w ∈ H) : DoW bb w w' := by
  refine ⟨s.os, s.tape, s.output, s.ge, fun k hk hne => ?_⟩
  rcases Nat.lt_or_ge k bb with h | h
  · exact s.ok _ (List.mem_cons_of_mem _ h1) k (Nat.zero_le _) h
  · exact s.ok _ (List.mem_cons_of_mem _ h2) k (by omega) hk

set_option maxRecDepth 20000 in
theorem c_Read1 (tx : Bs) (bt bb : Nat) (w : World) (hls : tx.length ≤ 500) (hg : Gl w) (hbb : w.heap[bb]? = some (.cells ([Value.int .i64 0, .int .i64 0, .int .i64 0, .int .i64 0, .int .i64 0, .int .i64 0, .slice none 0 0] : List Value).toArray 24 (0, 0))) (h3 : 3 < bb) (hne : bt ≠ bb) (hbt : Rb w 0 w.heap.size bt [strV tx]) : Calls Tryz.prog 69 #[(.pointer (some ⟨bt, 0, none⟩)), (.pointer (some ⟨bb, 0, none⟩))] w (DoR tx bb w) := by
  have hcl := cl_ne (cs0 := [.int .i64 0, .int .i64 0, .int .i64 0, .int .i64 0, .int .i64 0, .int .i64 0, .slice none 0 0]) (t := 24) hbt hne
  refine calls_TG (av := [_, _]) Tryz.func69 rfl rfl rfl (St.startO hbb) ?_
  refine t_reg ?_
  first | refine to_lds rfl rfl rfl ?_ | refine to_ldes rfl (by assumption) rfl rfl ?_
  refine to_callP (R := ParP tx) rfl rfl (fun w2 s => c_parsed tx w2 hls (gl_cong hg s.ge (fun k hk => s.ok (.snap 0 bb w) (by simp) k (Nat.zero_le _) (by omega)))) rfl (fun w2 s2 e2 w3 hd => ?_)
  obtain ⟨hbl, ⟨b, a, c, hp, rfl, hro⟩ | ⟨hp, z, rfl⟩⟩ := hd
  rotate_left
  · exact .inr ⟨_, rfl, fun a ea => ⟨ea.ds, .no z, rfl, doW_of (s2.below hbl) (by simp) (by simp), hp⟩⟩
  have hlo2 := s2.ge
  refine .inl ⟨_, _, rfl, s2.snap hbl, ?_⟩
  · skip
    first | refine to_st rfl rfl rfl rfl ?_ | refine to_ste rfl rfl (by assumption) rfl rfl ?_
    refine to_nil ?_
    exact t_end0G rfl rfl (fun w' s => ⟨.ok, rfl, doW_of s (by simp) (by simp), b, a, c, hp, (by obtain ⟨o, ho, hpo⟩ := s.own_at (b := bb); rw [ho]; exact congrArg some hpo), hro.mono hlo2 (s.le (.snap w2.heap.size w3.heap.size w3) (by simp)) (fun k h1 h2 => s.ok (.snap w2.heap.size w3.heap.size w3) (by simp) k h1 h2)⟩)

theorem st_att {w w2 w3 : World} {b2 bb : Nat} (s : St w [.own b2 (isC [.int .i64 0] 28), .snap 0 w.heap.size w] w2) (hd : DoW bb w2 w3) (hb : bb < w.heap.size) : w.heap.size ≤ b2 ∧ St w [.own b2 (isC [.int .i64 0] 28), .snap 0 b2 w3, .snap w2.heap.size w3.heap.size w3] w3 := by
  have h1 : b2 + 1 ≤ w2.heap.size := s.le _ (List.mem_cons_self ..)
  have h2 : w.heap.size ≤ b2 := by
    have := (List.pairwise_cons.1 s.apart).1 (.snap 0 w.heap.size w) (by simp)
    simp only [Seg.apart, Seg.lo, Seg.hi] at this
    omega
  have h5 := hd.size
  refine ⟨h2, hd.os.trans s.os, hd.tape.trans s.tape, hd.output.trans s.output, Nat.le_trans s.ge hd.size, ?_, ?_, ?_⟩
  · intro t ht
    simp only [List.mem_cons, List.not_mem_nil, or_false] at ht
    rcases ht with rfl | rfl | rfl <;> simp only [Seg.hi] <;> omega
  · intro t ht
    simp only [List.mem_cons, List.not_mem_nil, or_false] at ht
    rcases ht with rfl | rfl | rfl
    · obtain ⟨o, ho, hp⟩ := s.ok (.own b2 (isC [.int .i64 0] 28)) (by simp)
      exact ⟨o, (hd.block b2 (by omega) (by omega)).trans ho, hp⟩
    · exact fun _ _ _ => rfl
    · exact fun _ _ _ => rfl
  · simp only [List.pairwise_cons, List.mem_cons, List.not_mem_nil, or_false, forall_eq_or_imp, forall_eq, Seg.apart, Seg.lo, Seg.hi]
    refine ⟨⟨.inr (Nat.le_refl _), .inl h1⟩, .inl (by omega), ?_⟩
    simp

theorem att_leaveR (tx : Bs) (bb : Nat) (o : Out) (w w2 w3 w5 : World) (b2 : Nat) (hb : bb < w.heap.size) (s : St w [.own b2 (isC [.int .i64 0] 28), .snap 0 w.heap.size w] w2) (hd : DoW bb w2 w3) (hr : ResR tx bb w2.heap.size o w3) (s5 : St w [.own b2 (isC [.int .i64 0] 28), .snap 0 b2 w3, .snap w2.heap.size w3.heap.size w3] w5) (m : List (Nat × Value)) (a : Act) (ea : Env.ok ⟨Tryz.f68.ntmps, m, [{ target := .fn (.func 98) [(.pointer (some ⟨b2, 0, none⟩))].toArray, args := #[] }]⟩ a) (hm : lk m 2 = some (.pointer (some ⟨b2, 0, none⟩))) :
    Leaves Tryz.prog Tryz.f68 a.tmps (AttR tx bb w) a.defers (Out.mode 128 130 o) w5 := by
  have h2 := (st_att s hd hb).1
  refine leave1 ea.ds (by cases o <;> simp [Out.mode]) (c_att o w _ b2 w5 s5) ?_
  rintro e u' w' ⟨rfl, h2', h3⟩
  have hlow : ∀ k, k < b2 → w'.heap[k]? = w3.heap[k]? := fun k hk => h3.ok (.snap 0 b2 w3) (by simp) k (Nat.zero_le _) hk
  have hs5 := h3.le (.snap w2.heap.size w3.heap.size w3) (by simp)
  simp only [Seg.hi] at hs5
  have hdw : DoW bb w w' := ⟨h3.os, h3.tape, h3.output, h3.ge, fun k hk hne => (hlow k (by omega)).trans ((hd.block k (Nat.lt_of_lt_of_le hk s.ge) hne).trans (s.ok (.snap 0 w.heap.size w) (by simp) k (Nat.zero_le _) hk))⟩
  have hres2 : ResR tx bb w.heap.size o w' := by
    cases o with
    | un k => exact hr
    | no z => exact hr
    | ok =>
      obtain ⟨b, a1, c, g1, g2, g3⟩ := hr
      exact ⟨b, a1, c, g1, (hlow bb (by omega)).trans g2, g3.mono s.ge hs5 (fun k g4 g5 => h3.ok (.snap w2.heap.size w3.heap.size w3) (by simp) k g4 g5)⟩
  refine ⟨rfl, h2', .int .i64 o.er, ?_, o, rfl, hdw, hres2⟩
  have hres : ResOk Tryz.prog w ⟨Tryz.f68.ntmps, m, [{ target := .fn (.func 98) [(.pointer (some ⟨b2, 0, none⟩))].toArray, args := #[] }]⟩ [.own b2 (isC [.int .i64 o.er] 28), .snap 0 b2 w3, .snap w2.heap.size w3.heap.size w3] (.cell 2 28) (.int .i64 o.er) := res_cellS (ht := Tryz.ty28) hm rfl
  exact run_results (l := [.cell 2 28]) (vs := [.int .i64 o.er]) rfl rfl (fun i r v h h' => by
    match i with
    | 0 => cases h; cases h'; exact hres a w' ea h3
    | i + 1 => simp at h)

set_option maxRecDepth 20000 in
theorem c_attemptR (tx : Bs) (bt bb : Nat) (w : World) (hls : tx.length ≤ 500) (hg : Gl w) (hbb : w.heap[bb]? = some (.cells ([Value.int .i64 0, .int .i64 0, .int .i64 0, .int .i64 0, .int .i64 0, .int .i64 0, .slice none 0 0] : List Value).toArray 24 (0, 0))) (h3 : 3 < bb) (hne : bt ≠ bb) (hbt : Rb w 0 w.heap.size bt [strV tx]) : Calls Tryz.prog 68 #[.func (.func 69) ([] : List Value).toArray [(.pointer (some ⟨bt, 0, none⟩)), (.pointer (some ⟨bb, 0, none⟩))].toArray] w (AttR tx bb w) := by
  have hlt : bb < w.heap.size := (Array.getElem?_eq_some_iff.1 hbb).1
  refine calls_TD (av := [_]) Tryz.func68 rfl rfl rfl (St.start w) ?_
  refine t_seq ?_
  refine t_reg ?_
  refine to_alloc rfl (fun b2 => ?_)
  refine to_nil ?_
  refine tn_code ?_
  refine t_seq ?_
  refine t_reg ?_
  refine to_mf rfl rfl rfl ?_
  refine to_defer rfl rfl ?_
  refine to_nil ?_
  refine tn_code ?_
  refine t_seq ?_
  refine t_reg ?_
  refine to_mv rfl rfl ?_
  refine to_callP (R := DoR tx bb) rfl rfl (fun w2 s => c_Read1 tx bt bb w2 hls (gl_up hg (belowH_of s)) ((s.ok (.snap 0 w.heap.size w) (by simp) bb (Nat.zero_le _) hlt).trans hbb) h3 hne (rb_up hbt (belowH_of s))) rfl (fun w2 s e w3 hd => ?_)
  obtain ⟨o, ho, hw, hr⟩ := hd
  have s3 := (st_att s hw hlt).2
  rcases o with _ | k | z
  rotate_left
  · exact hr.elim
  · exact .inr ⟨_, ho, fun a ea => att_leaveR tx bb (.no z) w w2 w3 w3 b2 hlt s hw hr s3 _ a ea rfl⟩
  refine .inl ⟨_, _, ho, s3, ?_⟩
  · skip
    refine to_nil ?_
    refine tn_code ?_
    refine t_seq ?_
    refine t_reg ?_
    first | refine to_st rfl rfl rfl rfl ?_ | refine to_ste rfl rfl (by assumption) rfl rfl ?_
    refine to_nil ?_
    refine tn_code ?_
    exact t_ret (fun a w' ea s' => att_leaveR tx bb .ok w w2 w3 w' b2 hlt s hw hr s' _ a ea rfl)

end Go.Proofs


namespace Go.Proofs
open Go Go.Sx Go.RowKit

def RBk (bk : Bk) (er : Int) : Nat → World → Value → Prop := fun lo w1 v => ∃ a c, v = .tuple #[bkV bk a c, .int .i64 er] ∧ Ro w1 lo w1.heap.size a bk.lines.length c 10 (bk.lines.map linC)
theorem payRead_long {tx : Bs} (h : 230 < tx.length) : payRead tx = (bk0, 3) := by simp only [payRead, if_pos h]
theorem payRead_no {tx : Bs} (h : ¬ 230 < tx.length) (hp : parseB tx = none) : payRead tx = (bk0, 4) := by simp only [payRead, if_neg h, hp]
theorem payRead_t {tx : Bs} {b : Bk} (h : ¬ 230 < tx.length) (hp : parseB tx = some b) (hb : isBk b = true) : payRead tx = (b, 0) := by simp only [payRead, if_neg h, hp, hb, if_true]
theorem payRead_f {tx : Bs} {b : Bk} (h : ¬ 230 < tx.length) (hp : parseB tx = some b) (hb : isBk b = false) : payRead tx = (bk0, 2) := by simp only [payRead, if_neg h, hp, hb, Bool.false_eq_true, if_false]
theorem own_ne2 {w0 w : World} {H : List Seg} {a b : Nat} {p q : Obj → Prop} (s : St w0 (.own a p :: H) w) (hm : .own b q ∈ H) : b ≠ a := by
  have := (List.pairwise_cons.1 s.apart).1 _ hm
  simp only [Seg.apart, Seg.lo, Seg.hi] at this
  omega
theorem own_ge {w0 w : World} {H : List Seg} {a hi : Nat} {p : Obj → Prop} {w1 : World} (s : St w0 (.own a p :: H) w) (hm : .snap 0 hi w1 ∈ H) : hi ≤ a := by
  have := (List.pairwise_cons.1 s.apart).1 _ hm
  simp only [Seg.apart, Seg.lo, Seg.hi] at this
  omega
theorem own_obj {w0 w : World} {H : List Seg} {b : Nat} {cs : List Value} {t : TypeId} (s : St w0 (.own b (isC cs t) :: H) w) : w.heap[b]? = some (.cells cs.toArray t (0, 0)) := by
  obtain ⟨o, ho, hp⟩ := s.ok _ (List.mem_cons_self ..)
  rw [ho]; exact congrArg some hp

set_option maxRecDepth 20000 in
theorem pay_Read (tx : Bs) (w : World) (hg : Gl w) : Calls Tryz.prog 33 #[strV tx] w (Ret w (RBk (payRead tx).1 (payRead tx).2)) := by
  refine calls_T (av := [_]) Tryz.func33 rfl rfl rfl ?_
  refine t_seq ?_
  refine t_reg ?_
  refine to_box rfl rfl (fun b1 => ?_)
  refine to_alloc rfl (fun b2 => ?_)
  refine to_as rfl rfl ?_
  refine to_nil ?_
  refine tn_code ?_
  refine t_seq ?_
  refine t_seq ?_
  refine t_reg ?_
  first | refine to_lds rfl rfl rfl ?_ | refine to_ldes rfl (by assumption) rfl rfl ?_
  refine to_lenL rfl rfl ?_
  refine to_gtr rfl rfl rfl ?_
  refine to_nil ?_
  refine tn_code ?_
  refine t_if rfl (fun h1 => ?_) (fun h1 => ?_)
  · try simp only [decide_eq_true_eq, decide_eq_false_iff_not, Bool.not_eq_true', Bool.not_eq_false', Int.not_lt, Int.not_le, ne_eq, Decidable.not_not] at h1
    try have h1b := inB_iff.1 h1
    have hlong : 230 < tx.length := by omega
    refine t_seq ?_
    refine t_reg ?_
    refine to_bs rfl rfl ?_
    first | refine to_st rfl rfl rfl rfl ?_ | refine to_ste rfl rfl (by assumption) rfl rfl ?_
    refine to_as rfl rfl ?_
    refine to_nil ?_
    refine tn_code ?_
    refine t_ret2 rfl rfl (res_cellA rfl rfl) (res_tmp rfl) (fun w' s => ?_)
    first | (rw [payRead_long hlong]; exact ⟨_, _, rfl, Ro.nil _ _ _ _⟩) | (rw [payRead_no hlong hp]; exact ⟨_, _, rfl, Ro.nil _ _ _ _⟩) | (rw [payRead_t hlong hp hib]; exact ⟨_, _, rfl, ro_snap s hlo2⟩) | (rw [payRead_f hlong hp hib]; exact ⟨_, _, rfl, Ro.nil _ _ _ _⟩)
  · try simp only [decide_eq_true_eq, decide_eq_false_iff_not, Bool.not_eq_true', Bool.not_eq_false', Int.not_lt, Int.not_le, ne_eq, Decidable.not_not] at h1
    try have h1b := inB_iff.1 h1
    have hlong : ¬ 230 < tx.length := by omega
    refine t_skip ?_
    refine tn_code ?_
    refine t_seq ?_
    refine t_reg ?_
    refine to_alloc rfl (fun b4 => ?_)
    refine to_nil ?_
    refine tn_code ?_
    refine t_seq ?_
    refine t_seq ?_
    refine t_reg ?_
    refine to_mf rfl rfl rfl ?_
    refine to_callP (R := AttR tx b4) rfl rfl (fun w2 s => c_attemptR tx b1 b4 w2 (by omega) (gl_up hg (belowH_of s)) (own_obj s) (Nat.lt_of_lt_of_le hg.size (own_ge s (w1 := w) (by simp))) (own_ne2 (q := isC [strV tx] 9) s (by simp)) (rbw s)) rfl (fun w2 s2 e2 w3 hd => ?_)
    obtain ⟨o, rfl, hw, hr⟩ := hd
    rcases o with _ | k | z
    rotate_left
    · exact hr.elim
    rotate_left
    · obtain ⟨b, a, c, hp, hbb, hro⟩ := hr
      have hlo2 := s2.ge
      refine .inl ⟨.int .i64 0, _, rfl, s2.rewO (p' := isC (bkC b a c) 24) hw.os hw.tape hw.output hw.size hw.block hbb rfl, ?_⟩
      refine to_as rfl rfl ?_
      refine to_nil ?_
      refine tn_code ?_
      refine t_seq ?_
      refine t_reg ?_
      refine to_mv rfl rfl ?_
      refine to_neq rfl rfl rfl ?_
      refine to_fix (s := 13) (b' := false) rfl (rfl) ?_
      refine to_nil ?_
      refine tn_code ?_
      refine t_ifF rfl ?_
      refine t_skip ?_
      refine tn_code ?_
      refine t_seq ?_
      refine t_seq ?_
      refine t_reg ?_
      first | refine to_lda rfl rfl rfl ?_ | refine to_ldea rfl (by assumption) rfl rfl ?_
      refine to_call0 rfl rfl (fun w s => pay_isBook b a c w (rdw s)) rfl ?_
      refine to_not rfl rfl ?_
      refine to_nil ?_
      refine tn_code ?_
      refine t_if rfl (fun h2 => ?_) (fun h2 => ?_)
      · try simp only [decide_eq_true_eq, decide_eq_false_iff_not, Bool.not_eq_true', Bool.not_eq_false', Int.not_lt, Int.not_le, ne_eq, Decidable.not_not] at h2
        try have h2b := inB_iff.1 h2
        have hib := h2
        refine t_seq ?_
        refine t_reg ?_
        refine to_bs rfl rfl ?_
        first | refine to_st rfl rfl rfl rfl ?_ | refine to_ste rfl rfl (by assumption) rfl rfl ?_
        refine to_as rfl rfl ?_
        refine to_nil ?_
        refine tn_code ?_
        refine t_ret2 rfl rfl (res_cellA rfl rfl) (res_tmp rfl) (fun w' s => ?_)
        first | (rw [payRead_long hlong]; exact ⟨_, _, rfl, Ro.nil _ _ _ _⟩) | (rw [payRead_no hlong hp]; exact ⟨_, _, rfl, Ro.nil _ _ _ _⟩) | (rw [payRead_t hlong hp hib]; exact ⟨_, _, rfl, ro_snap s hlo2⟩) | (rw [payRead_f hlong hp hib]; exact ⟨_, _, rfl, Ro.nil _ _ _ _⟩)
      · try simp only [decide_eq_true_eq, decide_eq_false_iff_not, Bool.not_eq_true', Bool.not_eq_false', Int.not_lt, Int.not_le, ne_eq, Decidable.not_not] at h2
        try have h2b := inB_iff.1 h2
        have hib := h2
        refine t_skip ?_
        refine tn_code ?_
        refine t_seq ?_
        refine t_reg ?_
        first | refine to_lda rfl rfl rfl ?_ | refine to_ldea rfl (by assumption) rfl rfl ?_
        first | refine to_st rfl rfl rfl rfl ?_ | refine to_ste rfl rfl (by assumption) rfl rfl ?_
        refine to_as rfl rfl ?_
        refine to_nil ?_
        refine tn_code ?_
        refine t_ret2 rfl rfl (res_cellA rfl rfl) (res_tmp rfl) (fun w' s => ?_)
        first | (rw [payRead_long hlong]; exact ⟨_, _, rfl, Ro.nil _ _ _ _⟩) | (rw [payRead_no hlong hp]; exact ⟨_, _, rfl, Ro.nil _ _ _ _⟩) | (rw [payRead_t hlong hp hib]; exact ⟨_, _, rfl, ro_snap s hlo2⟩) | (rw [payRead_f hlong hp hib]; exact ⟨_, _, rfl, Ro.nil _ _ _ _⟩)
    · have hp := hr
      obtain ⟨ob, hob⟩ : ∃ ob, w3.heap[b4]? = some ob := ⟨_, Array.getElem?_eq_getElem (Nat.lt_of_lt_of_le (Array.getElem?_eq_some_iff.1 (own_obj s2)).1 hw.size)⟩
      refine .inl ⟨.int .i64 4, _, rfl, s2.rewO (p' := fun _ => True) hw.os hw.tape hw.output hw.size hw.block hob trivial, ?_⟩
      refine to_as rfl rfl ?_
      refine to_nil ?_
      refine tn_code ?_
      refine t_seq ?_
      refine t_reg ?_
      refine to_mv rfl rfl ?_
      refine to_neq rfl rfl rfl ?_
      refine to_fix (s := 13) (b' := true) rfl (rfl) ?_
      refine to_nil ?_
      refine tn_code ?_
      refine t_ifT rfl ?_
      refine t_seq ?_
      refine t_reg ?_
      refine to_bs rfl rfl ?_
      refine to_mv rfl rfl ?_
      first | refine to_st rfl rfl rfl rfl ?_ | refine to_ste rfl rfl (by assumption) rfl rfl ?_
      refine to_as rfl rfl ?_
      refine to_nil ?_
      refine tn_code ?_
      refine t_ret2 rfl rfl (res_cellA rfl rfl) (res_tmp rfl) (fun w' s => ?_)
      first | (rw [payRead_long hlong]; exact ⟨_, _, rfl, Ro.nil _ _ _ _⟩) | (rw [payRead_no hlong hp]; exact ⟨_, _, rfl, Ro.nil _ _ _ _⟩) | (rw [payRead_t hlong hp hib]; exact ⟨_, _, rfl, ro_snap s hlo2⟩) | (rw [payRead_f hlong hp hib]; exact ⟨_, _, rfl, Ro.nil _ _ _ _⟩)

end Go.Proofs


namespace Go.Proofs
open Go Go.Sx Go.RowKit

/-! # The chapter's examples, plainly -/

@[reducible] def bkA : Bk := ⟨2, 4, 30, 5, 12, 2, [⟨0, 3, 1, 2, 1, 0, ⟨0, 2, 0, 0⟩⟩, ⟨1, 2, 0, 1, 0, 3, ⟨0, 1, 3, 0⟩⟩, ⟨0, 2, 0, 0, 2, 1, ⟨0, 1, 9, 0⟩⟩]⟩
@[reducible] def bkB : Bk := ⟨2, 4, 30, 5, 12, 2, [⟨0, 3, 1, 2, 1, 0, ⟨0, 2, 0, 0⟩⟩, ⟨1, 2, 0, 1, 0, 3, ⟨0, 1, 3, 0⟩⟩, ⟨0, 2, 0, 0, 2, 1, ⟨0, 1, 10, 0⟩⟩]⟩
@[reducible] def bkT : Bk := ⟨1, 1, 0, 0, 0, 0, [⟨0, 0, 0, 0, 0, 0, ⟨0, 0, 0, 0⟩⟩]⟩
@[reducible] def txT : Bs := [112, 97, 121, 32, 49, 32, 49, 32, 48, 32, 48, 32, 48, 32, 48, 10, 108, 105, 110, 101, 32, 48, 32, 48, 32, 48, 32, 48, 32, 48, 32, 48, 32, 48, 32, 48, 32, 48, 32, 48, 10, 101, 110, 100, 32, 50, 52, 53, 10]
theorem kn_far : payFar ⟨1, 2, 3, 1⟩ = (1069, 0) := by kernel_rfl
theorem kn_mon : payMoney 1069 = (⟨1, 2, 3, 1⟩, 0) := by kernel_rfl
theorem kn_owed : payOwed bkA 0 = ((92, 97), 0) := by kernel_rfl
theorem kn_pays : payPays bkA [1, 1, 0] = ([96, 60, 84], 0) := by kernel_rfl
theorem kn_rest : payRest bkA [1, 1, 0] 0 = (3, 0) := by kernel_rfl
theorem kn_bounds : payBounds bkA = ([(92, 96), (60, 64), (84, 84)], 0) := by kernel_rfl
theorem kn_total : payTotal bkA 0 = ((176, 180), 0) := by kernel_rfl
theorem kn_agrees : payAgrees bkA = ([1, 1, 0], 0) := by kernel_rfl
theorem kn_first : payFirst bkB = (2, 0) := by kernel_rfl
theorem kn_errors : payErrors bkA 0 = ((1, 1), 0) := by kernel_rfl
theorem kn_share : payShare bkA 100 = ([71, 29], 0) := by kernel_rfl
theorem kn_rate : payRate bkA 0 180 = (31, 0) := by kernel_rfl
theorem kn_text : textB bkT = txT := by kernel_rfl
theorem kn_read : payRead txT = (bkT, 0) := by kernel_rfl
end Go.Proofs


namespace Go.Proofs
open Go Go.Sx Go.RowKit

/-- A book whose lines lie in a new row of the call's own. -/
def RBr (bk : Bk) : Nat → World → Value → Prop := fun lo w1 v => ∃ g c, v = bkV bk (some ⟨g, 0, none⟩) c ∧ lo ≤ g ∧ g < w1.heap.size ∧ RowOk (fun k => w1.heap[k]?) (some ⟨g, 0, none⟩) bk.lines.length c 52 10 (bk.lines.map linC)
def RBv (bk : Bk) : Nat → World → Value → Prop := fun lo w1 v => ∃ a c, v = bkV bk a c ∧ Ro w1 lo w1.heap.size a bk.lines.length c 10 (bk.lines.map linC)
theorem rbr_ro {lo : Nat} {w1 : World} {g n c t sz : Nat} {xs : List (List Value)} (h1 : lo ≤ g) (h : RowOk (fun k => w1.heap[k]?) (some ⟨g, 0, none⟩) n c t sz xs) : Ro w1 lo w1.heap.size (some ⟨g, 0, none⟩) n c sz xs := by
  have hro := RowOk.ro h
  refine ⟨hro.len, hro.each, hro.le, ?_⟩
  rcases hro.here with h5 | ⟨ad, g1, g2, g3, g4, g5⟩
  · cases h5.1
  · cases g1
    exact .inr ⟨_, rfl, g2, h1, g4, g5⟩

set_option maxRecDepth 20000 in
theorem law_A  (w : World)  : Calls Tryz.prog 39 #[] w (Ret w (RBr bkA)) := by
  refine calls_T (av := []) Tryz.func39 rfl rfl rfl ?_
  refine t_seq ?_
  refine t_reg ?_
  refine to_alloc rfl (fun b0 => ?_)
  refine to_nil ?_
  refine tn_code ?_
  refine t_seq ?_
  refine t_reg ?_
  refine to_call0 rfl rfl (fun w s => law_span _ _ w) rfl ?_
  refine to_bs rfl rfl ?_
  refine to_bs rfl rfl ?_
  refine to_call0 rfl rfl (fun w s => law_span _ _ w) rfl ?_
  refine to_bs rfl rfl ?_
  refine to_bs rfl rfl ?_
  refine to_bs rfl rfl ?_
  refine to_bs rfl rfl ?_
  refine to_bsl rfl rfl rfl rfl (fun a9 => ?_)
  refine to_bs rfl rfl ?_
  first | refine to_st rfl rfl rfl rfl ?_ | refine to_ste rfl rfl (by assumption) rfl rfl ?_
  refine to_nil ?_
  refine tn_code ?_
  refine t_ret1 rfl rfl (res_cellA rfl rfl) (fun w' s => ?_)
  obtain ⟨gg, hgg, g1, g2, g3⟩ := s.tail.new_row (by simp) (by decide)
  subst hgg
  exact ⟨gg, _, rfl, g1, g2, g3⟩

set_option maxRecDepth 20000 in
theorem law_B  (w : World)  : Calls Tryz.prog 45 #[] w (Ret w (RBv bkB)) := by
  refine calls_T (av := []) Tryz.func45 rfl rfl rfl ?_
  refine t_seq ?_
  refine t_reg ?_
  refine to_alloc rfl (fun b0 => ?_)
  refine to_nil ?_
  refine tn_code ?_
  refine t_seq ?_
  refine t_reg ?_
  refine to_callR rfl rfl (fun w s => law_A w) rfl (fun v2 lo2 w2 hlo2 hR2 => ?_)
  obtain ⟨gg, cc, rfl, hg1, hg2, hrow⟩ := hR2
  refine to_snaprow hrow hg1 hg2 ?_
  refine to_alloc rfl (fun b1 => ?_)
  first | refine to_st rfl rfl rfl rfl ?_ | refine to_ste rfl rfl (by assumption) rfl rfl ?_
  refine to_nil ?_
  refine tn_code ?_
  refine t_seq ?_
  have hq2 : (bkA.lines.map linC)[2]? = some (linC ⟨0, 2, 0, 0, 2, 1, ⟨0, 1, 9, 0⟩⟩) := rfl
  refine t_reg ?_
  first | refine to_fa rfl rfl rfl (by simp only [Nat.reduceAdd]; rfl) rfl ?_ | refine to_fae rfl rfl rfl (by simp only [Nat.reduceAdd]; rfl) rfl ?_
  first | refine to_lds rfl rfl rfl ?_ | refine to_ldes rfl (by assumption) rfl rfl ?_
  first | refine to_ix rfl rfl rfl (by first | omega | decide) (by first | omega | decide) rfl ?_ | refine to_ixi rfl rfl rfl (by omega) (by omega) (by omega) rfl ?_
  first | refine to_fa rfl rfl rfl (by simp only [Nat.reduceAdd]; rfl) rfl ?_ | refine to_fae rfl rfl rfl (by simp only [Nat.reduceAdd]; rfl) rfl ?_
  first | refine to_fa rfl rfl rfl (by simp only [Nat.reduceAdd]; rfl) rfl ?_ | refine to_fae rfl rfl rfl (by simp only [Nat.reduceAdd]; rfl) rfl ?_
  first | refine to_st rfl rfl rfl rfl ?_ | refine to_ste rfl rfl (by assumption) rfl rfl ?_
  refine to_nil ?_
  refine tn_code ?_
  refine t_seq ?_
  refine t_reg ?_
  first | refine to_lda rfl rfl rfl ?_ | refine to_ldea rfl (by assumption) rfl rfl ?_
  first | refine to_st rfl rfl rfl rfl ?_ | refine to_ste rfl rfl (by assumption) rfl rfl ?_
  refine to_nil ?_
  refine tn_code ?_
  refine t_ret1 rfl rfl (res_cellA rfl rfl) (fun w' s => ?_)
  exact ⟨_, _, rfl, ro_row s⟩

end Go.Proofs


namespace Go.Proofs
open Go Go.Sx Go.RowKit

theorem k_Owed (a : Option Addr) (c : Nat) (w : World) (hr : Ro w 0 w.heap.size a (bkA).lines.length c 10 ((bkA).lines.map linC)) : Calls Tryz.prog 29 #[bkV bkA a c, .int .i64 0] w (RetV w (.tuple #[spanV (92, 97), .int .i64 0])) := by
  have h := pay_Owed bkA a c 0 w hr
  rw [kn_owed] at h
  exact h

theorem k_Bounds (a : Option Addr) (c : Nat) (w : World) (hr : Ro w 0 w.heap.size a (bkA).lines.length c 10 ((bkA).lines.map linC)) : Calls Tryz.prog 42 #[bkV bkA a c] w (Ret w (RSpE [(92, 96), (60, 64), (84, 84)] 0)) := by
  have h := pay_Bounds bkA a c w hr
  rw [kn_bounds] at h
  exact h

theorem k_Total (a : Option Addr) (c : Nat) (w : World) (hr : Ro w 0 w.heap.size a (bkA).lines.length c 10 ((bkA).lines.map linC)) : Calls Tryz.prog 25 #[bkV bkA a c, .int .i64 0] w (RetV w (.tuple #[spanV (176, 180), .int .i64 0])) := by
  have h := pay_Total bkA a c 0 w hr
  rw [kn_total] at h
  exact h

theorem k_Agrees (a : Option Addr) (c : Nat) (w : World) (hr : Ro w 0 w.heap.size a (bkA).lines.length c 10 ((bkA).lines.map linC)) : Calls Tryz.prog 43 #[bkV bkA a c] w (Ret w (RSlE [1, 1, 0] 0)) := by
  have h := pay_Agrees bkA a c w hr
  rw [kn_agrees] at h
  exact h

theorem k_First (a : Option Addr) (c : Nat) (w : World) (hr : Ro w 0 w.heap.size a (bkB).lines.length c 10 ((bkB).lines.map linC)) : Calls Tryz.prog 44 #[bkV bkB a c] w (RetV w (.tuple #[.int .i64 2, .int .i64 0])) := by
  have h := pay_First bkB a c w hr
  rw [kn_first] at h
  exact h

theorem k_Errors (a : Option Addr) (c : Nat) (w : World) (hr : Ro w 0 w.heap.size a (bkA).lines.length c 10 ((bkA).lines.map linC)) : Calls Tryz.prog 46 #[bkV bkA a c, .int .i64 0] w (RetV w (.tuple #[spanV (1, 1), .int .i64 0])) := by
  have h := pay_Errors bkA a c 0 w hr
  rw [kn_errors] at h
  exact h

theorem k_Share (a : Option Addr) (c : Nat) (w : World) (hr : Ro w 0 w.heap.size a (bkA).lines.length c 10 ((bkA).lines.map linC)) : Calls Tryz.prog 14 #[bkV bkA a c, .int .i64 100] w (Ret w (RSlE [71, 29] 0)) := by
  have h := pay_Share bkA a c 100 w hr
  rw [kn_share] at h
  exact h

theorem k_Rate (a : Option Addr) (c : Nat) (w : World) (hr : Ro w 0 w.heap.size a (bkA).lines.length c 10 ((bkA).lines.map linC)) : Calls Tryz.prog 22 #[bkV bkA a c, .int .i64 0, .int .i64 180] w (RetV w (.tuple #[.int .i64 31, .int .i64 0])) := by
  have h := pay_Rate bkA a c 0 180 w hr
  rw [kn_rate] at h
  exact h

theorem k_Pays (a : Option Addr) (c : Nat) (ta : Option Addr) (tc : Nat) (w : World) (hr : Ro w 0 w.heap.size a bkA.lines.length c 10 (bkA.lines.map linC)) (ht : Ro w 0 w.heap.size ta 3 tc 1 (ints [1, 1, 0])) : Calls Tryz.prog 40 #[bkV bkA a c, .slice ta 3 tc] w (Ret w (RSlE [96, 60, 84] 0)) := by
  have h := pay_Pays bkA a c [1, 1, 0] ta tc w hr ht
  rw [kn_pays] at h
  exact h
theorem k_Rest (a : Option Addr) (c : Nat) (ta : Option Addr) (tc : Nat) (w : World) (hr : Ro w 0 w.heap.size a bkA.lines.length c 10 (bkA.lines.map linC)) (ht : Ro w 0 w.heap.size ta 3 tc 1 (ints [1, 1, 0])) : Calls Tryz.prog 41 #[bkV bkA a c, .slice ta 3 tc, .int .i64 0] w (RetV w (.tuple #[.int .i64 3, .int .i64 0])) := by
  have h := pay_Rest bkA a c [1, 1, 0] ta tc 0 w hr ht
  rw [kn_rest] at h
  exact h
theorem k_Far (w : World) : Calls Tryz.prog 37 #[monV ⟨1, 2, 3, 1⟩] w (RetV w (.tuple #[.int .i64 1069, .int .i64 0])) := by
  have h := pay_Farthings ⟨1, 2, 3, 1⟩ w
  rw [kn_far] at h
  exact h
theorem k_Money (w : World) : Calls Tryz.prog 38 #[.int .i64 1069] w (RetV w (.tuple #[monV ⟨1, 2, 3, 1⟩, .int .i64 0])) := by
  have h := pay_Money 1069 w
  rw [kn_mon] at h
  exact h
theorem k_Read (w : World) (hg : Gl w) : Calls Tryz.prog 33 #[strV txT] w (Ret w (RBk bkT 0)) := by
  have h := pay_Read txT w hg
  rw [kn_read] at h
  exact h
theorem k_Print (a : Option Addr) (c : Nat) (w : World) (hr : Ro w 0 w.heap.size a bkT.lines.length c 10 (bkT.lines.map linC)) : Calls Tryz.prog 34 #[bkV bkT a c] w (RetV w (strV txT)) := by
  have h := ref_Print bkT a c w hr (numsOk_of (by decide))
  rw [kn_text] at h
  exact h

set_option maxRecDepth 20000 in
theorem law_known  (w : World) (hg : Gl w) : Calls Tryz.prog 13 #[] w (RetV w (.bool true)) := by
  refine calls_T0 (av := []) Tryz.func13 rfl rfl rfl ?_
  refine t_seq ?_
  refine t_reg ?_
  refine to_as rfl rfl ?_
  refine to_nil ?_
  refine tn_code ?_
  refine t_seq ?_
  refine t_reg ?_
  refine to_bs rfl rfl ?_
  refine to_alloc rfl (fun b1 => ?_)
  first | refine to_st rfl rfl rfl rfl ?_ | refine to_ste rfl rfl (by assumption) rfl rfl ?_
  refine to_nil ?_
  refine tn_code ?_
  refine t_seq ?_
  refine t_reg ?_
  first | refine to_lda rfl rfl rfl ?_ | refine to_ldea rfl (by assumption) rfl rfl ?_
  refine to_call0 rfl rfl (fun w s => k_Far w) rfl ?_
  refine to_mv rfl rfl ?_
  refine to_ex rfl rfl rfl ?_
  refine to_ex rfl rfl rfl ?_
  refine to_as rfl rfl ?_
  refine to_as rfl rfl ?_
  refine to_nil ?_
  refine tn_code ?_
  refine t_seq ?_
  refine t_reg ?_
  refine to_call0 rfl rfl (fun w s => k_Money w) rfl ?_
  refine to_mv rfl rfl ?_
  refine to_ex rfl rfl rfl ?_
  refine to_ex rfl rfl rfl ?_
  refine to_alloc rfl (fun b4 => ?_)
  first | refine to_st rfl rfl rfl rfl ?_ | refine to_ste rfl rfl (by assumption) rfl rfl ?_
  refine to_as rfl rfl ?_
  refine to_nil ?_
  refine tn_code ?_
  refine t_seq ?_
  refine t_reg ?_
  refine to_callR rfl rfl (fun w s => law_A w) rfl (fun v39 lo39 w39 hlo39 hR39 => ?_)
  obtain ⟨gg39, cc39, rfl, hg139, hg239, hrow39⟩ := hR39
  have hro39 := rbr_ro hg139 hrow39
  refine to_call0 rfl rfl (fun w s => k_Owed _ _ w (rdw s)) rfl ?_
  refine to_mv rfl rfl ?_
  refine to_ex rfl rfl rfl ?_
  refine to_ex rfl rfl rfl ?_
  refine to_alloc rfl (fun b6 => ?_)
  first | refine to_st rfl rfl rfl rfl ?_ | refine to_ste rfl rfl (by assumption) rfl rfl ?_
  refine to_as rfl rfl ?_
  refine to_nil ?_
  refine tn_code ?_
  refine t_seq ?_
  refine t_reg ?_
  refine to_callR rfl rfl (fun w s => law_A w) rfl (fun v44 lo44 w44 hlo44 hR44 => ?_)
  obtain ⟨gg44, cc44, rfl, hg144, hg244, hrow44⟩ := hR44
  have hro44 := rbr_ro hg144 hrow44
  refine to_bsl rfl rfl rfl rfl (fun a45 => ?_)
  refine to_callR rfl rfl (fun w s => k_Pays _ _ _ _ w (rdw s) (rdw s)) rfl (fun v46 lo46 w46 hlo46 hR46 => ?_)
  obtain ⟨pa46, pc46, rfl, hro46⟩ := hR46
  refine to_mv rfl rfl ?_
  refine to_ex rfl rfl rfl ?_
  refine to_ex rfl rfl rfl ?_
  refine to_as rfl rfl ?_
  refine to_as rfl rfl ?_
  refine to_nil ?_
  refine tn_code ?_
  refine t_seq ?_
  refine t_reg ?_
  refine to_callR rfl rfl (fun w s => law_A w) rfl (fun v50 lo50 w50 hlo50 hR50 => ?_)
  obtain ⟨gg50, cc50, rfl, hg150, hg250, hrow50⟩ := hR50
  have hro50 := rbr_ro hg150 hrow50
  refine to_bsl rfl rfl rfl rfl (fun a51 => ?_)
  refine to_call0 rfl rfl (fun w s => k_Rest _ _ _ _ w (rdw s) (rdw s)) rfl ?_
  refine to_mv rfl rfl ?_
  refine to_ex rfl rfl rfl ?_
  refine to_ex rfl rfl rfl ?_
  refine to_as rfl rfl ?_
  refine to_as rfl rfl ?_
  refine to_nil ?_
  refine tn_code ?_
  refine t_seq ?_
  refine t_reg ?_
  refine to_callR rfl rfl (fun w s => law_A w) rfl (fun v56 lo56 w56 hlo56 hR56 => ?_)
  obtain ⟨gg56, cc56, rfl, hg156, hg256, hrow56⟩ := hR56
  have hro56 := rbr_ro hg156 hrow56
  refine to_callR rfl rfl (fun w s => k_Bounds _ _ w (rdw s)) rfl (fun v57 lo57 w57 hlo57 hR57 => ?_)
  obtain ⟨pa57, pc57, rfl, hro57⟩ := hR57
  refine to_mv rfl rfl ?_
  refine to_ex rfl rfl rfl ?_
  refine to_ex rfl rfl rfl ?_
  refine to_as rfl rfl ?_
  refine to_as rfl rfl ?_
  refine to_nil ?_
  refine tn_code ?_
  refine t_seq ?_
  refine t_reg ?_
  refine to_callR rfl rfl (fun w s => law_A w) rfl (fun v61 lo61 w61 hlo61 hR61 => ?_)
  obtain ⟨gg61, cc61, rfl, hg161, hg261, hrow61⟩ := hR61
  have hro61 := rbr_ro hg161 hrow61
  refine to_call0 rfl rfl (fun w s => k_Total _ _ w (rdw s)) rfl ?_
  refine to_mv rfl rfl ?_
  refine to_ex rfl rfl rfl ?_
  refine to_ex rfl rfl rfl ?_
  refine to_alloc rfl (fun b14 => ?_)
  first | refine to_st rfl rfl rfl rfl ?_ | refine to_ste rfl rfl (by assumption) rfl rfl ?_
  refine to_as rfl rfl ?_
  refine to_nil ?_
  refine tn_code ?_
  refine t_seq ?_
  refine t_reg ?_
  refine to_callR rfl rfl (fun w s => law_A w) rfl (fun v66 lo66 w66 hlo66 hR66 => ?_)
  obtain ⟨gg66, cc66, rfl, hg166, hg266, hrow66⟩ := hR66
  have hro66 := rbr_ro hg166 hrow66
  refine to_callR rfl rfl (fun w s => k_Agrees _ _ w (rdw s)) rfl (fun v67 lo67 w67 hlo67 hR67 => ?_)
  obtain ⟨pa67, pc67, rfl, hro67⟩ := hR67
  refine to_mv rfl rfl ?_
  refine to_ex rfl rfl rfl ?_
  refine to_ex rfl rfl rfl ?_
  refine to_as rfl rfl ?_
  refine to_as rfl rfl ?_
  refine to_nil ?_
  refine tn_code ?_
  refine t_seq ?_
  refine t_reg ?_
  refine to_callR rfl rfl (fun w s => law_B w) rfl (fun v71 lo71 w71 hlo71 hR71 => ?_)
  obtain ⟨pa71, pc71, rfl, hro71⟩ := hR71
  refine to_call0 rfl rfl (fun w s => k_First _ _ w (rdw s)) rfl ?_
  refine to_mv rfl rfl ?_
  refine to_ex rfl rfl rfl ?_
  refine to_ex rfl rfl rfl ?_
  refine to_as rfl rfl ?_
  refine to_as rfl rfl ?_
  refine to_nil ?_
  refine tn_code ?_
  refine t_seq ?_
  refine t_reg ?_
  refine to_callR rfl rfl (fun w s => law_A w) rfl (fun v76 lo76 w76 hlo76 hR76 => ?_)
  obtain ⟨gg76, cc76, rfl, hg176, hg276, hrow76⟩ := hR76
  have hro76 := rbr_ro hg176 hrow76
  refine to_call0 rfl rfl (fun w s => k_Errors _ _ w (rdw s)) rfl ?_
  refine to_mv rfl rfl ?_
  refine to_ex rfl rfl rfl ?_
  refine to_ex rfl rfl rfl ?_
  refine to_alloc rfl (fun b20 => ?_)
  first | refine to_st rfl rfl rfl rfl ?_ | refine to_ste rfl rfl (by assumption) rfl rfl ?_
  refine to_as rfl rfl ?_
  refine to_nil ?_
  refine tn_code ?_
  refine t_seq ?_
  refine t_reg ?_
  refine to_callR rfl rfl (fun w s => law_A w) rfl (fun v81 lo81 w81 hlo81 hR81 => ?_)
  obtain ⟨gg81, cc81, rfl, hg181, hg281, hrow81⟩ := hR81
  have hro81 := rbr_ro hg181 hrow81
  refine to_callR rfl rfl (fun w s => k_Share _ _ w (rdw s)) rfl (fun v82 lo82 w82 hlo82 hR82 => ?_)
  obtain ⟨pa82, pc82, rfl, hro82⟩ := hR82
  refine to_mv rfl rfl ?_
  refine to_ex rfl rfl rfl ?_
  refine to_ex rfl rfl rfl ?_
  refine to_as rfl rfl ?_
  refine to_as rfl rfl ?_
  refine to_nil ?_
  refine tn_code ?_
  refine t_seq ?_
  refine t_reg ?_
  refine to_callR rfl rfl (fun w s => law_A w) rfl (fun v86 lo86 w86 hlo86 hR86 => ?_)
  obtain ⟨gg86, cc86, rfl, hg186, hg286, hrow86⟩ := hR86
  have hro86 := rbr_ro hg186 hrow86
  refine to_call0 rfl rfl (fun w s => k_Rate _ _ w (rdw s)) rfl ?_
  refine to_mv rfl rfl ?_
  refine to_ex rfl rfl rfl ?_
  refine to_ex rfl rfl rfl ?_
  refine to_as rfl rfl ?_
  refine to_as rfl rfl ?_
  refine to_nil ?_
  refine tn_code ?_
  refine t_seq ?_
  refine t_reg ?_
  refine to_callR rfl rfl (fun w s => k_Read w (gl_up hg (belowH_of s))) rfl (fun v91 lo91 w91 hlo91 hR91 => ?_)
  obtain ⟨pa91, pc91, rfl, hro91⟩ := hR91
  refine to_mv rfl rfl ?_
  refine to_ex rfl rfl rfl ?_
  refine to_ex rfl rfl rfl ?_
  refine to_alloc rfl (fun b26 => ?_)
  first | refine to_st rfl rfl rfl rfl ?_ | refine to_ste rfl rfl (by assumption) rfl rfl ?_
  refine to_as rfl rfl ?_
  refine to_nil ?_
  refine tn_code ?_
  refine t_seq ?_
  refine t_seq ?_
  refine t_reg ?_
  refine to_mv rfl rfl ?_
  refine to_neq rfl rfl rfl ?_
  refine to_fix (s := 95) (b' := false) rfl (rfl) ?_
  refine to_mv rfl rfl ?_
  refine to_gt rfl rfl ?_
  refine to_mv rfl rfl ?_
  refine to_gt rfl rfl ?_
  refine to_neq rfl rfl rfl ?_
  refine to_fix (s := 98) (b' := false) rfl (rfl) ?_
  refine to_pkF rfl rfl rfl ?_
  refine to_mv rfl rfl ?_
  refine to_gt rfl rfl ?_
  refine to_mv rfl rfl ?_
  refine to_gt rfl rfl ?_
  refine to_neq rfl rfl rfl ?_
  refine to_fix (s := 102) (b' := false) rfl (rfl) ?_
  refine to_pkF rfl rfl rfl ?_
  refine to_mv rfl rfl ?_
  refine to_gt rfl rfl ?_
  refine to_mv rfl rfl ?_
  refine to_gt rfl rfl ?_
  refine to_neq rfl rfl rfl ?_
  refine to_fix (s := 106) (b' := false) rfl (rfl) ?_
  refine to_pkF rfl rfl rfl ?_
  refine to_mv rfl rfl ?_
  refine to_gt rfl rfl ?_
  refine to_mv rfl rfl ?_
  refine to_gt rfl rfl ?_
  refine to_neq rfl rfl rfl ?_
  refine to_fix (s := 110) (b' := false) rfl (rfl) ?_
  refine to_pkF rfl rfl rfl ?_
  refine to_mv rfl rfl ?_
  refine to_gt rfl rfl ?_
  refine to_mv rfl rfl ?_
  refine to_gt rfl rfl ?_
  refine to_neq rfl rfl rfl ?_
  refine to_fix (s := 114) (b' := false) rfl (rfl) ?_
  refine to_pkF rfl rfl rfl ?_
  refine to_mv rfl rfl ?_
  refine to_gt rfl rfl ?_
  refine to_mv rfl rfl ?_
  refine to_gt rfl rfl ?_
  refine to_neq rfl rfl rfl ?_
  refine to_fix (s := 118) (b' := false) rfl (rfl) ?_
  refine to_pkF rfl rfl rfl ?_
  refine to_mv rfl rfl ?_
  refine to_gt rfl rfl ?_
  refine to_mv rfl rfl ?_
  refine to_gt rfl rfl ?_
  refine to_neq rfl rfl rfl ?_
  refine to_fix (s := 122) (b' := false) rfl (rfl) ?_
  refine to_pkF rfl rfl rfl ?_
  refine to_mv rfl rfl ?_
  refine to_gt rfl rfl ?_
  refine to_mv rfl rfl ?_
  refine to_gt rfl rfl ?_
  refine to_neq rfl rfl rfl ?_
  refine to_fix (s := 126) (b' := false) rfl (rfl) ?_
  refine to_pkF rfl rfl rfl ?_
  refine to_mv rfl rfl ?_
  refine to_gt rfl rfl ?_
  refine to_mv rfl rfl ?_
  refine to_gt rfl rfl ?_
  refine to_neq rfl rfl rfl ?_
  refine to_fix (s := 130) (b' := false) rfl (rfl) ?_
  refine to_pkF rfl rfl rfl ?_
  refine to_mv rfl rfl ?_
  refine to_gt rfl rfl ?_
  refine to_mv rfl rfl ?_
  refine to_gt rfl rfl ?_
  refine to_neq rfl rfl rfl ?_
  refine to_fix (s := 134) (b' := false) rfl (rfl) ?_
  refine to_pkF rfl rfl rfl ?_
  refine to_mv rfl rfl ?_
  refine to_gt rfl rfl ?_
  refine to_mv rfl rfl ?_
  refine to_gt rfl rfl ?_
  refine to_neq rfl rfl rfl ?_
  refine to_fix (s := 138) (b' := false) rfl (rfl) ?_
  refine to_pkF rfl rfl rfl ?_
  refine to_mv rfl rfl ?_
  refine to_gt rfl rfl ?_
  refine to_mv rfl rfl ?_
  refine to_gt rfl rfl ?_
  refine to_neq rfl rfl rfl ?_
  refine to_fix (s := 142) (b' := false) rfl (rfl) ?_
  refine to_pkF rfl rfl rfl ?_
  refine to_nil ?_
  refine tn_code ?_
  refine t_ifF rfl ?_
  refine t_skip ?_
  refine tn_code ?_
  refine t_seq ?_
  refine t_seq ?_
  refine t_regM [14, 15, 27, 28] [.own b14 (isC [.int .i64 176, .int .i64 180] 44), .own b6 (isC [.int .i64 92, .int .i64 97] 44), .own b4 (isC (monC ⟨1, 2, 3, 1⟩) 50), .own b1 (isC (monC ⟨1, 2, 3, 1⟩) 50), .snap 0 w.heap.size w] rfl (by kernel_rfl) (by kernel_rfl) ?_
  refine tm_q ?e1 rfl ?q1 ?r1
  case q1 =>
    refine to_mv rfl rfl ?_
    exact tmq_end
  refine tm_q ?e2 rfl ?q2 ?r2
  case q2 =>
    refine to_neq rfl rfl rfl ?_
    refine to_fix (s := 145) (b' := false) rfl (rfl) ?_
    exact tmq_end
  refine tm_q ?e3 rfl ?q3 ?r3
  case q3 =>
    refine to_mv rfl rfl ?_
    exact tmq_end
  refine tm_gt rfl rfl ?_
  refine tm_q ?e4 rfl ?q4 ?r4
  case q4 =>
    first | refine to_lda rfl rfl rfl ?_ | refine to_ldea rfl (by assumption) rfl rfl ?_
    exact tmq_end
  refine tm_gt rfl rfl ?_
  refine tm_q ?e5 rfl ?q5 ?r5
  case q5 =>
    first | refine to_lda rfl rfl rfl ?_ | refine to_ldea rfl (by assumption) rfl rfl ?_
    exact tmq_end
  refine tm_gt rfl rfl ?_
  refine tm_q ?e6 rfl ?q6 ?r6
  case q6 =>
    refine to_nes rfl rfl rfl rfl rfl rfl rfl ?_
    refine to_fix (s := 149) (b' := false) rfl (rfl) ?_
    exact tmq_end
  refine tm_q ?e7 rfl ?q7 ?r7
  case q7 =>
    refine to_pkF rfl rfl rfl ?_
    exact tmq_end
  refine tm_q ?e8 rfl ?q8 ?r8
  case q8 =>
    refine to_mv rfl rfl ?_
    exact tmq_end
  refine tm_gt rfl rfl ?_
  refine tm_q ?e9 rfl ?q9 ?r9
  case q9 =>
    first | refine to_lda rfl rfl rfl ?_ | refine to_ldea rfl (by assumption) rfl rfl ?_
    exact tmq_end
  refine tm_gt rfl rfl ?_
  refine tm_q ?e10 rfl ?q10 ?r10
  case q10 =>
    refine to_call0 rfl rfl (fun w s => law_span _ _ w) rfl ?_
    exact tmq_end
  refine tm_gt rfl rfl ?_
  refine tm_q ?e11 rfl ?q11 ?r11
  case q11 =>
    refine to_nes rfl rfl rfl rfl rfl rfl rfl ?_
    refine to_fix (s := 154) (b' := false) rfl (rfl) ?_
    exact tmq_end
  refine tm_q ?e12 rfl ?q12 ?r12
  case q12 =>
    refine to_pkF rfl rfl rfl ?_
    exact tmq_end
  refine tm_q ?e13 rfl ?q13 ?r13
  case q13 =>
    refine to_mv rfl rfl ?_
    exact tmq_end
  refine tm_gt rfl rfl ?_
  refine tm_q ?e14 rfl ?q14 ?r14
  case q14 =>
    refine to_mv rfl rfl ?_
    exact tmq_end
  refine tm_gt rfl rfl ?_
  refine tm_s rfl ?_ (fun _ h => by cases h) rfl
  refine to_bsl rfl rfl rfl rfl (fun a158 => ?_)
  refine tm_se rfl ?_
  refine tm_gt rfl rfl ?_
  refine tm_s rfl ?_ (fun _ h => by cases h) rfl
  refine to_call0 rfl rfl (fun w s => ref_Same [96, 60, 84] [96, 60, 84] _ _ _ _ w (rdw s) (rdw s) (by decide)) rfl ?_
  refine to_fix (s := 159) (b' := true) rfl (by decide) ?_
  refine tm_se rfl ?_
  refine tm_gt rfl rfl ?_
  refine tm_q ?e15 rfl ?q15 ?r15
  case q15 =>
    refine to_not rfl rfl ?_
    exact tmq_end
  refine tm_q ?e16 rfl ?q16 ?r16
  case q16 =>
    refine to_pkF rfl rfl rfl ?_
    exact tmq_end
  refine tm_q ?e17 rfl ?q17 ?r17
  case q17 =>
    refine to_mv rfl rfl ?_
    exact tmq_end
  refine tm_gt rfl rfl ?_
  refine tm_q ?e18 rfl ?q18 ?r18
  case q18 =>
    refine to_mv rfl rfl ?_
    exact tmq_end
  refine tm_gt rfl rfl ?_
  refine tm_q ?e19 rfl ?q19 ?r19
  case q19 =>
    refine to_neq rfl rfl rfl ?_
    refine to_fix (s := 164) (b' := false) rfl (rfl) ?_
    exact tmq_end
  refine tm_q ?e20 rfl ?q20 ?r20
  case q20 =>
    refine to_pkF rfl rfl rfl ?_
    exact tmq_end
  refine tm_q ?e21 rfl ?q21 ?r21
  case q21 =>
    refine to_mv rfl rfl ?_
    exact tmq_end
  refine tm_gt rfl rfl ?_
  refine tm_q ?e22 rfl ?q22 ?r22
  case q22 =>
    refine to_mv rfl rfl ?_
    exact tmq_end
  refine tm_gt rfl rfl ?_
  refine tm_q ?e23 rfl ?q23 ?r23
  case q23 =>
    refine to_call0 rfl rfl (fun w s => law_span _ _ w) rfl ?_
    exact tmq_end
  refine tm_gt rfl rfl ?_
  refine tm_q ?e24 rfl ?q24 ?r24
  case q24 =>
    refine to_call0 rfl rfl (fun w s => law_span _ _ w) rfl ?_
    exact tmq_end
  refine tm_gt rfl rfl ?_
  refine tm_q ?e25 rfl ?q25 ?r25
  case q25 =>
    refine to_call0 rfl rfl (fun w s => law_span _ _ w) rfl ?_
    exact tmq_end
  refine tm_gt rfl rfl ?_
  refine tm_s rfl ?_ (fun _ h => by cases h) rfl
  refine to_bsl rfl rfl rfl rfl (fun a171 => ?_)
  refine tm_se rfl ?_
  refine tm_gt rfl rfl ?_
  refine tm_s rfl ?_ (fun _ h => by cases h) rfl
  refine to_call0 rfl rfl (fun w s => ref_SameSpans [(92, 96), (60, 64), (84, 84)] [(92, 96), (60, 64), (84, 84)] _ _ _ _ w (rdw s) (rdw s) (by decide)) rfl ?_
  refine to_fix (s := 172) (b' := true) rfl (by decide) ?_
  refine tm_se rfl ?_
  refine tm_gt rfl rfl ?_
  refine tm_q ?e26 rfl ?q26 ?r26
  case q26 =>
    refine to_not rfl rfl ?_
    exact tmq_end
  refine tm_q ?e27 rfl ?q27 ?r27
  case q27 =>
    refine to_pkF rfl rfl rfl ?_
    exact tmq_end
  refine tm_q ?e28 rfl ?q28 ?r28
  case q28 =>
    refine to_mv rfl rfl ?_
    exact tmq_end
  refine tm_gt rfl rfl ?_
  refine tm_q ?e29 rfl ?q29 ?r29
  case q29 =>
    first | refine to_lda rfl rfl rfl ?_ | refine to_ldea rfl (by assumption) rfl rfl ?_
    exact tmq_end
  refine tm_gt rfl rfl ?_
  refine tm_q ?e30 rfl ?q30 ?r30
  case q30 =>
    refine to_call0 rfl rfl (fun w s => law_span _ _ w) rfl ?_
    exact tmq_end
  refine tm_gt rfl rfl ?_
  refine tm_q ?e31 rfl ?q31 ?r31
  case q31 =>
    refine to_nes rfl rfl rfl rfl rfl rfl rfl ?_
    refine to_fix (s := 178) (b' := false) rfl (rfl) ?_
    exact tmq_end
  refine tm_q ?e32 rfl ?q32 ?r32
  case q32 =>
    refine to_pkF rfl rfl rfl ?_
    exact tmq_end
  refine tm_nil ?_
  refine tn_code ?_
  refine t_ifF rfl ?_
  refine t_skip ?_
  refine tn_code ?_
  refine t_seq ?_
  refine t_regM [1, 2, 14, 15, 23] [.own b26 (isC (bkC bkT pa91 pc91) 24), .own b20 (isC [.int .i64 1, .int .i64 1] 44), .snap 0 w.heap.size w] rfl (by kernel_rfl) (by kernel_rfl) ?_
  refine tm_q ?e33 rfl ?q33 ?r33
  case q33 =>
    refine to_mv rfl rfl ?_
    exact tmq_end
  refine tm_s rfl ?_ (fun _ h => by cases h) rfl
  refine to_bsl rfl rfl rfl rfl (fun a181 => ?_)
  refine tm_se rfl ?_
  refine tm_s rfl ?_ (fun _ h => by cases h) rfl
  refine to_call0 rfl rfl (fun w s => ref_Same [1, 1, 0] [1, 1, 0] _ _ _ _ w (rdw s) (rdw s) (by decide)) rfl ?_
  refine to_fix (s := 182) (b' := true) rfl (by decide) ?_
  refine tm_se rfl ?_
  refine tm_q ?e34 rfl ?q34 ?r34
  case q34 =>
    refine to_mv rfl rfl ?_
    exact tmq_end
  refine tm_gt rfl rfl ?_
  refine tm_q ?e35 rfl ?q35 ?r35
  case q35 =>
    refine to_mv rfl rfl ?_
    exact tmq_end
  refine tm_gt rfl rfl ?_
  refine tm_q ?e36 rfl ?q36 ?r36
  case q36 =>
    refine to_eql rfl rfl rfl ?_
    refine to_fix (s := 185) (b' := true) rfl (rfl) ?_
    exact tmq_end
  refine tm_q ?e37 rfl ?q37 ?r37
  case q37 =>
    refine to_pkT rfl rfl rfl ?_
    exact tmq_end
  refine tm_q ?e38 rfl ?q38 ?r38
  case q38 =>
    refine to_mv rfl rfl ?_
    exact tmq_end
  refine tm_gt rfl rfl ?_
  refine tm_q ?e39 rfl ?q39 ?r39
  case q39 =>
    first | refine to_lda rfl rfl rfl ?_ | refine to_ldea rfl (by assumption) rfl rfl ?_
    exact tmq_end
  refine tm_gt rfl rfl ?_
  refine tm_q ?e40 rfl ?q40 ?r40
  case q40 =>
    refine to_call0 rfl rfl (fun w s => law_span _ _ w) rfl ?_
    exact tmq_end
  refine tm_gt rfl rfl ?_
  refine tm_q ?e41 rfl ?q41 ?r41
  case q41 =>
    refine to_eqs rfl rfl rfl rfl rfl rfl rfl ?_
    refine to_fix (s := 190) (b' := true) rfl (rfl) ?_
    exact tmq_end
  refine tm_q ?e42 rfl ?q42 ?r42
  case q42 =>
    refine to_pkT rfl rfl rfl ?_
    exact tmq_end
  refine tm_q ?e43 rfl ?q43 ?r43
  case q43 =>
    refine to_mv rfl rfl ?_
    exact tmq_end
  refine tm_gt rfl rfl ?_
  refine tm_q ?e44 rfl ?q44 ?r44
  case q44 =>
    refine to_mv rfl rfl ?_
    exact tmq_end
  refine tm_gt rfl rfl ?_
  refine tm_s rfl ?_ (fun _ h => by cases h) rfl
  refine to_bsl rfl rfl rfl rfl (fun a194 => ?_)
  refine tm_se rfl ?_
  refine tm_gt rfl rfl ?_
  refine tm_s rfl ?_ (fun _ h => by cases h) rfl
  refine to_call0 rfl rfl (fun w s => ref_Same [71, 29] [71, 29] _ _ _ _ w (rdw s) (rdw s) (by decide)) rfl ?_
  refine to_fix (s := 195) (b' := true) rfl (by decide) ?_
  refine tm_se rfl ?_
  refine tm_q ?e45 rfl ?q45 ?r45
  case q45 =>
    refine to_pkT rfl rfl rfl ?_
    exact tmq_end
  refine tm_q ?e46 rfl ?q46 ?r46
  case q46 =>
    refine to_mv rfl rfl ?_
    exact tmq_end
  refine tm_gt rfl rfl ?_
  refine tm_q ?e47 rfl ?q47 ?r47
  case q47 =>
    refine to_mv rfl rfl ?_
    exact tmq_end
  refine tm_gt rfl rfl ?_
  refine tm_q ?e48 rfl ?q48 ?r48
  case q48 =>
    refine to_eql rfl rfl rfl ?_
    refine to_fix (s := 199) (b' := true) rfl (rfl) ?_
    exact tmq_end
  refine tm_q ?e49 rfl ?q49 ?r49
  case q49 =>
    refine to_pkT rfl rfl rfl ?_
    exact tmq_end
  refine tm_q ?e50 rfl ?q50 ?r50
  case q50 =>
    refine to_mv rfl rfl ?_
    exact tmq_end
  refine tm_gt rfl rfl ?_
  refine tm_q ?e51 rfl ?q51 ?r51
  case q51 =>
    first | refine to_lda rfl rfl rfl ?_ | refine to_ldea rfl (by assumption) rfl rfl ?_
    exact tmq_end
  refine tm_gt rfl rfl ?_
  refine tm_s rfl ?_ (fun _ h => by cases h) rfl
  refine to_call0 rfl rfl (fun w s => k_Print _ _ w (rdw s)) rfl ?_
  refine tm_se rfl ?_
  refine tm_gt rfl rfl ?_
  refine tm_q ?e52 rfl ?q52 ?r52
  case q52 =>
    refine to_seq rfl rfl rfl ?_
    refine to_fix (s := 204) (b' := true) rfl (by decide) ?_
    exact tmq_end
  refine tm_q ?e53 rfl ?q53 ?r53
  case q53 =>
    refine to_pkT rfl rfl rfl ?_
    exact tmq_end
  refine tm_q ?e54 rfl ?q54 ?r54
  case q54 =>
    refine to_as rfl rfl ?_
    exact tmq_end
  refine tm_nil ?_
  refine tn_code ?_
  refine t_ret1 rfl rfl (res_tmp rfl) (fun w' s => ?_)
  rfl

end Go.Proofs


namespace Go.Proofs
open Go Go.Sx Go.RowKit Go.WideShapes Go.ChangeShapes

/-! # What comes in, as plain data -/

section opens
variable {H : Type} {enc : TypeId × Value → H} {P : Program} {w : World} {base : Nat} {spare : Nat → Bool} {held : Bool}

def i64B (n : Int) : Prop := -9223372036854775808 ≤ n ∧ n ≤ 9223372036854775807
def isI64 (v : Value) : Prop := ∃ n, v = .int .i64 n ∧ i64B n
def coverB (P : Program) (g : TypeId → Bool) : List Field → Nat → Nat → Bool
  | [], off, k => off == k
  | f :: fs, off, k => (f.offset == off && g f.type) && coverB P g fs (off + P.cellsOf f.type) k
/-- All cells of the type are ints. -/
def intB (P : Program) : Nat → TypeId → Bool
  | 0, _ => false
  | d + 1, t => match P.underlying t with
    | some (.int .i64) => P.cellsOf t == 1
    | some (.struct f) => coverB P (intB P d) f.toList 0 (P.cellsOf t)
    | _ => false

theorem cover_all {g : TypeId → Bool} {cs : List Value} : ∀ {fs : List Field} {off : Nat}, coverB P g fs off cs.length = true → (∀ f ∈ fs, g f.type = true → (((cs.drop f.offset).take (P.cellsOf f.type)).length = P.cellsOf f.type ∧ ∀ v ∈ (cs.drop f.offset).take (P.cellsOf f.type), isI64 v)) → ∀ v ∈ cs.drop off, isI64 v
  | [], off, h, _ => by
    simp only [coverB, beq_iff_eq] at h
    intro v hv
    rw [List.drop_of_length_le (by omega)] at hv
    cases hv
  | f :: fs, off, h, hall => by
    simp only [coverB, Bool.and_eq_true, beq_iff_eq] at h
    obtain ⟨⟨h1, h2⟩, h3⟩ := h
    have h4 := (hall f (List.mem_cons_self ..) h2).2
    have ih := cover_all h3 (fun f' hf' => hall f' (List.mem_cons_of_mem _ hf'))
    intro v hv
    rw [← List.take_append_drop (P.cellsOf f.type) (cs.drop off), List.mem_append] at hv
    rcases hv with hv | hv
    · exact h4 v (by rw [h1]; exact hv)
    · rw [List.drop_drop] at hv
      exact ih v hv

theorem trod_ints : ∀ (d : Nat) {t : TypeId} {fuel : Nat} {cs : List Value} {x : DataW H × List MemPlace}, intB P d t = true → DataW.trod enc P w base spare held fuel t cs = some x → cs.length = P.cellsOf t ∧ ∀ v ∈ cs, isI64 v
  | 0, _, _, _, _, h, _ => by simp [intB] at h
  | d + 1, t, fuel, cs, x, h, ht => by
    simp only [intB] at h
    split at h
    · rename_i hu
      obtain ⟨n, rfl, _, hw⟩ := DataW.trod_int hu ht
      simp only [beq_iff_eq] at h
      refine ⟨by simp [h], fun v hv => ?_⟩
      simp only [List.mem_singleton] at hv
      refine ⟨n, hv, ?_⟩
      simpa [i64B, Lit.wf, IntKind.min, IntKind.max, IntKind.signed, IntKind.bits] using hw
    · rename_i f hu
      obtain ⟨xs, n, _, _, hl, hxl, hat⟩ := DataW.trod_struct hu ht
      refine ⟨hl, fun v hv => ?_⟩
      rw [← hl] at h
      have := cover_all (P := P) (g := intB P d) (cs := cs) (off := 0) h (fun fl hfl hg => by
        obtain ⟨i, hi⟩ := List.mem_iff_getElem?.1 hfl
        have hi' : f[i]? = some fl := by simpa using hi
        have h1 := hat i fl hi'
        have hlt : i < xs.length := by rw [hxl]; exact (Array.getElem?_eq_some_iff.1 hi').1
        rw [List.getElem?_eq_getElem hlt] at h1
        exact trod_ints d hg h1)
      exact this v (by simpa using hv)
    · cases h

theorem cells4 {cs : List Value} (hl : cs.length = 4) (h : ∀ v ∈ cs, isI64 v) : ∃ m : Mon, cs = monC m := by
  match cs, hl, h with
  | [a, b, c, d], _, h =>
    obtain ⟨p, rfl, _⟩ := h a (by simp)
    obtain ⟨q, rfl, _⟩ := h b (by simp)
    obtain ⟨r, rfl, _⟩ := h c (by simp)
    obtain ⟨s, rfl, _⟩ := h d (by simp)
    exact ⟨⟨p, q, r, s⟩, rfl⟩
theorem cells10 {cs : List Value} (hl : cs.length = 10) (h : ∀ v ∈ cs, isI64 v) : ∃ l : Lin, cs = linC l := by
  match cs, hl, h with
  | [a0, a1, a2, a3, a4, a5, a6, a7, a8, a9], _, h =>
    obtain ⟨n0, rfl, _⟩ := h a0 (by simp)
    obtain ⟨n1, rfl, _⟩ := h a1 (by simp)
    obtain ⟨n2, rfl, _⟩ := h a2 (by simp)
    obtain ⟨n3, rfl, _⟩ := h a3 (by simp)
    obtain ⟨n4, rfl, _⟩ := h a4 (by simp)
    obtain ⟨n5, rfl, _⟩ := h a5 (by simp)
    obtain ⟨n6, rfl, _⟩ := h a6 (by simp)
    obtain ⟨n7, rfl, _⟩ := h a7 (by simp)
    obtain ⟨n8, rfl, _⟩ := h a8 (by simp)
    obtain ⟨n9, rfl, _⟩ := h a9 (by simp)
    exact ⟨⟨n0, n1, n2, n3, n4, n5, ⟨n6, n7, n8, n9⟩⟩, rfl⟩
theorem cells1 {cs : List Value} (hl : cs.length = 1) (h : ∀ v ∈ cs, isI64 v) : ∃ n : Int, cs = [.int .i64 n] ∧ i64B n := by
  match cs, hl, h with
  | [a], _, h =>
    obtain ⟨p, rfl, hp⟩ := h a (by simp)
    exact ⟨p, rfl, hp⟩

theorem mem_choose {α β : Type} {f : β → α} {p : α → Prop} (hp : ∀ a, p a → ∃ b, a = f b) : ∀ (xs : List α), (∀ a ∈ xs, p a) → ∃ ys : List β, xs = ys.map f
  | [], _ => ⟨[], rfl⟩
  | x :: xs, h => by
    obtain ⟨y, rfl⟩ := hp x (h x (List.mem_cons_self ..))
    obtain ⟨ys, rfl⟩ := mem_choose hp xs (fun a ha => h a (List.mem_cons_of_mem _ ha))
    exact ⟨y :: ys, rfl⟩

/-- A slice whose elements are ints, or structs of ints: its rows. -/
theorem open_rows {t e : TypeId} {sz fuel d : Nat} {v : Value} {x : DataW H × List MemPlace} {P : Program} {w : World} (ht : P.underlying t = some (.slice e)) (hi : intB P d e = true) (hsz : P.cellsOf e = sz)
    (hv : Value.okWide P w .any base t v ∨ Cell.okWide P w .any base t v) {a : Option Addr} {n cap : Nat} (hva : v = .slice a n cap) (h : DataW.trod enc P w 0 (fun _ => true) true fuel t [v] = some x) :
    ∃ xs : List (List Value), Ro w 0 w.heap.size a n cap sz xs ∧ (∀ r ∈ xs, r.length = sz ∧ ∀ u ∈ r, isI64 u) ∧ (n : Int) ≤ 9223372036854775807 := by
  subst hva
  rcases DataW.trod_slice ht h with ⟨hc, _⟩ | ⟨ad, len, cap', elems, rest, n', _, hc, _, _, hl, hm, hlen, hel, _, _⟩
  · cases hc
    exact ⟨[], Ro.nil _ _ _ _, (fun _ h => by cases h), by decide⟩
  · cases hc
    have hcell : Cell.okWide P w .any base t (.slice (some ad) n cap) := by
      rcases hv with hv | hv
      · unfold Value.okWide at hv; rw [ht] at hv; exact hv
      · exact hv
    have hhas : (cap : Int) ≤ IntKind.i64.max ∧ w.has P .any base ad e cap := by
      unfold Cell.okWide at hcell
      rw [ht] at hcell
      simp only [Cell.ok, ht] at hcell
      exact hcell.2
    obtain ⟨hcm, _, hsp, row, cells, hshape, _⟩ := hhas
    have hblk : ad.block < w.heap.size := by
      unfold World.shape? at hshape
      cases hb : w.heap[ad.block]? with
      | none => rw [hb] at hshape; cases hshape
      | some o => exact (Array.getElem?_eq_some_iff.1 hb).1
    have key : ∀ i, i < n → ∃ r : List Value, r.length = sz ∧ (∀ u ∈ r, isI64 u) ∧ ∀ j u, r[j]? = some u → w.cell? ⟨ad.block, ad.off + (i * sz + j), none⟩ = some u := by
      intro i hi2
      have h1 := hel i hi2
      have hlt : i < elems.length := by rw [hlen]; exact hi2
      rw [List.getElem?_eq_getElem hlt] at h1
      simp only [Option.bind_eq_some_iff] at h1
      obtain ⟨cs', h2, h3⟩ := h1
      obtain ⟨h4, h5⟩ := trod_ints d hi h3
      obtain ⟨_, hcl, hat⟩ := World.cells?_some h2
      refine ⟨cs', by omega, h5, fun j u hu => ?_⟩
      have hjl := (List.getElem?_eq_some_iff.1 hu).1
      have := hat j (by omega)
      rw [hu] at this
      rw [hsz] at this
      have e1 : (ad.add (i * sz)).add j = ⟨ad.block, ad.off + (i * sz + j), none⟩ := by
        rw [Addr.add_add, add_block _ _ hsp]
      rw [e1] at this
      exact this
    obtain ⟨f, hf⟩ : ∃ f : Nat → List Value, ∀ i, i < n → (f i).length = sz ∧ (∀ u ∈ f i, isI64 u) ∧ ∀ j u, (f i)[j]? = some u → w.cell? ⟨ad.block, ad.off + (i * sz + j), none⟩ = some u :=
      ⟨fun i => if h : i < n then Classical.choose (key i h) else [], fun i hi2 => by
        have := Classical.choose_spec (key i hi2)
        simp only [dif_pos hi2]
        exact this⟩
    have hget : ∀ i r, ((List.range n).map f)[i]? = some r → i < n ∧ r = f i := by
      intro i r hr
      simp only [List.getElem?_map, Option.map_eq_some_iff] at hr
      obtain ⟨k, hk, rfl⟩ := hr
      obtain ⟨h1, h2⟩ := List.getElem?_eq_some_iff.1 hk
      simp at h1 h2
      subst h2
      exact ⟨h1, rfl⟩
    have hmem : ∀ r ∈ (List.range n).map f, r.length = sz ∧ ∀ u ∈ r, isI64 u := by
      intro r hr
      simp only [List.mem_map, List.mem_range] at hr
      obtain ⟨i, hi2, rfl⟩ := hr
      exact ⟨(hf i hi2).1, (hf i hi2).2.1⟩
    refine ⟨(List.range n).map f, ⟨by simp, fun r hr => (hmem r hr).1, hl, .inr ⟨ad, rfl, hsp, Nat.zero_le _, hblk, fun i r hr j u hu => ?_⟩⟩, hmem, ?_⟩
    · obtain ⟨h1, rfl⟩ := hget i r hr
      exact (hf i h1).2.2 j u hu
    · have : IntKind.i64.max = 9223372036854775807 := by decide
      omega

/-- An int. -/
theorem open_i {t : TypeId} {v : Value} {d : DataW H} {ps : List MemPlace} (ht : P.underlying t = some (.int .i64)) (hval : Value.okWide P w .any base t v) (h : DataW.Trod enc P w 0 (fun _ => true) true t v d ps) : ∃ n : Int, v = .int .i64 n ∧ i64B n := by
  obtain ⟨n, rfl, _, _, hw⟩ := open_int ht hval h
  exact ⟨n, rfl, by simpa [i64B, Lit.wf, IntKind.min, IntKind.max, IntKind.signed, IntKind.bits] using hw⟩

/-- A struct of ints. -/
theorem open_s {t : TypeId} {f : Array Field} {v : Value} {x : DataW H} {ps : List MemPlace} {k d : Nat} (ht : P.underlying t = some (.struct f)) (hi : intB P d t = true) (hk : P.cellsOf t = k) (hval : Value.okWide P w .any base t v)
    (h : DataW.Trod enc P w 0 (fun _ => true) true t v x ps) : ∃ cs : List Value, v = .agg cs.toArray ∧ cs.length = k ∧ ∀ u ∈ cs, isI64 u := by
  obtain ⟨cs, rfl, hsz⟩ := okWide_struct ht hval
  obtain ⟨fuel, h⟩ := h
  obtain ⟨h1, h2⟩ := trod_ints d hi h
  exact ⟨cs.toList, by simp, by simpa [Value.cells, hk] using h1, by simpa [Value.cells] using h2⟩

theorem open_l {t e : TypeId} {sz d : Nat} {v : Value} {x : DataW H} {ps : List MemPlace} {P : Program} {w : World} (ht : P.underlying t = some (.slice e)) (hi : intB P d e = true) (hsz : P.cellsOf e = sz) (hval : Value.okWide P w .any base t v)
    (h : DataW.Trod enc P w 0 (fun _ => true) true t v x ps) : ∃ (a : Option Addr) (n c : Nat) (xs : List (List Value)), v = .slice a n c ∧ Ro w 0 w.heap.size a n c sz xs ∧ (∀ r ∈ xs, r.length = sz ∧ ∀ u ∈ r, isI64 u) := by
  obtain ⟨a, n, c, rfl⟩ := okWide_slice ht hval
  obtain ⟨fuel, h⟩ := h
  obtain ⟨xs, h1, h2, _⟩ := open_rows ht hi hsz (.inl hval) rfl h
  exact ⟨a, n, c, xs, rfl, h1, h2⟩

end opens

section seat
variable {H : Type} {enc : TypeId × Value → H} {w : World} {base : Nat}

theorem field_at {f : Array Field} {L : List (Nat × TypeId)} (h : f.toList.map (fun f => (f.offset, f.type)) = L) {i o : Nat} {u : TypeId} (hi : L[i]? = some (o, u)) : ∃ fld, f[i]? = some fld ∧ fld.offset = o ∧ fld.type = u := by
  subst h
  simp only [List.getElem?_map, Option.map_eq_some_iff] at hi
  obtain ⟨fld, h1, h2⟩ := hi
  cases h2
  exact ⟨fld, by simpa using h1, rfl, rfl⟩

theorem u3 : Tryz.prog.underlying 3 = some (.int .i64) := Tryz.ty3.int
theorem u36 : Tryz.prog.underlying 27 = some (.slice 3) := Tryz.ty27.slice
theorem u38 : Tryz.prog.underlying 22 = some (.slice 52) := Tryz.ty22.slice

set_option maxRecDepth 100000 in
theorem open_mon {v : Value} {x : DataW H} {ps : List MemPlace} (hval : Value.okWide Tryz.prog w .any base 50 v) (h : DataW.Trod enc Tryz.prog w 0 (fun _ => true) true 50 v x ps) : ∃ m : Mon, v = monV m := by
  obtain ⟨f, hf, _⟩ := Tryz.ty50.struct
  obtain ⟨cs, rfl, hl, hall⟩ := open_s (d := 3) hf (by kernel_rfl) (k := 4) (by kernel_rfl) hval h
  obtain ⟨m, rfl⟩ := cells4 hl hall
  exact ⟨m, rfl⟩

set_option maxRecDepth 100000 in
theorem open_ints36 {v : Value} {x : DataW H} {ps : List MemPlace} (hval : Value.okWide Tryz.prog w .any base 27 v) (h : DataW.Trod enc Tryz.prog w 0 (fun _ => true) true 27 v x ps) :
    ∃ (l : List Int) (a : Option Addr) (c : Nat), v = .slice a l.length c ∧ Ro w 0 w.heap.size a l.length c 1 (ints l) := by
  obtain ⟨a, n, c, xs, rfl, hro, hall⟩ := open_l (d := 3) u36 (by kernel_rfl) (sz := 1) (by kernel_rfl) hval h
  obtain ⟨l, rfl⟩ := mem_choose (f := intC) (p := fun r => r.length = 1 ∧ ∀ u ∈ r, isI64 u) (fun r hr => by
    obtain ⟨n, h1, _⟩ := cells1 hr.1 hr.2
    exact ⟨n, h1⟩) xs hall
  have hlen := hro.len
  rw [List.length_map] at hlen
  subst hlen
  exact ⟨l, a, c, rfl, hro⟩

set_option maxRecDepth 100000 in
theorem open_bk {v : Value} {x : DataW H} {ps : List MemPlace} (hval : Value.okWide Tryz.prog w .any base 24 v) (h : DataW.Trod enc Tryz.prog w 0 (fun _ => true) true 24 v x ps) :
    ∃ (b : Bk) (a : Option Addr) (c : Nat), v = bkV b a c ∧ Ro w 0 w.heap.size a b.lines.length c 10 (b.lines.map linC) := by
  obtain ⟨f, hf, hfs⟩ := Tryz.ty24.struct
  have hval0 := hval
  unfold Value.okWide at hval
  rw [hf] at hval
  obtain ⟨cs, rfl, hsz, ts, hts, _, hrow⟩ := hval
  have hts' : ts = [3, 3, 3, 3, 3, 3, 22] := Option.some.inj (hts.symm.trans (by kernel_rfl))
  subst hts'
  obtain ⟨fuel, h⟩ := h
  obtain ⟨xs, n, _, _, hl, hxl, hat⟩ := DataW.trod_struct hf h
  have h7 : cs.toList.length = 7 := by
    have e : Tryz.prog.cellsOf 24 = 7 := by kernel_rfl
    rw [← e]; exact hl
  have hfl : f.size = 7 := by
    have := congrArg List.length hfs
    simpa using this
  have c3 : Tryz.prog.cellsOf 3 = 1 := by kernel_rfl
  have c38 : Tryz.prog.cellsOf 22 = 1 := by kernel_rfl
  obtain ⟨l⟩ := cs
  simp only [Value.cells] at h7 hat
  match l, h7, hat, hrow with
  | [v0, v1, v2, v3, v4, v5, v6], _, hat, hrow =>
    have hint : ∀ (i : Nat) (u : Value), i < 6 → [v0, v1, v2, v3, v4, v5, v6][i]? = some u → ∃ n, u = .int .i64 n := by
      intro i u hi hu
      obtain ⟨fld, h1, h2, h3⟩ := field_at (i := i) (o := i) (u := 3) hfs (by
        match i, hi with
        | 0, _ => rfl
        | 1, _ => rfl
        | 2, _ => rfl
        | 3, _ => rfl
        | 4, _ => rfl
        | 5, _ => rfl)
      have h4 := hat i fld h1
      rw [h2, h3, c3] at h4
      have hlt : i < xs.length := by omega
      rw [List.getElem?_eq_getElem hlt] at h4
      obtain ⟨n, h5, _, _⟩ := DataW.trod_int u3 h4
      refine ⟨n, ?_⟩
      match i, hi, hu, h5 with
      | 0, _, hu, h5 => simp at hu h5; rw [← hu]; exact h5
      | 1, _, hu, h5 => simp at hu h5; rw [← hu]; exact h5
      | 2, _, hu, h5 => simp at hu h5; rw [← hu]; exact h5
      | 3, _, hu, h5 => simp at hu h5; rw [← hu]; exact h5
      | 4, _, hu, h5 => simp at hu h5; rw [← hu]; exact h5
      | 5, _, hu, h5 => simp at hu h5; rw [← hu]; exact h5
    obtain ⟨n0, rfl⟩ := hint 0 v0 (by decide) rfl
    obtain ⟨n1, rfl⟩ := hint 1 v1 (by decide) rfl
    obtain ⟨n2, rfl⟩ := hint 2 v2 (by decide) rfl
    obtain ⟨n3, rfl⟩ := hint 3 v3 (by decide) rfl
    obtain ⟨n4, rfl⟩ := hint 4 v4 (by decide) rfl
    obtain ⟨n5, rfl⟩ := hint 5 v5 (by decide) rfl
    obtain ⟨fld, h1, h2, h3⟩ := field_at (i := 6) (o := 6) (u := 22) hfs rfl
    have h4 := hat 6 fld h1
    rw [h2, h3, c38] at h4
    have hlt : 6 < xs.length := by omega
    rw [List.getElem?_eq_getElem hlt] at h4
    have h4' : DataW.trod enc Tryz.prog w 0 (fun _ => true) true n 22 [v6] = some xs[6] := h4
    obtain ⟨u, hu1, hu2⟩ := hrow 6 v6 rfl
    cases hu1
    have hsl : ∃ a n c, v6 = .slice a n c := by
      rcases DataW.trod_slice u38 h4' with ⟨hc, _⟩ | ⟨ad, len, cap', elems, rest, n', _, hc, _⟩
      · cases hc; exact ⟨_, _, _, rfl⟩
      · cases hc; exact ⟨_, _, _, rfl⟩
    obtain ⟨a, m, c, rfl⟩ := hsl
    obtain ⟨rows, hro, hall, _⟩ := open_rows (d := 4) u38 (by kernel_rfl) (sz := 10) (by kernel_rfl) (.inr hu2) rfl h4'
    obtain ⟨ls, rfl⟩ := mem_choose (f := linC) (p := fun r => r.length = 10 ∧ ∀ u ∈ r, isI64 u) (fun r hr => cells10 hr.1 hr.2) rows hall
    have hlen := hro.len
    rw [List.length_map] at hlen
    subst hlen
    exact ⟨⟨n0, n1, n2, n3, n4, n5, ls⟩, a, c, rfl, hro⟩

end seat
end Go.Proofs


namespace Go.Proofs
open Go Go.Sx Go.RowKit Go.WideShapes Go.ChangeShapes
namespace YtpnjgmioohofcabGreatDoor

/-! # A law's row out of its contract -/

theorem own : ownKnob Tryz.prog.godebug = none := by kernel_rfl
theorem laidOut : laidOutB Tryz.prog = true := by kernel_rfl
/-- What is listed. -/
abbrev laidL : List (String × DataW Unit) := [("math/bits.deBruijn32tab", Rows.laid_math_bits_deBruijn32tab), ("math/bits.deBruijn64tab", Rows.laid_math_bits_deBruijn64tab), ("internal/strconv.uint64pow10", Rows.laid_internal_strconv_uint64pow10), ("unicode/utf8.acceptRanges", Rows.laid_unicode_utf8_acceptRanges), ("unicode/utf8.first", Rows.laid_unicode_utf8_first)]

theorem pow10_eq : (Rows.laid_internal_strconv_uint64pow10 : DataW Unit) = Lib.tabData .u64 Lib.pow10Tab := by kernel_rfl

theorem size_of_head {P : Program} {W : World} {name : String} {d : DataW Unit} {rest : List (String × DataW Unit)} {g : Nat} (hg : P.globalNamed name = some g) (h : laidMet P ((name, d) :: rest) W) : g < W.heap.size := by
  obtain ⟨ps, ⟨g', t', cs, fuel, p, q, hg', ht', hvar, hd, _, _⟩, _⟩ := h
  obtain rfl := Option.some.inj (hg.symm.trans hg')
  unfold World.var? at hvar
  rw [hg] at hvar
  simp only [Option.bind_some] at hvar
  split at hvar
  · rename_i h; exact (Array.getElem?_eq_some_iff.1 h).1
  · cases hvar

theorem gl_of {W : World} (hL : laidMetH Tryz.prog laidL W) (hsh : W.ShapedOpen Tryz.prog) : Gl W := by
  rw [MakeChecks.laidMetH_plain _ _ _ (by kernel_rfl)] at hL
  have hsz : 4 < W.heap.size := size_of_head (g := 4) (by kernel_rfl) hL
  have h3 := hL.tail.tail
  rw [pow10_eq] at h3
  have ht : Lib.TabIs Tryz.prog W "internal/strconv.uint64pow10" .u64 Lib.pow10Tab := Lib.tabIs_of_head (g := 0) (t := 154) (e := 145) (n := 20) (by kernel_rfl) (by kernel_rfl) Tryz.underlying154 Tryz.underlying145 (by kernel_rfl) (by kernel_rfl) h3
  refine ⟨ht, cell_of_shapedOpen_int (t := 3) (zero := #[.int .i64 0]) hsh (by decide +kernel) (by kernel_rfl) rfl (by kernel_rfl) (by kernel_rfl) u3, ?_⟩
  exact Nat.lt_trans (by decide) hsz

section lift
variable {H : Type} {enc : TypeId × Value → H}

theorem trodAll_below {W W' : World} (hb : Below W.heap.size W W') : ∀ {ts : List TypeId} {vs : List Value} {ds : List (DataW H)} {p : List MemPlace}, (∀ t ∈ ts, Tryz.prog.readableRec t = true ∧ t < Tryz.prog.types.size) → DataW.TrodAll enc Tryz.prog W 0 (fun _ => true) true ts vs ds p → (∀ x ∈ p, x.block < W.heap.size) → DataW.TrodAll enc Tryz.prog W' 0 (fun b => decide (b < W.heap.size)) true ts vs ds p
  | [], [], [], _, _, h, _ => h
  | t :: ts, v :: vs, d :: ds, _, hr, h, hlt => by
    obtain ⟨p, q, h1, h2, rfl⟩ := h
    exact ⟨p, q, Below.trod laidOut (hr t (List.mem_cons_self ..)).1 (hr t (List.mem_cons_self ..)).2 h1 hb (fun x hx => hlt x (List.mem_append.2 (.inl hx))), trodAll_below hb (fun u hu => hr u (List.mem_cons_of_mem _ hu)) h2 (fun x hx => hlt x (List.mem_append.2 (.inr hx))), rfl⟩
  | [], _ :: _, _, _, _, h, _ => h.elim
  | [], [], _ :: _, _, _, h, _ => h.elim
  | _ :: _, [], _, _, _, h, _ => h.elim
  | _ :: _, _ :: _, [], _, _, h, _ => h.elim

theorem trodAll_len {W : World} {sp : Nat → Bool} : ∀ {ts : List TypeId} {vs : List Value} {ds : List (DataW H)} {p : List MemPlace}, DataW.TrodAll enc Tryz.prog W 0 sp true ts vs ds p → ds.length = ts.length
  | [], [], [], _, _ => rfl
  | _ :: _, _ :: _, _ :: _, _, h => by
    obtain ⟨p, q, _, h2, _⟩ := h
    simp [trodAll_len h2]
  | [], _ :: _, _, _, h => h.elim
  | [], [], _ :: _, _, h => h.elim
  | _ :: _, [], _, _, h => h.elim
  | _ :: _, _ :: _, [], _, h => h.elim

set_option maxRecDepth 100000 in
theorem law_lifted {os : Os} (started : os.Started) {n : FuncId} {fn : Func} {s : ChangeSpec} (noInit : Tryz.prog.inits.idxOf? n = none) (hfn : Tryz.prog.funcs[n]? = some fn) (hres : fn.resultTypes = #[4]) (hvars : s.vars = [])
    (hread : (fn.params.toList.all fun t => Tryz.prog.readableRec t && decide (t < Tryz.prog.types.size)) = true)
    (hspec : ∀ ds : List (DataW H), ds.length = fn.params.toList.length → s.fn H ds = { results := [.lit (.bool true)], args := ds })
    (witness : ∃ (w : World) (tape : Tape) (i : Input), w.os = os ∧ (w.forCall tape i).Shaped Tryz.prog ∧ i.vars = [] ∧ Input.okWide Tryz.prog (w.forCall tape i) .any w.heap.size n i ∧
      ((s.pre enc Tryz.prog fn [] false (w.forCall tape i).memory i.args ∧ laidMetH Tryz.prog laidL (w.forCall tape i).memory) ∧ sizedMet enc Tryz.prog fn (OpenSpec.ofChange s) false (w.forCall tape i).memory i.args) ∧ ({} : Assume).holds Tryz.prog (lone (Frame.enter Tryz.prog n i.args .normal) [] (w.forCall tape i)))
    (law : ∀ (W : World) (base : Nat) (args : Array Value) (ds : List (DataW H)) (p : List MemPlace), (∀ (j : Nat) t v, fn.params[j]? = some t → args[j]? = some v → Value.okWide Tryz.prog W .any base t v) →
      DataW.TrodAll enc Tryz.prog W 0 (fun _ => true) true fn.params.toList args.toList ds p → Gl W → Calls Tryz.prog n args W (RetV W (.bool true))) :
    ReturnsInHanded {} Tryz.checked os n .any (fun w args => (s.pre enc Tryz.prog fn [] false w args ∧ laidMetH Tryz.prog laidL w) ∧ sizedMet enc Tryz.prog fn (OpenSpec.ofChange s) false w args) (s.post enc Tryz.prog fn false true false false) := by
  refine returnsInHanded_of_calls (C := Tryz.checked) own started noInit witness ?_
  intro w tape i _ hsh _ hok hpre _
  obtain ⟨_, _, _, fn', hfn', _, _, _, _, hval⟩ := hok
  have e : fn' = fn := Option.some.inj (hfn'.symm.trans hfn)
  subst e
  obtain ⟨⟨⟨ds, gs, before, hw, _⟩, hx⟩, _⟩ := hpre
  have hw' := DataW.Whole.of_heap (w' := w.forCall tape i) (by rfl) hw
  have hL : laidMetH Tryz.prog laidL (w.forCall tape i) := laidMetH.of_heap (by rfl) hx
  have hW := hw'
  obtain ⟨p, q, hA, hV, rfl, _, _⟩ := hw'
  rw [hvars] at hV
  obtain ⟨rfl, rfl⟩ := trodVars_none hV
  have hlt : ∀ x ∈ p, x.block < (w.forCall tape i).heap.size := fun x hx => by
    have := hW.lt x (by simpa using hx)
    simpa using this
  refine (law _ _ _ _ _ hval hA (gl_of hL hsh)).mono ?_
  rintro e W' ⟨rfl, hb⟩
  refine ChangeSpec.post_blind ?_
  have hsp : s.fn H (ds ++ []) = { results := [.lit (.bool true)], args := ds } := by
    rw [List.append_nil]
    exact hspec ds (trodAll_len hA)
  rw [List.append_nil] at hW
  refine ⟨ds, [], p, [], p, [], hW, ?_, ?_, ?_, hb.frame _, fun h => by cases h⟩
  · rw [hsp, hres]
    exact trodAll_mk1 (shut_bool Tryz.underlying4 _)
  · rw [hsp]
    refine trodAll_below hb (fun t ht => ?_) hA hlt
    have := List.all_eq_true.1 hread t ht
    simpa using this
  · rw [hsp, hvars]
    rfl

theorem trodAll_cons {W : World} {sp : Nat → Bool} {t : TypeId} {ts : List TypeId} {vs : List Value} {ds : List (DataW H)} {p : List MemPlace} (h : DataW.TrodAll enc Tryz.prog W 0 sp true (t :: ts) vs ds p) :
    ∃ v vs' d ds' p' q, vs = v :: vs' ∧ ds = d :: ds' ∧ DataW.Trod enc Tryz.prog W 0 sp true t v d p' ∧ DataW.TrodAll enc Tryz.prog W 0 sp true ts vs' ds' q := by
  match vs, ds, h with
  | v :: vs', d :: ds', h =>
    obtain ⟨p', q, h1, h2, _⟩ := h
    exact ⟨v, vs', d, ds', p', q, rfl, rfl, h1, h2⟩
theorem trodAll_nil {W : World} {sp : Nat → Bool} {vs : List Value} {ds : List (DataW H)} {p : List MemPlace} (h : DataW.TrodAll enc Tryz.prog W 0 sp true [] vs ds p) : vs = [] := by
  match vs, ds, h with
  | [], [], _ => rfl

end lift
end YtpnjgmioohofcabGreatDoor
end Go.Proofs

