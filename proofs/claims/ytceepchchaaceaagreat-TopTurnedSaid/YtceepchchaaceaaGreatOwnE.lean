/- Contracts of the functions that find the fewest errors, and of those on pages. No condition beyond each theorem's own. -/
import Derived.Test.YtceepchchaaceaaGreatOwnD
set_option linter.unusedVariables false
set_option linter.unusedSimpArgs false
namespace Go.Proofs
open Go Go.Sx Go.RowKit
theorem Tryz.eql121 : EqL Tryz.prog 2 121 ⟨.struct [(0, 3), (1, 3)], 2, 16, [.int .i64, .int .i64]⟩ := eqL_struct Tryz.ty121 (by kernel_rfl) ⟨rfl, _, Tryz.ty3, fun _ => rfl, (eqL_int Tryz.ty3).mono (by decide), rfl, _, Tryz.ty3, fun _ => rfl, (eqL_int Tryz.ty3).mono (by decide), rfl⟩
instance Tryz.eqc121 : EqC Tryz.prog 121 ⟨.struct [(0, 3), (1, 3)], 2, 16, [.int .i64, .int .i64]⟩ := ⟨⟨2, by decide, Tryz.eql121⟩, by kernel_rfl, rfl⟩
theorem Tryz.eql116 : EqL Tryz.prog 2 116 ⟨.struct [(0, 3), (1, 3)], 2, 16, [.int .i64, .int .i64]⟩ := eqL_struct Tryz.ty116 (by kernel_rfl) ⟨rfl, _, Tryz.ty3, fun _ => rfl, (eqL_int Tryz.ty3).mono (by decide), rfl, _, Tryz.ty3, fun _ => rfl, (eqL_int Tryz.ty3).mono (by decide), rfl⟩
instance Tryz.eqc116 : EqC Tryz.prog 116 ⟨.struct [(0, 3), (1, 3)], 2, 16, [.int .i64, .int .i64]⟩ := ⟨⟨2, by decide, Tryz.eql116⟩, by kernel_rfl, rfl⟩
theorem Tryz.eql148 : EqL Tryz.prog 2 148 ⟨.struct [(0, 3), (1, 3)], 2, 16, [.int .i64, .int .i64]⟩ := eqL_struct Tryz.ty148 (by kernel_rfl) ⟨rfl, _, Tryz.ty3, fun _ => rfl, (eqL_int Tryz.ty3).mono (by decide), rfl, _, Tryz.ty3, fun _ => rfl, (eqL_int Tryz.ty3).mono (by decide), rfl⟩
instance Tryz.eqc148 : EqC Tryz.prog 148 ⟨.struct [(0, 3), (1, 3)], 2, 16, [.int .i64, .int .i64]⟩ := ⟨⟨2, by decide, Tryz.eql148⟩, by kernel_rfl, rfl⟩
theorem ieq_pair (a b c d : Int) : ieq [.int .i64 a, .int .i64 b] [.int .i64 c, .int .i64 d] = (decide (a = c) && decide (b = d)) := by
  rw [Bool.eq_iff_iff]; simp [ieq]
theorem key_eq {t : TypeId} [h : EqC Tryz.prog t ⟨.struct [(0, 3), (1, 3)], 2, 16, [.int .i64, .int .i64]⟩] (a b c d : Int) (w : World) : (Op.equal t (pairV a b) (pairV c d)).run Tryz.prog w = .ok (decide (a = c) && decide (b = d)) w := by
  have h1 := h.run (w := w) (vs := [.int .i64 a, .int .i64 b]) (us := [.int .i64 c, .int .i64 d]) rfl rfl (allI_isI rfl) (allI_isI rfl)
  rw [ieq_pair] at h1
  exact h1
instance keyP121 : KeyP Tryz.prog 121 := ⟨fun e a b w => by kernel_rfl, key_eq, by kernel_rfl⟩
instance keyP116 : KeyP Tryz.prog 116 := ⟨fun e a b w => by kernel_rfl, key_eq, by kernel_rfl⟩
instance keyP148 : KeyP Tryz.prog 148 := ⟨fun e a b w => by kernel_rfl, key_eq, by kernel_rfl⟩
end Go.Proofs


namespace Go.Proofs
open Go Go.Sx Go.RowKit

/-- Sums that stop at 1000. -/
def sumM (xs : List Int) : Int := xs.foldl (fun n x => min 1000 (n + x)) 0
theorem sumM_snoc (xs : List Int) (x : Int) : sumM (xs ++ [x]) = min 1000 (sumM xs + x) := by simp [sumM]
theorem sumM_b : ∀ {xs : List Int}, (∀ x ∈ xs, 0 ≤ x ∧ x ≤ 1000) → ∀ k, 0 ≤ sumM (xs.take k) ∧ sumM (xs.take k) ≤ 1000 := by
  intro xs h k
  induction k with
  | zero => simp [sumM]
  | succ k ih =>
    cases hx : xs[k]? with
    | none =>
      have hl := List.getElem?_eq_none_iff.1 hx
      rw [List.take_of_length_le (by omega)]
      rw [List.take_of_length_le hl] at ih
      exact ih
    | some x =>
      have := h x (List.mem_of_getElem? hx)
      rw [take_snoc hx, sumM_snoc]; omega
theorem sumM_take {xs : List Int} {k : Nat} {x : Int} (h : xs[k]? = some x) : sumM (xs.take (k + 1)) = min 1000 (sumM (xs.take k) + x) := by rw [take_snoc h, sumM_snoc]

set_option maxRecDepth 20000 in
theorem cp_sum (xs : List Int) (a : Option Addr) (c : Nat) (w : World) (hr : Ro w 0 w.heap.size a xs.length c 1 (ints xs)) (hl : xs.length ≤ 1000) (hb : ∀ x ∈ xs, 0 ≤ x ∧ x ≤ 1000) : Calls Tryz.prog 83 #[.slice a xs.length c] w (RetV w (.int .i64 (sumM xs))) := by
  have hsb := sumM_b hb
  refine calls_T0 (av := [_]) Tryz.func83 rfl rfl rfl ?_
  refine t_seq ?_
  refine t_reg ?_
  refine to_as rfl rfl ?_
  refine to_nil ?_
  refine tn_code ?_
  refine t_seq ?_
  refine t_reg ?_
  refine to_as rfl rfl ?_
  refine to_nil ?_
  refine tn_code ?_
  refine t_seq ?_
  refine t_seq ?_
  refine t_reg ?_
  refine to_mv rfl rfl ?_
  refine to_lenS rfl rfl ?_
  refine to_mv rfl rfl ?_
  refine to_nil ?_
  refine tn_code ?_
  refine t_blk ?_
  refine t_loop2 (ι := Nat) (fun k => k ≤ xs.length) (fun k => [(3, (.int .i64 (sumM (xs.take k)))), (6, .slice a xs.length c), (7, (.int .i64 (xs.length : Int))), (8, (.int .i64 (k : Int)))]) (fun k => [.snap 0 w.heap.size w]) (fun k => xs.length - k) (0) [.snap 0 w.heap.size w] (rfl) (Nat.zero_le _) (⟨rfl, rfl, rfl, rfl, trivial⟩) ?_
  rintro k hk
  show T _ _ _ ⟨_, [(3, (.int .i64 (sumM (xs.take k)))), (6, .slice a xs.length c), (7, (.int .i64 (xs.length : Int))), (8, (.int .i64 (k : Int)))], _⟩ [.snap 0 w.heap.size w]
  refine t_seq ?_
  refine t_reg ?_
  refine to_lss rfl rfl rfl ?_
  refine to_nil ?_
  refine tn_code ?_
  refine t_seq ?_
  refine t_if rfl (fun h1 => ?_) (fun h1 => ?_)
  · try simp only [decide_eq_true_eq, decide_eq_false_iff_not, Bool.not_eq_true', Bool.not_eq_false', Int.not_lt, Int.not_le, ne_eq, Decidable.not_not] at h1
    try have h1b := inB_iff.1 h1
    obtain ⟨x, hx⟩ := some_get (xs := xs) (k := k) (by omega)
    have hxx := map_get (f := intC) hx
    have hxb := hb x (List.mem_of_getElem? hx)
    have hsk := hsb k
    refine t_skip ?_
    refine tn_code ?_
    refine t_seq ?_
    refine t_blk ?_
    refine t_seq ?_
    refine t_reg ?_
    first | refine to_ix rfl rfl rfl (by first | omega | decide) (by first | omega | decide) rfl ?_ | refine to_ixi rfl rfl rfl (by omega) (by omega) (by omega) rfl ?_
    first | refine to_lds rfl rfl rfl ?_ | refine to_ldes rfl (by assumption) rfl rfl ?_
    refine to_as rfl rfl ?_
    refine to_nil ?_
    refine tn_code ?_
    refine t_reg ?_
    refine to_mv rfl rfl ?_
    refine to_mv rfl rfl ?_
    refine to_add rfl rfl (by omega) rfl ?_
    refine to_min rfl rfl rfl ?_
    refine to_as rfl rfl ?_
    refine to_nil ?_
    refine tn_blk ?_
    refine tn_code ?_
    refine t_reg ?_
    refine to_add rfl rfl (by omega) rfl ?_
    refine to_mv rfl rfl ?_
    refine to_nil ?_
    exact tn_loop2 (k + 1) [.snap 0 w.heap.size w] (rfl) (by omega) (by omega) (⟨congrArg (fun z => some (Value.int .i64 z)) (sumM_take hx).symm, rfl, rfl, rfl, trivial⟩)
  · try simp only [decide_eq_true_eq, decide_eq_false_iff_not, Bool.not_eq_true', Bool.not_eq_false', Int.not_lt, Int.not_le, ne_eq, Decidable.not_not] at h1
    try have h1b := inB_iff.1 h1
    have hk2 : k = xs.length := by omega
    subst hk2
    rw [List.take_length]
    refine t_exit ?_
    refine tx_code ?_
    refine tx_inv ?_
    refine tx_blk ?_
    refine tn_code ?_
    refine t_seq ?_
    refine t_reg ?_
    refine to_mv rfl rfl ?_
    refine to_as rfl rfl ?_
    refine to_nil ?_
    refine tn_code ?_
    refine t_ret1 rfl rfl (res_tmp rfl) (fun w' s => ?_)
    rfl

theorem st_rewM {w0 w w' : World} {H H2 : List Seg} {r : Nat} {L : Int → Int → Value} {o : Obj} (s : St w0 H w) [h : OwnAt r H (isMm L) H2] (hd : DoW r w w') (ho : w'.heap[r]? = some o) (hm : isMm L o) : St w0 (.own r (isMm L) :: H2) w' :=
  ((s.perm h.perm).rewO hd.os hd.tape hd.output hd.size hd.block ho hm).drop2
theorem St.startM {w : World} {r : Nat} {L : Int → Int → Value} {o : Obj} (h : w.heap[r]? = some o) (hm : isMm L o) : St w [.own r (isMm L), .snap 0 r w, .snap (r + 1) w.heap.size w] w := by
  have hlt : r < w.heap.size := (Array.getElem?_eq_some_iff.1 h).1
  refine ⟨rfl, rfl, rfl, Nat.le_refl _, ?_, ?_, ?_⟩
  · intro s hs
    simp only [List.mem_cons, List.not_mem_nil, or_false] at hs
    rcases hs with rfl | rfl | rfl
    · exact hlt
    · exact Nat.le_of_lt hlt
    · exact Nat.le_refl _
  · intro s hs
    simp only [List.mem_cons, List.not_mem_nil, or_false] at hs
    rcases hs with rfl | rfl | rfl
    · exact ⟨_, h, hm⟩
    · exact fun _ _ _ => rfl
    · exact fun _ _ _ => rfl
  · simp only [List.pairwise_cons, List.mem_cons, List.not_mem_nil, or_false, forall_eq_or_imp, forall_eq, Seg.apart, Seg.lo, Seg.hi]
    refine ⟨⟨.inr (Nat.le_refl _), .inl (Nat.le_refl _)⟩, .inl (by omega), ?_⟩
    simp
/-- What a call gives that may write into a map that remembers. -/
def MemR (r : Nat) (L : Int → Int → Value) (v : Value) (w : World) : Ending → World → Prop := fun e w' => e = .returned v ∧ DoW r w w' ∧ ∃ o, w'.heap[r]? = some o ∧ isMm L o
theorem memR_of {w w' : World} {r : Nat} {L : Int → Int → Value} {v : Value} {H H2 : List Seg} (s : St w H w') [h : OwnAt r H (isMm L) H2] (h1 : .snap 0 r w ∈ H2) (h2 : .snap (r + 1) w.heap.size w ∈ H2) : MemR r L v w (.returned v) w' := by
  have s2 := s.perm h.perm
  refine ⟨rfl, doW_of s2 h1 h2, ?_⟩
  obtain ⟨o, ho, hp⟩ := s2.ok _ (List.mem_cons_self ..)
  exact ⟨o, ho, hp⟩

end Go.Proofs


namespace Go.Proofs
open Go Go.Sx Go.RowKit

structure Rdg where
  pl : Int
  cs : List Cp
  ca : Option Addr
  cc : Nat
  ch : List Li
  ma : Option Addr
  mc : Nat
  q : Nat
  r : Nat
  L : Int → Int → Int
abbrev rdC (R : Rdg) : List Value := [.int .i64 R.pl, .slice R.ca R.cs.length R.cc, .slice R.ma R.ch.length R.mc, .int .i64 (R.q : Int), .map (some R.r)]
abbrev rdV (R : Rdg) : Value := .agg [.int .i64 R.pl, .slice R.ca R.cs.length R.cc, .slice R.ma R.ch.length R.mc, .int .i64 (R.q : Int), .map (some R.r)].toArray
def LV (R : Rdg) : Int → Int → Value := fun a b => .int .i64 (R.L a b)
structure RdOk (R : Rdg) (w : World) : Prop where
  hm : ∃ o, w.heap[R.r]? = some o ∧ isMm (LV R) o
  hct : Ro w 0 R.r R.ca R.cs.length R.cc 2 (R.cs.map cpC)
  hcs : ∀ x ∈ R.cs, Ro w 0 R.r x.a x.s.length x.c 1 (ints x.s)
  hmt : Ro w 0 R.r R.ma R.ch.length R.mc 1 (R.ch.map liC)
  hms : ∀ l ∈ R.ch, Ro w 0 R.r l.a l.xs.length l.c 1 (ints l.xs)
def stM (L : Int → Int → Int) (c g par : Int) : Int := if g = par then L c g else sumM [L c g, 1]
def fwM (L : Int → Int → Int) (c par : Int) : Nat → Int
  | 0 => 1000
  | k + 1 => min (fwM L c par k) (stM L c k par)
def lsM (R : Rdg) (x : Cp) (l : Li) (f : Int) : List Int := (if fitB (x.s.getD R.q 0) f then [] else [1000]) ++ l.xs.map fun c => fwM R.L c f 10
/-- What the numbers of a reading must fulfil. -/
structure RdFine (R : Rdg) : Prop where
  len : R.ch.length = R.cs.length
  few : R.cs.length ≤ 8
  pl : R.q < R.pl
  seen : ∀ x ∈ R.cs, (x.s.length : Int) = R.pl
  pl3 : R.pl ≤ 3
  chn : ∀ l ∈ R.ch, l.xs.length ≤ 8
  up : ∀ (i : Nat) l, R.ch[i]? = some l → ∀ c ∈ l.xs, (i : Int) < c ∧ c < R.cs.length
  bd : ∀ a b, 0 ≤ R.L a b ∧ R.L a b ≤ 1000
  eq : ∀ (i : Nat) x l, R.cs[i]? = some x → R.ch[i]? = some l → ∀ f : Int, 0 ≤ f → f ≤ 9 → R.L i f = sumM (lsM R x l f)
theorem RdOk.up {R : Rdg} {w w' : World} (h : RdOk R w) (hd : DoW R.r w w') {o : Obj} (ho : w'.heap[R.r]? = some o) (hm : isMm (LV R) o) : RdOk R w' := by
  have hlt : R.r < w.heap.size := by obtain ⟨o, h1, _⟩ := h.hm; exact (Array.getElem?_eq_some_iff.1 h1).1
  have key : ∀ {a : Option Addr} {n c sz : Nat} {xs : List (List Value)}, Ro w 0 R.r a n c sz xs → Ro w' 0 R.r a n c sz xs := fun hr => hr.mono (Nat.le_refl _) (Nat.le_refl _) (fun k _ hk => hd.block k (by omega) (by omega))
  exact ⟨⟨o, ho, hm⟩, key h.hct, fun x hx => key (h.hcs x hx), key h.hmt, fun l hl => key (h.hms l hl)⟩
theorem rdOk_of {R : Rdg} {w w' : World} {H H2 : List Seg} (s : St w H w') (h : RdOk R w) [ho : OwnAt R.r H (isMm (LV R)) H2] (h1 : .snap 0 R.r w ∈ H) : RdOk R w' := by
  obtain ⟨o, g1, g2⟩ := s.own_at (b := R.r)
  have key : ∀ {a : Option Addr} {n c sz : Nat} {xs : List (List Value)}, Ro w 0 R.r a n c sz xs → Ro w' 0 R.r a n c sz xs := fun hr => hr.mono (Nat.le_refl _) (Nat.le_refl _) (fun k h2 h3 => s.ok _ h1 k h2 h3)
  exact ⟨⟨o, g1, g2⟩, key h.hct, fun x hx => key (h.hcs x hx), key h.hmt, fun l hl => key (h.hms l hl)⟩

set_option maxRecDepth 20000 in
theorem cp_step (R : Rdg) (c g par : Int) (w : World) (hf : RdFine R) (hk : RdOk R w) (hg : 0 ≤ g ∧ g ≤ 9) (hls : ∀ w', RdOk R w' → ∀ g : Int, 0 ≤ g → g ≤ 9 → Calls Tryz.prog 60 #[rdV R, pairV c g] w' (MemR R.r (LV R) (.int .i64 (R.L c g)) w')) : Calls Tryz.prog 95 #[rdV R, .int .i64 c, .int .i64 g, .int .i64 par] w (MemR R.r (LV R) (.int .i64 (stM R.L c g par)) w) := by
  obtain ⟨o, ho, hm⟩ := hk.hm
  refine calls_TG (av := [_, _, _, _]) Tryz.func95 rfl rfl rfl (St.startM ho hm) ?_
  refine t_seq ?_
  refine t_reg ?_
  refine to_box rfl rfl (fun b4 => ?_)
  refine to_as rfl rfl ?_
  refine to_nil ?_
  refine tn_code ?_
  refine t_seq ?_
  refine t_reg ?_
  first | refine to_lda rfl rfl rfl ?_ | refine to_ldea rfl (by assumption) rfl rfl ?_
  refine to_mv rfl rfl ?_
  refine to_mv rfl rfl ?_
  refine to_bs rfl rfl ?_
  refine to_callP (R := MemR R.r (LV R) (.int .i64 (R.L c g))) rfl rfl (fun w2 s => hls w2 (rdOk_of s hk (by simp)) g hg.1 hg.2) rfl (fun w2 s2 e2 w3 hd => ?_)
  obtain ⟨rfl, hdw, o3, ho3, hm3⟩ := hd
  refine .inl ⟨_, _, rfl, st_rewM s2 hdw ho3 hm3, ?_⟩
  · skip
    refine to_as rfl rfl ?_
    refine to_nil ?_
    refine tn_code ?_
    refine t_seq ?_
    refine t_seq ?_
    refine t_reg ?_
    refine to_mv rfl rfl ?_
    refine to_mv rfl rfl ?_
    refine to_neq rfl rfl rfl ?_
    refine to_nil ?_
    refine tn_code ?_
    refine t_if rfl (fun h1 => ?_) (fun h1 => ?_)
    · try simp only [decide_eq_true_eq, decide_eq_false_iff_not, Bool.not_eq_true', Bool.not_eq_false', Int.not_lt, Int.not_le, ne_eq, Decidable.not_not] at h1
      try have h1b := inB_iff.1 h1
      have hne := h1
      have hbd := hf.bd c g
      refine t_seq ?_
      refine t_reg ?_
      refine to_mv rfl rfl ?_
      refine to_bsl rfl rfl rfl rfl (fun a19 => ?_)
      refine to_call0 rfl rfl (fun w s => cp_sum [R.L c g, 1] _ _ w (rdw s) (by simp) (by simp; omega)) rfl ?_
      refine to_as rfl rfl ?_
      refine to_nil ?_
      refine tn_code ?_
      refine t_ret1G rfl rfl (res_tmp rfl) (fun w' s => ?_)
      first | (rw [stM, if_neg hne]; exact memR_of s (by simp) (by simp)) | (rw [stM, if_pos hne]; exact memR_of s (by simp) (by simp))
    · try simp only [decide_eq_true_eq, decide_eq_false_iff_not, Bool.not_eq_true', Bool.not_eq_false', Int.not_lt, Int.not_le, ne_eq, Decidable.not_not] at h1
      try have h1b := inB_iff.1 h1
      have hne := h1
      refine t_skip ?_
      refine tn_code ?_
      refine t_seq ?_
      refine t_reg ?_
      refine to_mv rfl rfl ?_
      refine to_as rfl rfl ?_
      refine to_nil ?_
      refine tn_code ?_
      refine t_ret1G rfl rfl (res_tmp rfl) (fun w' s => ?_)
      first | (rw [stM, if_neg hne]; exact memR_of s (by simp) (by simp)) | (rw [stM, if_pos hne]; exact memR_of s (by simp) (by simp))

theorem stM_b {R : Rdg} (hf : RdFine R) (c g par : Int) : 0 ≤ stM R.L c g par ∧ stM R.L c g par ≤ 1000 := by
  simp only [stM]
  split
  · exact hf.bd c g
  · have := hf.bd c g
    simp only [sumM, List.foldl_cons, List.foldl_nil]; omega
theorem fwM_b {R : Rdg} (hf : RdFine R) (c par : Int) : ∀ k, 0 ≤ fwM R.L c par k ∧ fwM R.L c par k ≤ 1000
  | 0 => by simp [fwM]
  | k + 1 => by
    have h1 := fwM_b hf c par k
    have h2 := stM_b hf c k par
    simp only [fwM]; omega

set_option maxRecDepth 20000 in
theorem cp_fewest (R : Rdg) (c par : Int) (w : World) (hf : RdFine R) (hk : RdOk R w) (hls : ∀ w', RdOk R w' → ∀ g : Int, 0 ≤ g → g ≤ 9 → Calls Tryz.prog 60 #[rdV R, pairV c g] w' (MemR R.r (LV R) (.int .i64 (R.L c g)) w')) : Calls Tryz.prog 82 #[rdV R, .int .i64 c, .int .i64 par] w (MemR R.r (LV R) (.int .i64 (fwM R.L c par 10)) w) := by
  obtain ⟨o, ho, hm⟩ := hk.hm
  refine calls_TG (av := [_, _, _]) Tryz.func82 rfl rfl rfl (St.startM ho hm) ?_
  refine t_seq ?_
  refine t_reg ?_
  refine to_box rfl rfl (fun b3 => ?_)
  refine to_as rfl rfl ?_
  refine to_nil ?_
  refine tn_code ?_
  refine t_seq ?_
  refine t_reg ?_
  refine to_as rfl rfl ?_
  refine to_nil ?_
  refine tn_code ?_
  refine t_seq ?_
  refine t_seq ?_
  refine t_reg ?_
  refine to_mv rfl rfl ?_
  refine to_nil ?_
  refine tn_code ?_
  refine t_blk ?_
  refine t_loop2 (ι := Nat) (fun k => k ≤ 10) (fun k => [(1, (.int .i64 c)), (2, (.int .i64 par)), (3, (.pointer (some ⟨b3, 0, none⟩))), (7, (.int .i64 (fwM R.L c par k))), (9, (.int .i64 (k : Int)))]) (fun k => [.own b3 (isC (rdC R) 83), .own R.r (isMm (LV R)), .snap 0 R.r w, .snap (R.r + 1) w.heap.size w]) (fun k => 10 - k) (0) [.own b3 (isC (rdC R) 83), .own R.r (isMm (LV R)), .snap 0 R.r w, .snap (R.r + 1) w.heap.size w] (rfl) (Nat.zero_le _) (⟨rfl, rfl, rfl, rfl, rfl, trivial⟩) ?_
  rintro k hk9
  show T _ _ _ ⟨_, [(1, (.int .i64 c)), (2, (.int .i64 par)), (3, (.pointer (some ⟨b3, 0, none⟩))), (7, (.int .i64 (fwM R.L c par k))), (9, (.int .i64 (k : Int)))], _⟩ [.own b3 (isC (rdC R) 83), .own R.r (isMm (LV R)), .snap 0 R.r w, .snap (R.r + 1) w.heap.size w]
  refine t_seq ?_
  refine t_reg ?_
  refine to_lss rfl rfl rfl ?_
  refine to_nil ?_
  refine tn_code ?_
  refine t_seq ?_
  refine t_if rfl (fun h1 => ?_) (fun h1 => ?_)
  · try simp only [decide_eq_true_eq, decide_eq_false_iff_not, Bool.not_eq_true', Bool.not_eq_false', Int.not_lt, Int.not_le, ne_eq, Decidable.not_not] at h1
    try have h1b := inB_iff.1 h1
    refine t_skip ?_
    refine tn_code ?_
    refine t_seq ?_
    refine t_blk ?_
    refine t_seq ?_
    refine t_reg ?_
    refine to_mv rfl rfl ?_
    refine to_as rfl rfl ?_
    refine to_nil ?_
    refine tn_code ?_
    refine t_reg ?_
    refine to_mv rfl rfl ?_
    first | refine to_lda rfl rfl rfl ?_ | refine to_ldea rfl (by assumption) rfl rfl ?_
    refine to_mv rfl rfl ?_
    refine to_mv rfl rfl ?_
    refine to_mv rfl rfl ?_
    refine to_callP (R := MemR R.r (LV R) (.int .i64 (stM R.L c k par))) rfl rfl (fun w2 s => cp_step R c k par w2 hf (rdOk_of s hk (by simp)) ⟨by omega, by omega⟩ hls) rfl (fun w2 s2 e2 w3 hd => ?_)
    obtain ⟨rfl, hdw, o3, ho3, hm3⟩ := hd
    refine .inl ⟨_, _, rfl, st_rewM s2 hdw ho3 hm3, ?_⟩
    · skip
      refine to_min rfl rfl rfl ?_
      refine to_as rfl rfl ?_
      refine to_nil ?_
      refine tn_blk ?_
      refine tn_code ?_
      refine t_reg ?_
      refine to_add rfl rfl (by omega) rfl ?_
      refine to_mv rfl rfl ?_
      refine to_nil ?_
      exact tn_loop2 (k + 1) [.own b3 (isC (rdC R) 83), .own R.r (isMm (LV R)), .snap 0 R.r w, .snap (R.r + 1) w.heap.size w] (rfl) (by omega) (by omega) (⟨rfl, rfl, rfl, rfl, rfl, trivial⟩)
  · try simp only [decide_eq_true_eq, decide_eq_false_iff_not, Bool.not_eq_true', Bool.not_eq_false', Int.not_lt, Int.not_le, ne_eq, Decidable.not_not] at h1
    try have h1b := inB_iff.1 h1
    have hk2 : k = 10 := by omega
    subst hk2
    refine t_exit ?_
    refine tx_code ?_
    refine tx_inv ?_
    refine tx_blk ?_
    refine tn_code ?_
    refine t_seq ?_
    refine t_reg ?_
    refine to_mv rfl rfl ?_
    refine to_as rfl rfl ?_
    refine to_nil ?_
    refine tn_code ?_
    refine t_ret1G rfl rfl (res_tmp rfl) (fun w' s => ?_)
    exact memR_of s (by simp) (by simp)

end Go.Proofs


namespace Go.Proofs
open Go Go.Sx Go.RowKit

theorem cp_sumE {xs : List Int} {a : Option Addr} {c : Nat} {v : Int} {w : World} (hr : Ro w 0 w.heap.size a xs.length c 1 (ints xs)) (hl : xs.length ≤ 1000) (hb : ∀ x ∈ xs, 0 ≤ x ∧ x ≤ 1000) (h : sumM xs = v) : Calls Tryz.prog 83 #[.slice a xs.length c] w (RetV w (.int .i64 v)) := by
  subst h; exact cp_sum xs a c w hr hl hb
theorem fw_bd {R : Rdg} (hf : RdFine R) (bs : List Int) (hbs : ∀ x ∈ bs, 0 ≤ x ∧ x ≤ 1000) (ys : List Int) (g : Int) : ∀ x ∈ bs ++ ys.map (fun c => fwM R.L c g 10), 0 ≤ x ∧ x ≤ 1000 := by
  intro x hx
  rcases List.mem_append.1 hx with hx | hx
  · exact hbs x hx
  · obtain ⟨c, _, rfl⟩ := List.mem_map.1 hx
    exact fwM_b hf c g 10
theorem map_snoc {F : Int → Int} {xs : List Int} {k : Nat} {y : Int} (h : xs[k]? = some y) : (xs.take (k + 1)).map F = (xs.take k).map F ++ [F y] := by rw [take_snoc h]; simp

set_option maxRecDepth 20000 in
theorem cp_least0 (R : Rdg) (i : Nat) (x : Cp) (l : Li) (g : Int) (w : World) (hf : RdFine R) (hk : RdOk R w) (hx : R.cs[i]? = some x) (hl : R.ch[i]? = some l) (hg : 0 ≤ g ∧ g ≤ 9) (hrec : ∀ c ∈ l.xs, ∀ w', RdOk R w' → ∀ g : Int, 0 ≤ g → g ≤ 9 → Calls Tryz.prog 60 #[rdV R, pairV c g] w' (MemR R.r (LV R) (.int .i64 (R.L c g)) w')) : Calls Tryz.prog 60 #[rdV R, pairV i g] w (MemR R.r (LV R) (.int .i64 (R.L i g)) w) := by
  have hxc := map_get (f := cpC) hx
  have hlc := map_get (f := liC) hl
  have hct := hk.hct
  have hrx := hk.hcs x (List.mem_of_getElem? hx)
  have hmt := hk.hmt
  have hrl := hk.hms l (List.mem_of_getElem? hl)
  have hix := (List.getElem?_eq_some_iff.1 hx).1
  have hil := (List.getElem?_eq_some_iff.1 hl).1
  have hlen := hf.len
  have hfew := hf.few
  have hpl := hf.pl
  have hsn := hf.seen x (List.mem_of_getElem? hx)
  have hp3 := hf.pl3
  have hcn := hf.chn l (List.mem_of_getElem? hl)
  obtain ⟨s9, hs9⟩ := some_get (xs := x.s) (k := R.q) (by omega)
  have hsd : x.s.getD R.q 0 = s9 := by simp [List.getD, hs9]
  have heq := hf.eq i x l hx hl g hg.1 hg.2
  obtain ⟨o, ho, hm⟩ := hk.hm
  refine calls_TG (av := [_, _]) Tryz.func60 rfl rfl rfl (St.startM ho hm) ?_
  refine t_seq ?_
  refine t_reg ?_
  refine to_box rfl rfl (fun b2 => ?_)
  refine to_box rfl rfl (fun b3 => ?_)
  refine to_as rfl rfl ?_
  refine to_nil ?_
  refine tn_code ?_
  refine t_seq ?_
  refine t_seq ?_
  refine t_reg ?_
  first | refine to_fa rfl rfl rfl (by simp only [Nat.reduceAdd]; rfl) rfl ?_ | refine to_fae rfl rfl rfl (by simp only [Nat.reduceAdd]; rfl) rfl ?_
  first | refine to_lds rfl rfl rfl ?_ | refine to_ldes rfl (by assumption) rfl rfl ?_
  first | refine to_lda rfl rfl rfl ?_ | refine to_ldea rfl (by assumption) rfl rfl ?_
  refine to_lkmm (z := .int .i64 0) rfl rfl (fun w => by kernel_rfl) rfl ?_ ?_
  · skip
    refine to_mv rfl rfl ?_
    refine to_ex rfl rfl rfl ?_
    refine to_ex rfl rfl rfl ?_
    refine to_fix (s := 17) (b' := true) rfl (rfl) ?_
    refine to_as rfl rfl ?_
    refine to_as rfl rfl ?_
    refine to_nil ?_
    refine tn_code ?_
    refine t_seq ?_
    refine t_reg ?_
    refine to_mv rfl rfl ?_
    refine to_nil ?_
    refine tn_code ?_
    refine t_ifT rfl ?_
    refine t_seq ?_
    refine t_reg ?_
    refine to_mv rfl rfl ?_
    refine to_as rfl rfl ?_
    refine to_nil ?_
    refine tn_code ?_
    refine t_ret1G rfl rfl (res_tmp rfl) (fun w' s => ?_)
    exact memR_of s (by simp) (by simp)
  · skip
    refine to_mv rfl rfl ?_
    refine to_ex rfl rfl rfl ?_
    refine to_ex rfl rfl rfl ?_
    refine to_fix (s := 17) (b' := false) rfl (rfl) ?_
    refine to_as rfl rfl ?_
    refine to_as rfl rfl ?_
    refine to_nil ?_
    refine tn_code ?_
    refine t_seq ?_
    refine t_reg ?_
    refine to_mv rfl rfl ?_
    refine to_nil ?_
    refine tn_code ?_
    refine t_ifF rfl ?_
    refine t_skip ?_
    refine tn_code ?_
    refine t_seq ?_
    refine t_reg ?_
    refine to_as rfl rfl ?_
    refine to_nil ?_
    refine tn_code ?_
    refine t_seq ?_
    refine t_seq ?_
    refine t_reg ?_
    first | refine to_fa rfl rfl rfl (by simp only [Nat.reduceAdd]; rfl) rfl ?_ | refine to_fae rfl rfl rfl (by simp only [Nat.reduceAdd]; rfl) rfl ?_
    first | refine to_fa rfl rfl rfl (by simp only [Nat.reduceAdd]; rfl) rfl ?_ | refine to_fae rfl rfl rfl (by simp only [Nat.reduceAdd]; rfl) rfl ?_
    first | refine to_lda rfl rfl rfl ?_ | refine to_ldea rfl (by assumption) rfl rfl ?_
    first | refine to_fa rfl rfl rfl (by simp only [Nat.reduceAdd]; rfl) rfl ?_ | refine to_fae rfl rfl rfl (by simp only [Nat.reduceAdd]; rfl) rfl ?_
    first | refine to_lds rfl rfl rfl ?_ | refine to_ldes rfl (by assumption) rfl rfl ?_
    first | refine to_fa rfl rfl rfl (by simp only [Nat.reduceAdd]; rfl) rfl ?_ | refine to_fae rfl rfl rfl (by simp only [Nat.reduceAdd]; rfl) rfl ?_
    first | refine to_lds rfl rfl rfl ?_ | refine to_ldes rfl (by assumption) rfl rfl ?_
    first | refine to_fa rfl rfl rfl (by simp only [Nat.reduceAdd]; rfl) rfl ?_ | refine to_fae rfl rfl rfl (by simp only [Nat.reduceAdd]; rfl) rfl ?_
    first | refine to_lds rfl rfl rfl ?_ | refine to_ldes rfl (by assumption) rfl rfl ?_
    refine to_call0 rfl rfl (fun w s => cp_fits R.pl R.cs R.ca R.cc i R.q g s9 x w (rdw s) hx (rdw s) hs9 (by omega) (by omega)) rfl ?_
    refine to_not rfl rfl ?_
    refine to_nil ?_
    refine tn_code ?_
    refine t_if rfl (fun h1 => ?_) (fun h1 => ?_)
    · try simp only [decide_eq_true_eq, decide_eq_false_iff_not, Bool.not_eq_true', Bool.not_eq_false', Int.not_lt, Int.not_le, ne_eq, Decidable.not_not] at h1
      try have h1b := inB_iff.1 h1
      have hfit := h1
      refine t_nilrow 3 1 ?_
      refine t_reg ?_
      refine to_mv rfl rfl ?_
      refine to_bsl rfl rfl rfl rfl (fun a32 => ?_)
      refine to_app rfl rfl rfl (by simp [scals, scal]) (by decide) (by omega) (by decide) rfl (fun a33 c33 => ?_)
      refine to_as rfl rfl ?_
      refine to_nil ?_
      refine tn_code ?_
      refine t_seq ?_
      refine t_seq ?_
      refine t_reg ?_
      first | refine to_fa rfl rfl rfl (by simp only [Nat.reduceAdd]; rfl) rfl ?_ | refine to_fae rfl rfl rfl (by simp only [Nat.reduceAdd]; rfl) rfl ?_
      first | refine to_fa rfl rfl rfl (by simp only [Nat.reduceAdd]; rfl) rfl ?_ | refine to_fae rfl rfl rfl (by simp only [Nat.reduceAdd]; rfl) rfl ?_
      first | refine to_lds rfl rfl rfl ?_ | refine to_ldes rfl (by assumption) rfl rfl ?_
      first | refine to_fa rfl rfl rfl (by simp only [Nat.reduceAdd]; rfl) rfl ?_ | refine to_fae rfl rfl rfl (by simp only [Nat.reduceAdd]; rfl) rfl ?_
      first | refine to_lds rfl rfl rfl ?_ | refine to_ldes rfl (by assumption) rfl rfl ?_
      first | refine to_ix rfl rfl rfl (by first | omega | decide) (by first | omega | decide) rfl ?_ | refine to_ixi rfl rfl rfl (by omega) (by omega) (by omega) rfl ?_
      first | refine to_lds rfl rfl rfl ?_ | refine to_ldes rfl (by assumption) rfl rfl ?_
      refine to_lenS rfl rfl ?_
      refine to_mv rfl rfl ?_
      refine to_nil ?_
      refine tn_code ?_
      refine t_blk ?_
      refine t_loop2 (ι := Nat × Option Addr × Nat) (fun ((k, a', c') : Nat × Option Addr × Nat) => k ≤ l.xs.length) (fun ((k, a', c') : Nat × Option Addr × Nat) => [(2, (.pointer (some ⟨b2, 0, none⟩))), (3, (.pointer (some ⟨b3, 0, none⟩))), (7, .slice a' ([1000] ++ (l.xs.take k).map (fun c => fwM R.L c g 10)).length c'), (40, .slice l.a l.xs.length l.c), (41, (.int .i64 (l.xs.length : Int))), (42, (.int .i64 (k : Int)))]) (fun ((k, a', c') : Nat × Option Addr × Nat) => [.row a' ([1000] ++ (l.xs.take k).map (fun c => fwM R.L c g 10)).length c' 3 1 (ints ([1000] ++ (l.xs.take k).map (fun c => fwM R.L c g 10))), .own b3 (isC [.int .i64 (i : Int), .int .i64 g] 121), .own b2 (isC (rdC R) 83), .own R.r (isMm (LV R)), .snap 0 R.r w, .snap (R.r + 1) w.heap.size w]) (fun ((k, a', c') : Nat × Option Addr × Nat) => l.xs.length - k) ((0, a33, c33)) [.row a33 (0 + 1) c33 3 1 ([] ++ [[.int .i64 1000]]), .own b3 (isC [.int .i64 (i : Int), .int .i64 g] 121), .own b2 (isC (rdC R) 83), .own R.r (isMm (LV R)), .snap 0 R.r w, .snap (R.r + 1) w.heap.size w] (rfl) (Nat.zero_le _) (⟨rfl, rfl, rfl, rfl, rfl, rfl, trivial⟩) ?_
      rintro ⟨k, a', c'⟩ hk9
      try dsimp only at hk
      show T _ _ _ ⟨_, [(2, (.pointer (some ⟨b2, 0, none⟩))), (3, (.pointer (some ⟨b3, 0, none⟩))), (7, .slice a' ([1000] ++ (l.xs.take k).map (fun c => fwM R.L c g 10)).length c'), (40, .slice l.a l.xs.length l.c), (41, (.int .i64 (l.xs.length : Int))), (42, (.int .i64 (k : Int)))], _⟩ [.row a' ([1000] ++ (l.xs.take k).map (fun c => fwM R.L c g 10)).length c' 3 1 (ints ([1000] ++ (l.xs.take k).map (fun c => fwM R.L c g 10))), .own b3 (isC [.int .i64 (i : Int), .int .i64 g] 121), .own b2 (isC (rdC R) 83), .own R.r (isMm (LV R)), .snap 0 R.r w, .snap (R.r + 1) w.heap.size w]
      refine t_seq ?_
      refine t_reg ?_
      refine to_lss rfl rfl rfl ?_
      refine to_nil ?_
      refine tn_code ?_
      refine t_seq ?_
      refine t_if rfl (fun h2 => ?_) (fun h2 => ?_)
      · try simp only [decide_eq_true_eq, decide_eq_false_iff_not, Bool.not_eq_true', Bool.not_eq_false', Int.not_lt, Int.not_le, ne_eq, Decidable.not_not] at h2
        try have h2b := inB_iff.1 h2
        obtain ⟨c, hcx⟩ := some_get (xs := l.xs) (k := k) (by omega)
        have hcm := List.mem_of_getElem? hcx
        have hcc := map_get (f := intC) hcx
        have hup := hf.up i l hl c hcm
        have hal1 : (([] : List Int) ++ (l.xs.take k).map (fun c => fwM R.L c g 10)).length ≤ 10 := by simp; omega
        have hal2 : (([1000] : List Int) ++ (l.xs.take k).map (fun c => fwM R.L c g 10)).length ≤ 10 := by simp; omega
        refine t_skip ?_
        refine tn_code ?_
        refine t_seq ?_
        refine t_blk ?_
        refine t_seq ?_
        refine t_reg ?_
        first | refine to_ix rfl rfl rfl (by first | omega | decide) (by first | omega | decide) rfl ?_ | refine to_ixi rfl rfl rfl (by omega) (by omega) (by omega) rfl ?_
        first | refine to_lds rfl rfl rfl ?_ | refine to_ldes rfl (by assumption) rfl rfl ?_
        refine to_as rfl rfl ?_
        refine to_nil ?_
        refine tn_code ?_
        refine t_reg ?_
        refine to_mv rfl rfl ?_
        first | refine to_lda rfl rfl rfl ?_ | refine to_ldea rfl (by assumption) rfl rfl ?_
        refine to_mv rfl rfl ?_
        first | refine to_fa rfl rfl rfl (by simp only [Nat.reduceAdd]; rfl) rfl ?_ | refine to_fae rfl rfl rfl (by simp only [Nat.reduceAdd]; rfl) rfl ?_
        first | refine to_lds rfl rfl rfl ?_ | refine to_ldes rfl (by assumption) rfl rfl ?_
        refine to_callP (R := MemR R.r (LV R) (.int .i64 (fwM R.L c g 10))) rfl rfl (fun w2 s => cp_fewest R c g w2 hf (rdOk_of s hk (by simp)) (hrec c hcm)) rfl (fun w2 s2 e2 w3 hd => ?_)
        obtain ⟨rfl, hdw, o3, ho3, hm3⟩ := hd
        refine .inl ⟨_, _, rfl, st_rewM s2 hdw ho3 hm3, ?_⟩
        · skip
          refine to_bsl rfl rfl rfl rfl (fun a52 => ?_)
          refine to_app rfl rfl rfl (by simp [scals, scal]) (by decide) (by omega) (by decide) rfl (fun a53 c53 => ?_)
          refine to_as rfl rfl ?_
          refine to_nil ?_
          refine tn_blk ?_
          refine tn_code ?_
          refine t_reg ?_
          refine to_add rfl rfl (by omega) rfl ?_
          refine to_mv rfl rfl ?_
          refine to_nil ?_
          exact tn_loop2 ((k + 1, a53, c53)) [.row a53 (([1000] ++ (l.xs.take k).map (fun c => fwM R.L c g 10)).length + 1) c53 3 1 (ints ([1000] ++ (l.xs.take k).map (fun c => fwM R.L c g 10)) ++ [[.int .i64 (fwM R.L c g 10)]]), .own b3 (isC [.int .i64 (i : Int), .int .i64 g] 121), .own b2 (isC (rdC R) 83), .own R.r (isMm (LV R)), .snap 0 R.r w, .snap (R.r + 1) w.heap.size w] (by dsimp only; rw [map_snoc hcx]; simp) (by dsimp only; omega) (by dsimp only; omega) (⟨rfl, rfl, congrArg some (by rw [map_snoc hcx]; simp), rfl, rfl, rfl, trivial⟩)
      · try simp only [decide_eq_true_eq, decide_eq_false_iff_not, Bool.not_eq_true', Bool.not_eq_false', Int.not_lt, Int.not_le, ne_eq, Decidable.not_not] at h2
        try have h2b := inB_iff.1 h2
        have hk2 : k = l.xs.length := by omega
        subst hk2
        rw [List.take_length]
        refine t_exit ?_
        refine tx_code ?_
        refine tx_inv ?_
        refine tx_blk ?_
        refine tn_code ?_
        refine t_seq ?_
        refine t_reg ?_
        refine to_mv rfl rfl ?_
        refine to_call0 rfl rfl (fun w s => cp_sumE (v := R.L i g) (xs := [1000] ++ l.xs.map (fun c => fwM R.L c g 10)) (rdw s) (by simp; omega) (fw_bd hf [1000] (by simp) l.xs g) (by rw [heq, lsM, hsd, if_neg (by rw [hfit]; decide)])) rfl ?_
        refine to_as rfl rfl ?_
        refine to_nil ?_
        refine tn_code ?_
        refine t_seq ?_
        refine t_reg ?_
        first | refine to_fa rfl rfl rfl (by simp only [Nat.reduceAdd]; rfl) rfl ?_ | refine to_fae rfl rfl rfl (by simp only [Nat.reduceAdd]; rfl) rfl ?_
        first | refine to_lds rfl rfl rfl ?_ | refine to_ldes rfl (by assumption) rfl rfl ?_
        first | refine to_lda rfl rfl rfl ?_ | refine to_ldea rfl (by assumption) rfl rfl ?_
        refine to_mv rfl rfl ?_
        refine to_mupmm rfl rfl rfl rfl ?_
        refine to_nil ?_
        refine tn_code ?_
        refine t_seq ?_
        refine t_reg ?_
        refine to_mv rfl rfl ?_
        refine to_as rfl rfl ?_
        refine to_nil ?_
        refine tn_code ?_
        refine t_ret1G rfl rfl (res_tmp rfl) (fun w' s => ?_)
        exact memR_of s (by simp) (by simp)
    · try simp only [decide_eq_true_eq, decide_eq_false_iff_not, Bool.not_eq_true', Bool.not_eq_false', Int.not_lt, Int.not_le, ne_eq, Decidable.not_not] at h1
      try have h1b := inB_iff.1 h1
      have hfit := h1
      refine t_skip ?_
      refine tn_code ?_
      refine t_seq ?_
      refine t_seq ?_
      refine t_reg ?_
      first | refine to_fa rfl rfl rfl (by simp only [Nat.reduceAdd]; rfl) rfl ?_ | refine to_fae rfl rfl rfl (by simp only [Nat.reduceAdd]; rfl) rfl ?_
      first | refine to_fa rfl rfl rfl (by simp only [Nat.reduceAdd]; rfl) rfl ?_ | refine to_fae rfl rfl rfl (by simp only [Nat.reduceAdd]; rfl) rfl ?_
      first | refine to_lds rfl rfl rfl ?_ | refine to_ldes rfl (by assumption) rfl rfl ?_
      first | refine to_fa rfl rfl rfl (by simp only [Nat.reduceAdd]; rfl) rfl ?_ | refine to_fae rfl rfl rfl (by simp only [Nat.reduceAdd]; rfl) rfl ?_
      first | refine to_lds rfl rfl rfl ?_ | refine to_ldes rfl (by assumption) rfl rfl ?_
      first | refine to_ix rfl rfl rfl (by first | omega | decide) (by first | omega | decide) rfl ?_ | refine to_ixi rfl rfl rfl (by omega) (by omega) (by omega) rfl ?_
      first | refine to_lds rfl rfl rfl ?_ | refine to_ldes rfl (by assumption) rfl rfl ?_
      refine to_lenS rfl rfl ?_
      refine to_mv rfl rfl ?_
      refine to_nil ?_
      refine tn_code ?_
      refine t_blk ?_
      refine t_nilrow 3 1 ?_
      refine t_loop2 (ι := Nat × Option Addr × Nat) (fun ((k, a', c') : Nat × Option Addr × Nat) => k ≤ l.xs.length) (fun ((k, a', c') : Nat × Option Addr × Nat) => [(2, (.pointer (some ⟨b2, 0, none⟩))), (3, (.pointer (some ⟨b3, 0, none⟩))), (7, .slice a' ([] ++ (l.xs.take k).map (fun c => fwM R.L c g 10)).length c'), (40, .slice l.a l.xs.length l.c), (41, (.int .i64 (l.xs.length : Int))), (42, (.int .i64 (k : Int)))]) (fun ((k, a', c') : Nat × Option Addr × Nat) => [.row a' ([] ++ (l.xs.take k).map (fun c => fwM R.L c g 10)).length c' 3 1 (ints ([] ++ (l.xs.take k).map (fun c => fwM R.L c g 10))), .own b3 (isC [.int .i64 (i : Int), .int .i64 g] 121), .own b2 (isC (rdC R) 83), .own R.r (isMm (LV R)), .snap 0 R.r w, .snap (R.r + 1) w.heap.size w]) (fun ((k, a', c') : Nat × Option Addr × Nat) => l.xs.length - k) ((0, none, 0)) [.row none 0 0 3 1 [], .own b3 (isC [.int .i64 (i : Int), .int .i64 g] 121), .own b2 (isC (rdC R) 83), .own R.r (isMm (LV R)), .snap 0 R.r w, .snap (R.r + 1) w.heap.size w] (rfl) (Nat.zero_le _) (⟨rfl, rfl, rfl, rfl, rfl, rfl, trivial⟩) ?_
      rintro ⟨k, a', c'⟩ hk9
      try dsimp only at hk
      show T _ _ _ ⟨_, [(2, (.pointer (some ⟨b2, 0, none⟩))), (3, (.pointer (some ⟨b3, 0, none⟩))), (7, .slice a' ([] ++ (l.xs.take k).map (fun c => fwM R.L c g 10)).length c'), (40, .slice l.a l.xs.length l.c), (41, (.int .i64 (l.xs.length : Int))), (42, (.int .i64 (k : Int)))], _⟩ [.row a' ([] ++ (l.xs.take k).map (fun c => fwM R.L c g 10)).length c' 3 1 (ints ([] ++ (l.xs.take k).map (fun c => fwM R.L c g 10))), .own b3 (isC [.int .i64 (i : Int), .int .i64 g] 121), .own b2 (isC (rdC R) 83), .own R.r (isMm (LV R)), .snap 0 R.r w, .snap (R.r + 1) w.heap.size w]
      refine t_seq ?_
      refine t_reg ?_
      refine to_lss rfl rfl rfl ?_
      refine to_nil ?_
      refine tn_code ?_
      refine t_seq ?_
      refine t_if rfl (fun h3 => ?_) (fun h3 => ?_)
      · try simp only [decide_eq_true_eq, decide_eq_false_iff_not, Bool.not_eq_true', Bool.not_eq_false', Int.not_lt, Int.not_le, ne_eq, Decidable.not_not] at h3
        try have h3b := inB_iff.1 h3
        obtain ⟨c, hcx⟩ := some_get (xs := l.xs) (k := k) (by omega)
        have hcm := List.mem_of_getElem? hcx
        have hcc := map_get (f := intC) hcx
        have hup := hf.up i l hl c hcm
        have hal1 : (([] : List Int) ++ (l.xs.take k).map (fun c => fwM R.L c g 10)).length ≤ 10 := by simp; omega
        have hal2 : (([1000] : List Int) ++ (l.xs.take k).map (fun c => fwM R.L c g 10)).length ≤ 10 := by simp; omega
        refine t_skip ?_
        refine tn_code ?_
        refine t_seq ?_
        refine t_blk ?_
        refine t_seq ?_
        refine t_reg ?_
        first | refine to_ix rfl rfl rfl (by first | omega | decide) (by first | omega | decide) rfl ?_ | refine to_ixi rfl rfl rfl (by omega) (by omega) (by omega) rfl ?_
        first | refine to_lds rfl rfl rfl ?_ | refine to_ldes rfl (by assumption) rfl rfl ?_
        refine to_as rfl rfl ?_
        refine to_nil ?_
        refine tn_code ?_
        refine t_reg ?_
        refine to_mv rfl rfl ?_
        first | refine to_lda rfl rfl rfl ?_ | refine to_ldea rfl (by assumption) rfl rfl ?_
        refine to_mv rfl rfl ?_
        first | refine to_fa rfl rfl rfl (by simp only [Nat.reduceAdd]; rfl) rfl ?_ | refine to_fae rfl rfl rfl (by simp only [Nat.reduceAdd]; rfl) rfl ?_
        first | refine to_lds rfl rfl rfl ?_ | refine to_ldes rfl (by assumption) rfl rfl ?_
        refine to_callP (R := MemR R.r (LV R) (.int .i64 (fwM R.L c g 10))) rfl rfl (fun w2 s => cp_fewest R c g w2 hf (rdOk_of s hk (by simp)) (hrec c hcm)) rfl (fun w2 s2 e2 w3 hd => ?_)
        obtain ⟨rfl, hdw, o3, ho3, hm3⟩ := hd
        refine .inl ⟨_, _, rfl, st_rewM s2 hdw ho3 hm3, ?_⟩
        · skip
          refine to_bsl rfl rfl rfl rfl (fun a52 => ?_)
          refine to_app rfl rfl rfl (by simp [scals, scal]) (by decide) (by omega) (by decide) rfl (fun a53 c53 => ?_)
          refine to_as rfl rfl ?_
          refine to_nil ?_
          refine tn_blk ?_
          refine tn_code ?_
          refine t_reg ?_
          refine to_add rfl rfl (by omega) rfl ?_
          refine to_mv rfl rfl ?_
          refine to_nil ?_
          exact tn_loop2 ((k + 1, a53, c53)) [.row a53 (([] ++ (l.xs.take k).map (fun c => fwM R.L c g 10)).length + 1) c53 3 1 (ints ([] ++ (l.xs.take k).map (fun c => fwM R.L c g 10)) ++ [[.int .i64 (fwM R.L c g 10)]]), .own b3 (isC [.int .i64 (i : Int), .int .i64 g] 121), .own b2 (isC (rdC R) 83), .own R.r (isMm (LV R)), .snap 0 R.r w, .snap (R.r + 1) w.heap.size w] (by dsimp only; rw [map_snoc hcx]; simp) (by dsimp only; omega) (by dsimp only; omega) (⟨rfl, rfl, congrArg some (by rw [map_snoc hcx]; simp), rfl, rfl, rfl, trivial⟩)
      · try simp only [decide_eq_true_eq, decide_eq_false_iff_not, Bool.not_eq_true', Bool.not_eq_false', Int.not_lt, Int.not_le, ne_eq, Decidable.not_not] at h3
        try have h3b := inB_iff.1 h3
        have hk2 : k = l.xs.length := by omega
        subst hk2
        rw [List.take_length]
        refine t_exit ?_
        refine tx_code ?_
        refine tx_inv ?_
        refine tx_blk ?_
        refine tn_code ?_
        refine t_seq ?_
        refine t_reg ?_
        refine to_mv rfl rfl ?_
        refine to_call0 rfl rfl (fun w s => cp_sumE (v := R.L i g) (xs := [] ++ l.xs.map (fun c => fwM R.L c g 10)) (rdw s) (by simp; omega) (fw_bd hf [] (by simp) l.xs g) (by rw [heq, lsM, hsd, if_pos hfit])) rfl ?_
        refine to_as rfl rfl ?_
        refine to_nil ?_
        refine tn_code ?_
        refine t_seq ?_
        refine t_reg ?_
        first | refine to_fa rfl rfl rfl (by simp only [Nat.reduceAdd]; rfl) rfl ?_ | refine to_fae rfl rfl rfl (by simp only [Nat.reduceAdd]; rfl) rfl ?_
        first | refine to_lds rfl rfl rfl ?_ | refine to_ldes rfl (by assumption) rfl rfl ?_
        first | refine to_lda rfl rfl rfl ?_ | refine to_ldea rfl (by assumption) rfl rfl ?_
        refine to_mv rfl rfl ?_
        refine to_mupmm rfl rfl rfl rfl ?_
        refine to_nil ?_
        refine tn_code ?_
        refine t_seq ?_
        refine t_reg ?_
        refine to_mv rfl rfl ?_
        refine to_as rfl rfl ?_
        refine to_nil ?_
        refine tn_code ?_
        refine t_ret1G rfl rfl (res_tmp rfl) (fun w' s => ?_)
        exact memR_of s (by simp) (by simp)

end Go.Proofs


namespace Go.Proofs
open Go Go.Sx Go.RowKit

theorem cp_least (R : Rdg) (hf : RdFine R) : ∀ (n i : Nat), R.cs.length - i ≤ n → i < R.cs.length → ∀ (g : Int) (w : World), RdOk R w → 0 ≤ g → g ≤ 9 → Calls Tryz.prog 60 #[rdV R, pairV i g] w (MemR R.r (LV R) (.int .i64 (R.L i g)) w)
  | 0, i, h, hi, _, _, _, _, _ => absurd h (by omega)
  | n + 1, i, h, hi, g, w, hk, h0, h9 => by
    obtain ⟨x, hx⟩ := some_get (xs := R.cs) (k := i) hi
    obtain ⟨l, hl⟩ := some_get (xs := R.ch) (k := i) (by have := hf.len; omega)
    refine cp_least0 R i x l g w hf hk hx hl ⟨h0, h9⟩ fun c hc w' hk' g' h0' h9' => ?_
    have hup := hf.up i l hl c hc
    obtain ⟨j, rfl⟩ := Int.eq_ofNat_of_zero_le (show 0 ≤ c by omega)
    exact cp_least R hf n j (by omega) (by omega) g' w' hk' h0' h9'
def erM (L : Int → Int → Int) : Nat → Int
  | 0 => 1000
  | k + 1 => min (erM L k) (L 0 k)
theorem erM_b {R : Rdg} (hf : RdFine R) : ∀ k, 0 ≤ erM R.L k ∧ erM R.L k ≤ 1000
  | 0 => by simp [erM]
  | k + 1 => by
    have h1 := erM_b hf k
    have h2 := hf.bd 0 k
    simp only [erM]; omega

set_option maxRecDepth 20000 in
theorem cp_errors (R : Rdg) (w : World) (hf : RdFine R) (hk : RdOk R w) (hpos : 0 < R.cs.length) : Calls Tryz.prog 32 #[rdV R] w (MemR R.r (LV R) (.int .i64 (erM R.L 10)) w) := by
  obtain ⟨o, ho, hm⟩ := hk.hm
  refine calls_TG (av := [_]) Tryz.func32 rfl rfl rfl (St.startM ho hm) ?_
  refine t_seq ?_
  refine t_reg ?_
  refine to_box rfl rfl (fun b1 => ?_)
  refine to_as rfl rfl ?_
  refine to_nil ?_
  refine tn_code ?_
  refine t_seq ?_
  refine t_reg ?_
  refine to_as rfl rfl ?_
  refine to_nil ?_
  refine tn_code ?_
  refine t_seq ?_
  refine t_seq ?_
  refine t_reg ?_
  refine to_mv rfl rfl ?_
  refine to_nil ?_
  refine tn_code ?_
  refine t_blk ?_
  refine t_loop2 (ι := Nat) (fun k => k ≤ 10) (fun k => [(1, (.pointer (some ⟨b1, 0, none⟩))), (3, (.int .i64 (erM R.L k))), (5, (.int .i64 (k : Int)))]) (fun k => [.own b1 (isC (rdC R) 83), .own R.r (isMm (LV R)), .snap 0 R.r w, .snap (R.r + 1) w.heap.size w]) (fun k => 10 - k) (0) [.own b1 (isC (rdC R) 83), .own R.r (isMm (LV R)), .snap 0 R.r w, .snap (R.r + 1) w.heap.size w] (rfl) (Nat.zero_le _) (⟨rfl, rfl, rfl, trivial⟩) ?_
  rintro k hk9
  show T _ _ _ ⟨_, [(1, (.pointer (some ⟨b1, 0, none⟩))), (3, (.int .i64 (erM R.L k))), (5, (.int .i64 (k : Int)))], _⟩ [.own b1 (isC (rdC R) 83), .own R.r (isMm (LV R)), .snap 0 R.r w, .snap (R.r + 1) w.heap.size w]
  refine t_seq ?_
  refine t_reg ?_
  refine to_lss rfl rfl rfl ?_
  refine to_nil ?_
  refine tn_code ?_
  refine t_seq ?_
  refine t_if rfl (fun h1 => ?_) (fun h1 => ?_)
  · try simp only [decide_eq_true_eq, decide_eq_false_iff_not, Bool.not_eq_true', Bool.not_eq_false', Int.not_lt, Int.not_le, ne_eq, Decidable.not_not] at h1
    try have h1b := inB_iff.1 h1
    refine t_skip ?_
    refine tn_code ?_
    refine t_seq ?_
    refine t_blk ?_
    refine t_seq ?_
    refine t_reg ?_
    refine to_mv rfl rfl ?_
    refine to_as rfl rfl ?_
    refine to_nil ?_
    refine tn_code ?_
    refine t_reg ?_
    refine to_mv rfl rfl ?_
    first | refine to_lda rfl rfl rfl ?_ | refine to_ldea rfl (by assumption) rfl rfl ?_
    refine to_mv rfl rfl ?_
    refine to_bs rfl rfl ?_
    refine to_callP (R := MemR R.r (LV R) (.int .i64 (R.L 0 k))) rfl rfl (fun w2 s => cp_least R hf R.cs.length 0 (by omega) hpos k w2 (rdOk_of s hk (by simp)) (by omega) (by omega)) rfl (fun w2 s2 e2 w3 hd => ?_)
    obtain ⟨rfl, hdw, o3, ho3, hm3⟩ := hd
    refine .inl ⟨_, _, rfl, st_rewM s2 hdw ho3 hm3, ?_⟩
    · skip
      refine to_min rfl rfl rfl ?_
      refine to_as rfl rfl ?_
      refine to_nil ?_
      refine tn_blk ?_
      refine tn_code ?_
      refine t_reg ?_
      refine to_add rfl rfl (by omega) rfl ?_
      refine to_mv rfl rfl ?_
      refine to_nil ?_
      exact tn_loop2 (k + 1) [.own b1 (isC (rdC R) 83), .own R.r (isMm (LV R)), .snap 0 R.r w, .snap (R.r + 1) w.heap.size w] (rfl) (by omega) (by omega) (⟨rfl, rfl, rfl, trivial⟩)
  · try simp only [decide_eq_true_eq, decide_eq_false_iff_not, Bool.not_eq_true', Bool.not_eq_false', Int.not_lt, Int.not_le, ne_eq, Decidable.not_not] at h1
    try have h1b := inB_iff.1 h1
    have hk2 : k = 10 := by omega
    subst hk2
    refine t_exit ?_
    refine tx_code ?_
    refine tx_inv ?_
    refine tx_blk ?_
    refine tn_code ?_
    refine t_seq ?_
    refine t_reg ?_
    refine to_mv rfl rfl ?_
    refine to_as rfl rfl ?_
    refine to_nil ?_
    refine tn_code ?_
    refine t_ret1G rfl rfl (res_tmp rfl) (fun w' s => ?_)
    exact memR_of s (by simp) (by simp)

end Go.Proofs


namespace Go.Proofs
open Go Go.Sx Go.RowKit

def shpA : List (Int × List Int) := [(0, [4, 7]), (0, [-1, -1]), (1, [4, 1]), (1, [4, 1]), (0, [-1, 7]), (4, [8, 7])]
/-- The chapter's tree a, anew in memory. -/
def RTrA : Nat → World → Value → Prop := fun lo w1 v => ∃ (cs : List Cp) (ca : Option Addr) (cc : Nat), v = trV 2 cs ca cc ∧ cs.map (fun x => (x.p, x.s)) = shpA ∧ Ro w1 lo w1.heap.size ca cs.length cc 2 (cs.map cpC) ∧ ∀ x ∈ cs, Ro w1 lo w1.heap.size x.a x.s.length x.c 1 (ints x.s)

set_option maxRecDepth 20000 in
theorem h7_A  (w : World)  : Calls Tryz.prog 15 #[] w (Ret w (RTrA)) := by
  refine calls_T (av := []) Tryz.func15 rfl rfl rfl ?_
  refine t_seq ?_
  refine t_reg ?_
  refine to_alloc rfl (fun b0 => ?_)
  refine to_nil ?_
  refine tn_code ?_
  refine t_seq ?_
  refine t_reg ?_
  refine to_bsl rfl rfl rfl rfl (fun a1 => ?_)
  refine to_bs rfl rfl ?_
  refine to_bsl rfl rfl rfl rfl (fun a3 => ?_)
  refine to_bs rfl rfl ?_
  refine to_bsl rfl rfl rfl rfl (fun a5 => ?_)
  refine to_bs rfl rfl ?_
  refine to_bsl rfl rfl rfl rfl (fun a7 => ?_)
  refine to_bs rfl rfl ?_
  refine to_bsl rfl rfl rfl rfl (fun a9 => ?_)
  refine to_bs rfl rfl ?_
  refine to_bsl rfl rfl rfl rfl (fun a11 => ?_)
  refine to_bs rfl rfl ?_
  refine to_bsl rfl rfl rfl rfl (fun a13 => ?_)
  refine to_bs rfl rfl ?_
  first | refine to_st rfl rfl rfl rfl ?_ | refine to_ste rfl rfl (by assumption) rfl rfl ?_
  refine to_nil ?_
  refine tn_code ?_
  refine t_ret1 rfl rfl (res_cellA rfl rfl) (fun w' s => ?_)
  refine ⟨[⟨0, [4, 7], a1, 2⟩, ⟨0, [-1, -1], a3, 2⟩, ⟨1, [4, 1], a5, 2⟩, ⟨1, [4, 1], a7, 2⟩, ⟨0, [-1, 7], a9, 2⟩, ⟨4, [8, 7], a11, 2⟩], a13, 6, rfl, rfl, ro_row s, fun x hx => ?_⟩
  simp only [List.mem_cons, List.not_mem_nil, or_false] at hx
  rcases hx with rfl | rfl | rfl | rfl | rfl | rfl <;> exact ro_row s

end Go.Proofs


namespace Go.Proofs
open Go Go.Sx Go.RowKit

def chA : List (List Int) := [[1, 4], [2, 3], [], [], [5], []]

abbrev csA (a0 a1 a2 a3 a4 a5 : Option Addr) (c0 c1 c2 c3 c4 c5 : Nat) : List Cp := [⟨0, [4, 7], a0, c0⟩, ⟨0, [-1, -1], a1, c1⟩, ⟨1, [4, 1], a2, c2⟩, ⟨1, [4, 1], a3, c3⟩, ⟨0, [-1, 7], a4, c4⟩, ⟨4, [8, 7], a5, c5⟩]
/-- A tree's copies by whom they were made from. -/
def RChA (pl : Int) (ca : Option Addr) (cc : Nat) : Nat → World → Value → Prop := fun lo w1 v => ∃ (ch : List Li) (ma : Option Addr), v = .agg [.int .i64 pl, .slice ca 6 cc, .slice ma 6 6].toArray ∧ ch.map (·.xs) = chA ∧ Ro w1 lo w1.heap.size ma 6 6 1 (ch.map liC) ∧ ∀ l ∈ ch, Ro w1 lo w1.heap.size l.a l.xs.length l.c 1 (ints l.xs)

set_option maxRecDepth 20000 in
theorem cp_treeOf (a0 a1 a2 a3 a4 a5 : Option Addr) (c0 c1 c2 c3 c4 c5 : Nat) (ca : Option Addr) (cc : Nat) (pl : Int) (w : World) (hct : Ro w 0 w.heap.size ca 6 cc 2 ((csA a0 a1 a2 a3 a4 a5 c0 c1 c2 c3 c4 c5).map cpC)) : Calls Tryz.prog 59 #[trV pl (csA a0 a1 a2 a3 a4 a5 c0 c1 c2 c3 c4 c5) ca cc] w (Ret w (RChA pl ca cc)) := by
  refine calls_T (av := [_]) Tryz.func59 rfl rfl rfl ?_
  refine t_seq ?_
  refine t_reg ?_
  refine to_box rfl rfl (fun b1 => ?_)
  refine to_alloc rfl (fun b2 => ?_)
  refine to_nil ?_
  refine tn_code ?_
  refine t_seq ?_
  refine t_regF [4, 6, 7] [0, 1, 2, 3] [4, 5, 6, 7] [6, 4, 5, 7] [.own b1 (isC (trC pl (csA a0 a1 a2 a3 a4 a5 c0 c1 c2 c3 c4 c5) ca cc) 24), .snap 0 w.heap.size w] rfl (by kernel_rfl) (by kernel_rfl) ?_
  refine tf_q ?e1 rfl ?q1 ?r1
  case q1 =>
    first | refine to_lda rfl rfl rfl ?_ | refine to_ldea rfl (by assumption) rfl rfl ?_
    exact tfq_end
  refine tf_q ?e2 rfl ?q2 ?r2
  case q2 =>
    first | refine to_fa rfl rfl rfl (by simp only [Nat.reduceAdd]; rfl) rfl ?_ | refine to_fae rfl rfl rfl (by simp only [Nat.reduceAdd]; rfl) rfl ?_
    exact tfq_end
  refine tf_q ?e3 rfl ?q3 ?r3
  case q3 =>
    first | refine to_lds rfl rfl rfl ?_ | refine to_ldes rfl (by assumption) rfl rfl ?_
    exact tfq_end
  refine tf_q ?e4 rfl ?q4 ?r4
  case q4 =>
    refine to_lenS rfl rfl ?_
    exact tfq_end
  refine tf_fork ?_ ?_
  · skip
    refine tp_s rfl ?_ (fun _ h => by cases h) rfl
    refine to_mks (k := 6) rfl rfl (by decide) (by decide) rfl (fun a10 => ?_)
    refine tp_se rfl ?_
    refine tp_q ?e5 rfl ?q5 ?r5
    case q5 =>
      refine to_bs rfl rfl ?_
      exact tpq_end
    refine tp_s rfl ?_ (fun _ h => by cases h) rfl
    refine to_alloc rfl (fun b3 => ?_)
    refine tp_se rfl ?_
    refine tp_s rfl ?_ (fun _ h => by cases h) rfl
    first | refine to_st rfl rfl rfl rfl ?_ | refine to_ste rfl rfl (by assumption) rfl rfl ?_
    refine tp_se rfl ?_
    refine tp_nil ?_
    refine tn_code ?_
    refine t_seq ?_
    refine t_seq ?_
    refine t_reg ?_
    first | refine to_fa rfl rfl rfl (by simp only [Nat.reduceAdd]; rfl) rfl ?_ | refine to_fae rfl rfl rfl (by simp only [Nat.reduceAdd]; rfl) rfl ?_
    first | refine to_lds rfl rfl rfl ?_ | refine to_ldes rfl (by assumption) rfl rfl ?_
    refine to_lenS rfl rfl ?_
    refine to_mv rfl rfl ?_
    refine to_nil ?_
    refine tn_code ?_
    refine t_blk ?_
    refine t_unrollN 7 ?_
    refine t_seq ?_
    refine t_reg ?_
    refine to_lss rfl rfl rfl ?_
    refine to_fix (s := 16) (b' := true) rfl (rfl) ?_
    refine to_nil ?_
    refine tn_code ?_
    refine t_seq ?_
    refine t_ifT rfl ?_
    refine t_skip ?_
    refine tn_code ?_
    refine t_seq ?_
    refine t_blk ?_
    refine t_seq ?_
    refine t_reg ?_
    refine to_mv rfl rfl ?_
    refine to_ix (k := 0) rfl rfl rfl (by exact (by decide : 0 < 6)) (by exact (by decide : 0 < 6)) rfl ?_
    refine to_ldea (row := [.int .i64 0, .slice a0 2 c0]) rfl rfl rfl rfl ?_
    refine to_alloc rfl (fun b5 => ?_)
    refine to_as rfl rfl ?_
    first | refine to_st rfl rfl rfl rfl ?_ | refine to_ste rfl rfl (by assumption) rfl rfl ?_
    refine to_nil ?_
    refine tn_code ?_
    refine t_seq ?_
    refine t_reg ?_
    refine to_mv rfl rfl ?_
    refine to_gtr rfl rfl rfl ?_
    refine to_fix (s := 21) (b' := false) rfl (rfl) ?_
    refine to_nil ?_
    refine tn_code ?_
    refine t_ifF rfl ?_
    refine t_skip ?_
    refine tn_blk ?_
    refine tn_code ?_
    refine t_reg ?_
    refine to_add rfl rfl (by decide) rfl ?_
    refine to_fixv (s := 36) (v' := .int .i64 1) rfl rfl ?_
    refine to_mv rfl rfl ?_
    refine to_nil ?_
    refine tn_unroll ?_
    refine t_seq ?_
    refine t_reg ?_
    refine to_lss rfl rfl rfl ?_
    refine to_fix (s := 16) (b' := true) rfl (rfl) ?_
    refine to_nil ?_
    refine tn_code ?_
    refine t_seq ?_
    refine t_ifT rfl ?_
    refine t_skip ?_
    refine tn_code ?_
    refine t_seq ?_
    refine t_blk ?_
    refine t_seq ?_
    refine t_reg ?_
    refine to_mv rfl rfl ?_
    refine to_ix (k := 1) rfl rfl rfl (by exact (by decide : 1 < 6)) (by exact (by decide : 1 < 6)) rfl ?_
    refine to_ldea (row := [.int .i64 0, .slice a1 2 c1]) rfl rfl rfl rfl ?_
    refine to_alloc rfl (fun b5 => ?_)
    refine to_as rfl rfl ?_
    first | refine to_st rfl rfl rfl rfl ?_ | refine to_ste rfl rfl (by assumption) rfl rfl ?_
    refine to_nil ?_
    refine tn_code ?_
    refine t_seq ?_
    refine t_reg ?_
    refine to_mv rfl rfl ?_
    refine to_gtr rfl rfl rfl ?_
    refine to_fix (s := 21) (b' := true) rfl (rfl) ?_
    refine to_nil ?_
    refine tn_code ?_
    refine t_ifT rfl ?_
    refine t_regM [11, 12, 14] [.own b5 (isC [.int .i64 0, .slice a1 2 c1] 32), .own b3 (isC [.int .i64 pl, .slice ca (csA a0 a1 a2 a3 a4 a5 c0 c1 c2 c3 c4 c5).length cc, .slice a10 6 6] 80), .row a10 6 6 30 1 (List.replicate 6 [Value.slice none 0 0])] rfl (by kernel_rfl) (by kernel_rfl) ?_
    refine tm_q ?e6 rfl ?q6 ?r6
    case q6 =>
      first | refine to_fa rfl rfl rfl (by simp only [Nat.reduceAdd]; rfl) rfl ?_ | refine to_fae rfl rfl rfl (by simp only [Nat.reduceAdd]; rfl) rfl ?_
      exact tmq_end
    refine tm_q ?e7 rfl ?q7 ?r7
    case q7 =>
      first | refine to_lds rfl rfl rfl ?_ | refine to_ldes rfl (by assumption) rfl rfl ?_
      exact tmq_end
    refine tm_q ?e8 rfl ?q8 ?r8
    case q8 =>
      first | refine to_fa rfl rfl rfl (by simp only [Nat.reduceAdd]; rfl) rfl ?_ | refine to_fae rfl rfl rfl (by simp only [Nat.reduceAdd]; rfl) rfl ?_
      exact tmq_end
    refine tm_q ?e9 rfl ?q9 ?r9
    case q9 =>
      first | refine to_lds rfl rfl rfl ?_ | refine to_ldes rfl (by assumption) rfl rfl ?_
      exact tmq_end
    refine tm_q ?e10 rfl ?q10 ?r10
    case q10 =>
      first | refine to_fa rfl rfl rfl (by simp only [Nat.reduceAdd]; rfl) rfl ?_ | refine to_fae rfl rfl rfl (by simp only [Nat.reduceAdd]; rfl) rfl ?_
      exact tmq_end
    refine tm_q ?e11 rfl ?q11 ?r11
    case q11 =>
      first | refine to_lds rfl rfl rfl ?_ | refine to_ldes rfl (by assumption) rfl rfl ?_
      exact tmq_end
    refine tm_q ?e12 rfl ?q12 ?r12
    case q12 =>
      first | refine to_fa rfl rfl rfl (by simp only [Nat.reduceAdd]; rfl) rfl ?_ | refine to_fae rfl rfl rfl (by simp only [Nat.reduceAdd]; rfl) rfl ?_
      exact tmq_end
    refine tm_q ?e13 rfl ?q13 ?r13
    case q13 =>
      first | refine to_lds rfl rfl rfl ?_ | refine to_ldes rfl (by assumption) rfl rfl ?_
      exact tmq_end
    refine tm_q ?e14 rfl ?q14 ?r14
    case q14 =>
      refine to_ix (k := 0) rfl rfl rfl (by exact (by decide : 0 < 6)) (by exact (by decide : 0 < 6)) rfl ?_
      exact tmq_end
    refine tm_q ?e15 rfl ?q15 ?r15
    case q15 =>
      refine to_ldes (row := [.slice none 0 0]) rfl rfl rfl rfl ?_
      exact tmq_end
    refine tm_q ?e16 rfl ?q16 ?r16
    case q16 =>
      refine to_mv rfl rfl ?_
      exact tmq_end
    refine tm_s rfl ?_ (fun _ h => by cases h) rfl
    refine to_bsl rfl rfl rfl rfl (fun a33 => ?_)
    refine tm_se rfl ?_
    refine tm_s rfl ?_ (fun _ h => by cases h) rfl
    refine to_nilrow 3 1 ?_
    refine to_app rfl rfl rfl (by simp [scals, scal]) (by decide) (by decide) (by decide) rfl (fun a34_1 c34_1 => ?_)
    refine tm_se rfl ?_
    refine tm_q ?e17 rfl ?q17 ?r17
    case q17 =>
      refine to_ix (k := 0) rfl rfl rfl (by exact (by decide : 0 < 6)) (by exact (by decide : 0 < 6)) rfl ?_
      exact tmq_end
    refine tm_s rfl ?_ (fun _ h => by cases h) rfl
    refine to_ste (row := [.slice none 0 0]) rfl rfl rfl rfl rfl ?_
    refine tm_sl (by kernel_rfl) rfl rfl ?_
    refine tn_blk ?_
    refine tn_code ?_
    refine t_reg ?_
    refine to_add rfl rfl (by decide) rfl ?_
    refine to_fixv (s := 36) (v' := .int .i64 2) rfl rfl ?_
    refine to_mv rfl rfl ?_
    refine to_nil ?_
    refine tn_unroll ?_
    refine t_seq ?_
    refine t_reg ?_
    refine to_lss rfl rfl rfl ?_
    refine to_fix (s := 16) (b' := true) rfl (rfl) ?_
    refine to_nil ?_
    refine tn_code ?_
    refine t_seq ?_
    refine t_ifT rfl ?_
    refine t_skip ?_
    refine tn_code ?_
    refine t_seq ?_
    refine t_blk ?_
    refine t_seq ?_
    refine t_reg ?_
    refine to_mv rfl rfl ?_
    refine to_ix (k := 2) rfl rfl rfl (by exact (by decide : 2 < 6)) (by exact (by decide : 2 < 6)) rfl ?_
    refine to_ldea (row := [.int .i64 1, .slice a2 2 c2]) rfl rfl rfl rfl ?_
    refine to_alloc rfl (fun b5 => ?_)
    refine to_as rfl rfl ?_
    first | refine to_st rfl rfl rfl rfl ?_ | refine to_ste rfl rfl (by assumption) rfl rfl ?_
    refine to_nil ?_
    refine tn_code ?_
    refine t_seq ?_
    refine t_reg ?_
    refine to_mv rfl rfl ?_
    refine to_gtr rfl rfl rfl ?_
    refine to_fix (s := 21) (b' := true) rfl (rfl) ?_
    refine to_nil ?_
    refine tn_code ?_
    refine t_ifT rfl ?_
    refine t_regM [11, 12, 14] [.own b5 (isC [.int .i64 1, .slice a2 2 c2] 32), .own b3 (isC [.int .i64 pl, .slice ca (csA a0 a1 a2 a3 a4 a5 c0 c1 c2 c3 c4 c5).length cc, .slice a10 6 6] 80), .row a10 6 6 30 1 ((List.replicate 6 [Value.slice none 0 0]).set 0 [.slice a34_1 (0 + 1) c34_1])] rfl (by kernel_rfl) (by kernel_rfl) ?_
    refine tm_q ?e18 rfl ?q18 ?r18
    case q18 =>
      first | refine to_fa rfl rfl rfl (by simp only [Nat.reduceAdd]; rfl) rfl ?_ | refine to_fae rfl rfl rfl (by simp only [Nat.reduceAdd]; rfl) rfl ?_
      exact tmq_end
    refine tm_q ?e19 rfl ?q19 ?r19
    case q19 =>
      first | refine to_lds rfl rfl rfl ?_ | refine to_ldes rfl (by assumption) rfl rfl ?_
      exact tmq_end
    refine tm_q ?e20 rfl ?q20 ?r20
    case q20 =>
      first | refine to_fa rfl rfl rfl (by simp only [Nat.reduceAdd]; rfl) rfl ?_ | refine to_fae rfl rfl rfl (by simp only [Nat.reduceAdd]; rfl) rfl ?_
      exact tmq_end
    refine tm_q ?e21 rfl ?q21 ?r21
    case q21 =>
      first | refine to_lds rfl rfl rfl ?_ | refine to_ldes rfl (by assumption) rfl rfl ?_
      exact tmq_end
    refine tm_q ?e22 rfl ?q22 ?r22
    case q22 =>
      first | refine to_fa rfl rfl rfl (by simp only [Nat.reduceAdd]; rfl) rfl ?_ | refine to_fae rfl rfl rfl (by simp only [Nat.reduceAdd]; rfl) rfl ?_
      exact tmq_end
    refine tm_q ?e23 rfl ?q23 ?r23
    case q23 =>
      first | refine to_lds rfl rfl rfl ?_ | refine to_ldes rfl (by assumption) rfl rfl ?_
      exact tmq_end
    refine tm_q ?e24 rfl ?q24 ?r24
    case q24 =>
      first | refine to_fa rfl rfl rfl (by simp only [Nat.reduceAdd]; rfl) rfl ?_ | refine to_fae rfl rfl rfl (by simp only [Nat.reduceAdd]; rfl) rfl ?_
      exact tmq_end
    refine tm_q ?e25 rfl ?q25 ?r25
    case q25 =>
      first | refine to_lds rfl rfl rfl ?_ | refine to_ldes rfl (by assumption) rfl rfl ?_
      exact tmq_end
    refine tm_q ?e26 rfl ?q26 ?r26
    case q26 =>
      refine to_ix (k := 1) rfl rfl rfl (by exact (by decide : 1 < 6)) (by exact (by decide : 1 < 6)) rfl ?_
      exact tmq_end
    refine tm_q ?e27 rfl ?q27 ?r27
    case q27 =>
      refine to_ldes (row := [.slice none 0 0]) rfl rfl rfl rfl ?_
      exact tmq_end
    refine tm_q ?e28 rfl ?q28 ?r28
    case q28 =>
      refine to_mv rfl rfl ?_
      exact tmq_end
    refine tm_s rfl ?_ (fun _ h => by cases h) rfl
    refine to_bsl rfl rfl rfl rfl (fun a33 => ?_)
    refine tm_se rfl ?_
    refine tm_s rfl ?_ (fun _ h => by cases h) rfl
    refine to_nilrow 3 1 ?_
    refine to_app rfl rfl rfl (by simp [scals, scal]) (by decide) (by decide) (by decide) rfl (fun a34_2 c34_2 => ?_)
    refine tm_se rfl ?_
    refine tm_q ?e29 rfl ?q29 ?r29
    case q29 =>
      refine to_ix (k := 1) rfl rfl rfl (by exact (by decide : 1 < 6)) (by exact (by decide : 1 < 6)) rfl ?_
      exact tmq_end
    refine tm_s rfl ?_ (fun _ h => by cases h) rfl
    refine to_ste (row := [.slice none 0 0]) rfl rfl rfl rfl rfl ?_
    refine tm_sl (by kernel_rfl) rfl rfl ?_
    refine tn_blk ?_
    refine tn_code ?_
    refine t_reg ?_
    refine to_add rfl rfl (by decide) rfl ?_
    refine to_fixv (s := 36) (v' := .int .i64 3) rfl rfl ?_
    refine to_mv rfl rfl ?_
    refine to_nil ?_
    refine tn_unroll ?_
    refine t_seq ?_
    refine t_reg ?_
    refine to_lss rfl rfl rfl ?_
    refine to_fix (s := 16) (b' := true) rfl (rfl) ?_
    refine to_nil ?_
    refine tn_code ?_
    refine t_seq ?_
    refine t_ifT rfl ?_
    refine t_skip ?_
    refine tn_code ?_
    refine t_seq ?_
    refine t_blk ?_
    refine t_seq ?_
    refine t_reg ?_
    refine to_mv rfl rfl ?_
    refine to_ix (k := 3) rfl rfl rfl (by exact (by decide : 3 < 6)) (by exact (by decide : 3 < 6)) rfl ?_
    refine to_ldea (row := [.int .i64 1, .slice a3 2 c3]) rfl rfl rfl rfl ?_
    refine to_alloc rfl (fun b5 => ?_)
    refine to_as rfl rfl ?_
    first | refine to_st rfl rfl rfl rfl ?_ | refine to_ste rfl rfl (by assumption) rfl rfl ?_
    refine to_nil ?_
    refine tn_code ?_
    refine t_seq ?_
    refine t_reg ?_
    refine to_mv rfl rfl ?_
    refine to_gtr rfl rfl rfl ?_
    refine to_fix (s := 21) (b' := true) rfl (rfl) ?_
    refine to_nil ?_
    refine tn_code ?_
    refine t_ifT rfl ?_
    refine t_regM [11, 12, 14] [.own b5 (isC [.int .i64 1, .slice a3 2 c3] 32), .own b3 (isC [.int .i64 pl, .slice ca (csA a0 a1 a2 a3 a4 a5 c0 c1 c2 c3 c4 c5).length cc, .slice a10 6 6] 80), .row a10 6 6 30 1 (((List.replicate 6 [Value.slice none 0 0]).set 0 [.slice a34_1 (0 + 1) c34_1]).set 1 [.slice a34_2 (0 + 1) c34_2])] rfl (by kernel_rfl) (by kernel_rfl) ?_
    refine tm_q ?e30 rfl ?q30 ?r30
    case q30 =>
      first | refine to_fa rfl rfl rfl (by simp only [Nat.reduceAdd]; rfl) rfl ?_ | refine to_fae rfl rfl rfl (by simp only [Nat.reduceAdd]; rfl) rfl ?_
      exact tmq_end
    refine tm_q ?e31 rfl ?q31 ?r31
    case q31 =>
      first | refine to_lds rfl rfl rfl ?_ | refine to_ldes rfl (by assumption) rfl rfl ?_
      exact tmq_end
    refine tm_q ?e32 rfl ?q32 ?r32
    case q32 =>
      first | refine to_fa rfl rfl rfl (by simp only [Nat.reduceAdd]; rfl) rfl ?_ | refine to_fae rfl rfl rfl (by simp only [Nat.reduceAdd]; rfl) rfl ?_
      exact tmq_end
    refine tm_q ?e33 rfl ?q33 ?r33
    case q33 =>
      first | refine to_lds rfl rfl rfl ?_ | refine to_ldes rfl (by assumption) rfl rfl ?_
      exact tmq_end
    refine tm_q ?e34 rfl ?q34 ?r34
    case q34 =>
      first | refine to_fa rfl rfl rfl (by simp only [Nat.reduceAdd]; rfl) rfl ?_ | refine to_fae rfl rfl rfl (by simp only [Nat.reduceAdd]; rfl) rfl ?_
      exact tmq_end
    refine tm_q ?e35 rfl ?q35 ?r35
    case q35 =>
      first | refine to_lds rfl rfl rfl ?_ | refine to_ldes rfl (by assumption) rfl rfl ?_
      exact tmq_end
    refine tm_q ?e36 rfl ?q36 ?r36
    case q36 =>
      first | refine to_fa rfl rfl rfl (by simp only [Nat.reduceAdd]; rfl) rfl ?_ | refine to_fae rfl rfl rfl (by simp only [Nat.reduceAdd]; rfl) rfl ?_
      exact tmq_end
    refine tm_q ?e37 rfl ?q37 ?r37
    case q37 =>
      first | refine to_lds rfl rfl rfl ?_ | refine to_ldes rfl (by assumption) rfl rfl ?_
      exact tmq_end
    refine tm_q ?e38 rfl ?q38 ?r38
    case q38 =>
      refine to_ix (k := 1) rfl rfl rfl (by exact (by decide : 1 < 6)) (by exact (by decide : 1 < 6)) rfl ?_
      exact tmq_end
    refine tm_q ?e39 rfl ?q39 ?r39
    case q39 =>
      refine to_ldes (row := [.slice a34_2 1 c34_2]) rfl rfl rfl rfl ?_
      exact tmq_end
    refine tm_q ?e40 rfl ?q40 ?r40
    case q40 =>
      refine to_mv rfl rfl ?_
      exact tmq_end
    refine tm_s rfl ?_ (fun _ h => by cases h) rfl
    refine to_bsl rfl rfl rfl rfl (fun a33 => ?_)
    refine tm_se rfl ?_
    refine tm_s rfl ?_ (fun _ h => by cases h) rfl
    refine to_app rfl rfl rfl (by simp [scals, scal]) (by decide) (by decide) (by decide) rfl (fun a34_3 c34_3 => ?_)
    refine tm_se rfl ?_
    refine tm_q ?e41 rfl ?q41 ?r41
    case q41 =>
      refine to_ix (k := 1) rfl rfl rfl (by exact (by decide : 1 < 6)) (by exact (by decide : 1 < 6)) rfl ?_
      exact tmq_end
    refine tm_s rfl ?_ (fun _ h => by cases h) rfl
    refine to_ste (row := [.slice a34_2 1 c34_2]) rfl rfl rfl rfl rfl ?_
    refine tm_sl (by kernel_rfl) rfl rfl ?_
    refine tn_blk ?_
    refine tn_code ?_
    refine t_reg ?_
    refine to_add rfl rfl (by decide) rfl ?_
    refine to_fixv (s := 36) (v' := .int .i64 4) rfl rfl ?_
    refine to_mv rfl rfl ?_
    refine to_nil ?_
    refine tn_unroll ?_
    refine t_seq ?_
    refine t_reg ?_
    refine to_lss rfl rfl rfl ?_
    refine to_fix (s := 16) (b' := true) rfl (rfl) ?_
    refine to_nil ?_
    refine tn_code ?_
    refine t_seq ?_
    refine t_ifT rfl ?_
    refine t_skip ?_
    refine tn_code ?_
    refine t_seq ?_
    refine t_blk ?_
    refine t_seq ?_
    refine t_reg ?_
    refine to_mv rfl rfl ?_
    refine to_ix (k := 4) rfl rfl rfl (by exact (by decide : 4 < 6)) (by exact (by decide : 4 < 6)) rfl ?_
    refine to_ldea (row := [.int .i64 0, .slice a4 2 c4]) rfl rfl rfl rfl ?_
    refine to_alloc rfl (fun b5 => ?_)
    refine to_as rfl rfl ?_
    first | refine to_st rfl rfl rfl rfl ?_ | refine to_ste rfl rfl (by assumption) rfl rfl ?_
    refine to_nil ?_
    refine tn_code ?_
    refine t_seq ?_
    refine t_reg ?_
    refine to_mv rfl rfl ?_
    refine to_gtr rfl rfl rfl ?_
    refine to_fix (s := 21) (b' := true) rfl (rfl) ?_
    refine to_nil ?_
    refine tn_code ?_
    refine t_ifT rfl ?_
    refine t_regM [11, 12, 14] [.own b5 (isC [.int .i64 0, .slice a4 2 c4] 32), .own b3 (isC [.int .i64 pl, .slice ca (csA a0 a1 a2 a3 a4 a5 c0 c1 c2 c3 c4 c5).length cc, .slice a10 6 6] 80), .row a10 6 6 30 1 ((((List.replicate 6 [Value.slice none 0 0]).set 0 [.slice a34_1 (0 + 1) c34_1]).set 1 [.slice a34_2 (0 + 1) c34_2]).set 1 [.slice a34_3 ((0 + 1) + 1) c34_3])] rfl (by kernel_rfl) (by kernel_rfl) ?_
    refine tm_q ?e42 rfl ?q42 ?r42
    case q42 =>
      first | refine to_fa rfl rfl rfl (by simp only [Nat.reduceAdd]; rfl) rfl ?_ | refine to_fae rfl rfl rfl (by simp only [Nat.reduceAdd]; rfl) rfl ?_
      exact tmq_end
    refine tm_q ?e43 rfl ?q43 ?r43
    case q43 =>
      first | refine to_lds rfl rfl rfl ?_ | refine to_ldes rfl (by assumption) rfl rfl ?_
      exact tmq_end
    refine tm_q ?e44 rfl ?q44 ?r44
    case q44 =>
      first | refine to_fa rfl rfl rfl (by simp only [Nat.reduceAdd]; rfl) rfl ?_ | refine to_fae rfl rfl rfl (by simp only [Nat.reduceAdd]; rfl) rfl ?_
      exact tmq_end
    refine tm_q ?e45 rfl ?q45 ?r45
    case q45 =>
      first | refine to_lds rfl rfl rfl ?_ | refine to_ldes rfl (by assumption) rfl rfl ?_
      exact tmq_end
    refine tm_q ?e46 rfl ?q46 ?r46
    case q46 =>
      first | refine to_fa rfl rfl rfl (by simp only [Nat.reduceAdd]; rfl) rfl ?_ | refine to_fae rfl rfl rfl (by simp only [Nat.reduceAdd]; rfl) rfl ?_
      exact tmq_end
    refine tm_q ?e47 rfl ?q47 ?r47
    case q47 =>
      first | refine to_lds rfl rfl rfl ?_ | refine to_ldes rfl (by assumption) rfl rfl ?_
      exact tmq_end
    refine tm_q ?e48 rfl ?q48 ?r48
    case q48 =>
      first | refine to_fa rfl rfl rfl (by simp only [Nat.reduceAdd]; rfl) rfl ?_ | refine to_fae rfl rfl rfl (by simp only [Nat.reduceAdd]; rfl) rfl ?_
      exact tmq_end
    refine tm_q ?e49 rfl ?q49 ?r49
    case q49 =>
      first | refine to_lds rfl rfl rfl ?_ | refine to_ldes rfl (by assumption) rfl rfl ?_
      exact tmq_end
    refine tm_q ?e50 rfl ?q50 ?r50
    case q50 =>
      refine to_ix (k := 0) rfl rfl rfl (by exact (by decide : 0 < 6)) (by exact (by decide : 0 < 6)) rfl ?_
      exact tmq_end
    refine tm_q ?e51 rfl ?q51 ?r51
    case q51 =>
      refine to_ldes (row := [.slice a34_1 1 c34_1]) rfl rfl rfl rfl ?_
      exact tmq_end
    refine tm_q ?e52 rfl ?q52 ?r52
    case q52 =>
      refine to_mv rfl rfl ?_
      exact tmq_end
    refine tm_s rfl ?_ (fun _ h => by cases h) rfl
    refine to_bsl rfl rfl rfl rfl (fun a33 => ?_)
    refine tm_se rfl ?_
    refine tm_s rfl ?_ (fun _ h => by cases h) rfl
    refine to_app rfl rfl rfl (by simp [scals, scal]) (by decide) (by decide) (by decide) rfl (fun a34_4 c34_4 => ?_)
    refine tm_se rfl ?_
    refine tm_q ?e53 rfl ?q53 ?r53
    case q53 =>
      refine to_ix (k := 0) rfl rfl rfl (by exact (by decide : 0 < 6)) (by exact (by decide : 0 < 6)) rfl ?_
      exact tmq_end
    refine tm_s rfl ?_ (fun _ h => by cases h) rfl
    refine to_ste (row := [.slice a34_1 1 c34_1]) rfl rfl rfl rfl rfl ?_
    refine tm_sl (by kernel_rfl) rfl rfl ?_
    refine tn_blk ?_
    refine tn_code ?_
    refine t_reg ?_
    refine to_add rfl rfl (by decide) rfl ?_
    refine to_fixv (s := 36) (v' := .int .i64 5) rfl rfl ?_
    refine to_mv rfl rfl ?_
    refine to_nil ?_
    refine tn_unroll ?_
    refine t_seq ?_
    refine t_reg ?_
    refine to_lss rfl rfl rfl ?_
    refine to_fix (s := 16) (b' := true) rfl (rfl) ?_
    refine to_nil ?_
    refine tn_code ?_
    refine t_seq ?_
    refine t_ifT rfl ?_
    refine t_skip ?_
    refine tn_code ?_
    refine t_seq ?_
    refine t_blk ?_
    refine t_seq ?_
    refine t_reg ?_
    refine to_mv rfl rfl ?_
    refine to_ix (k := 5) rfl rfl rfl (by exact (by decide : 5 < 6)) (by exact (by decide : 5 < 6)) rfl ?_
    refine to_ldea (row := [.int .i64 4, .slice a5 2 c5]) rfl rfl rfl rfl ?_
    refine to_alloc rfl (fun b5 => ?_)
    refine to_as rfl rfl ?_
    first | refine to_st rfl rfl rfl rfl ?_ | refine to_ste rfl rfl (by assumption) rfl rfl ?_
    refine to_nil ?_
    refine tn_code ?_
    refine t_seq ?_
    refine t_reg ?_
    refine to_mv rfl rfl ?_
    refine to_gtr rfl rfl rfl ?_
    refine to_fix (s := 21) (b' := true) rfl (rfl) ?_
    refine to_nil ?_
    refine tn_code ?_
    refine t_ifT rfl ?_
    refine t_regM [11, 12, 14] [.own b5 (isC [.int .i64 4, .slice a5 2 c5] 32), .own b3 (isC [.int .i64 pl, .slice ca (csA a0 a1 a2 a3 a4 a5 c0 c1 c2 c3 c4 c5).length cc, .slice a10 6 6] 80), .row a10 6 6 30 1 (((((List.replicate 6 [Value.slice none 0 0]).set 0 [.slice a34_1 (0 + 1) c34_1]).set 1 [.slice a34_2 (0 + 1) c34_2]).set 1 [.slice a34_3 ((0 + 1) + 1) c34_3]).set 0 [.slice a34_4 ((0 + 1) + 1) c34_4])] rfl (by kernel_rfl) (by kernel_rfl) ?_
    refine tm_q ?e54 rfl ?q54 ?r54
    case q54 =>
      first | refine to_fa rfl rfl rfl (by simp only [Nat.reduceAdd]; rfl) rfl ?_ | refine to_fae rfl rfl rfl (by simp only [Nat.reduceAdd]; rfl) rfl ?_
      exact tmq_end
    refine tm_q ?e55 rfl ?q55 ?r55
    case q55 =>
      first | refine to_lds rfl rfl rfl ?_ | refine to_ldes rfl (by assumption) rfl rfl ?_
      exact tmq_end
    refine tm_q ?e56 rfl ?q56 ?r56
    case q56 =>
      first | refine to_fa rfl rfl rfl (by simp only [Nat.reduceAdd]; rfl) rfl ?_ | refine to_fae rfl rfl rfl (by simp only [Nat.reduceAdd]; rfl) rfl ?_
      exact tmq_end
    refine tm_q ?e57 rfl ?q57 ?r57
    case q57 =>
      first | refine to_lds rfl rfl rfl ?_ | refine to_ldes rfl (by assumption) rfl rfl ?_
      exact tmq_end
    refine tm_q ?e58 rfl ?q58 ?r58
    case q58 =>
      first | refine to_fa rfl rfl rfl (by simp only [Nat.reduceAdd]; rfl) rfl ?_ | refine to_fae rfl rfl rfl (by simp only [Nat.reduceAdd]; rfl) rfl ?_
      exact tmq_end
    refine tm_q ?e59 rfl ?q59 ?r59
    case q59 =>
      first | refine to_lds rfl rfl rfl ?_ | refine to_ldes rfl (by assumption) rfl rfl ?_
      exact tmq_end
    refine tm_q ?e60 rfl ?q60 ?r60
    case q60 =>
      first | refine to_fa rfl rfl rfl (by simp only [Nat.reduceAdd]; rfl) rfl ?_ | refine to_fae rfl rfl rfl (by simp only [Nat.reduceAdd]; rfl) rfl ?_
      exact tmq_end
    refine tm_q ?e61 rfl ?q61 ?r61
    case q61 =>
      first | refine to_lds rfl rfl rfl ?_ | refine to_ldes rfl (by assumption) rfl rfl ?_
      exact tmq_end
    refine tm_q ?e62 rfl ?q62 ?r62
    case q62 =>
      refine to_ix (k := 4) rfl rfl rfl (by exact (by decide : 4 < 6)) (by exact (by decide : 4 < 6)) rfl ?_
      exact tmq_end
    refine tm_q ?e63 rfl ?q63 ?r63
    case q63 =>
      refine to_ldes (row := [.slice none 0 0]) rfl rfl rfl rfl ?_
      exact tmq_end
    refine tm_q ?e64 rfl ?q64 ?r64
    case q64 =>
      refine to_mv rfl rfl ?_
      exact tmq_end
    refine tm_s rfl ?_ (fun _ h => by cases h) rfl
    refine to_bsl rfl rfl rfl rfl (fun a33 => ?_)
    refine tm_se rfl ?_
    refine tm_s rfl ?_ (fun _ h => by cases h) rfl
    refine to_nilrow 3 1 ?_
    refine to_app rfl rfl rfl (by simp [scals, scal]) (by decide) (by decide) (by decide) rfl (fun a34_5 c34_5 => ?_)
    refine tm_se rfl ?_
    refine tm_q ?e65 rfl ?q65 ?r65
    case q65 =>
      refine to_ix (k := 4) rfl rfl rfl (by exact (by decide : 4 < 6)) (by exact (by decide : 4 < 6)) rfl ?_
      exact tmq_end
    refine tm_s rfl ?_ (fun _ h => by cases h) rfl
    refine to_ste (row := [.slice none 0 0]) rfl rfl rfl rfl rfl ?_
    refine tm_sl (by kernel_rfl) rfl rfl ?_
    refine tn_blk ?_
    refine tn_code ?_
    refine t_reg ?_
    refine to_add rfl rfl (by decide) rfl ?_
    refine to_fixv (s := 36) (v' := .int .i64 6) rfl rfl ?_
    refine to_mv rfl rfl ?_
    refine to_nil ?_
    refine tn_unroll ?_
    refine t_seq ?_
    refine t_reg ?_
    refine to_lss rfl rfl rfl ?_
    refine to_fix (s := 16) (b' := false) rfl (rfl) ?_
    refine to_nil ?_
    refine tn_code ?_
    refine t_seq ?_
    refine t_ifF rfl ?_
    refine t_exit ?_
    refine tx_code ?_
    refine tx_inv ?_
    refine tx_blk ?_
    refine tn_code ?_
    refine t_seq ?_
    refine t_reg ?_
    first | refine to_lda rfl rfl rfl ?_ | refine to_ldea rfl (by assumption) rfl rfl ?_
    first | refine to_st rfl rfl rfl rfl ?_ | refine to_ste rfl rfl (by assumption) rfl rfl ?_
    refine to_nil ?_
    refine tn_code ?_
    refine t_ret1 rfl rfl (res_cellA rfl rfl) (fun w' s => ?_)
    refine ⟨[⟨[1, 4], a34_4, c34_4⟩, ⟨[2, 3], a34_3, c34_3⟩, ⟨[], none, 0⟩, ⟨[], none, 0⟩, ⟨[5], a34_5, c34_5⟩, ⟨[], none, 0⟩], a10, rfl, rfl, ro_row s, fun l hl => ?_⟩
    simp only [List.mem_cons, List.not_mem_nil, or_false] at hl
    rcases hl with rfl | rfl | rfl | rfl | rfl | rfl <;> (first | exact ro_row s | exact Ro.nil _ _ _ _)
  · skip
    refine tp_s rfl ?_ (fun _ h => by cases h) rfl
    refine to_alloc rfl (fun b3 => ?_)
    refine tp_se rfl ?_
    refine tp_s rfl ?_ (fun _ h => by cases h) rfl
    refine to_mks (k := 6) rfl rfl (by decide) (by decide) rfl (fun a10 => ?_)
    refine tp_se rfl ?_
    refine tp_q ?e66 rfl ?q66 ?r66
    case q66 =>
      refine to_bs rfl rfl ?_
      exact tpq_end
    refine tp_s rfl ?_ (fun _ h => by cases h) rfl
    first | refine to_st rfl rfl rfl rfl ?_ | refine to_ste rfl rfl (by assumption) rfl rfl ?_
    refine tp_se rfl ?_
    refine tp_nil ?_
    refine tn_code ?_
    refine t_seq ?_
    refine t_seq ?_
    refine t_reg ?_
    first | refine to_fa rfl rfl rfl (by simp only [Nat.reduceAdd]; rfl) rfl ?_ | refine to_fae rfl rfl rfl (by simp only [Nat.reduceAdd]; rfl) rfl ?_
    first | refine to_lds rfl rfl rfl ?_ | refine to_ldes rfl (by assumption) rfl rfl ?_
    refine to_lenS rfl rfl ?_
    refine to_mv rfl rfl ?_
    refine to_nil ?_
    refine tn_code ?_
    refine t_blk ?_
    refine t_unrollN 7 ?_
    refine t_seq ?_
    refine t_reg ?_
    refine to_lss rfl rfl rfl ?_
    refine to_fix (s := 16) (b' := true) rfl (rfl) ?_
    refine to_nil ?_
    refine tn_code ?_
    refine t_seq ?_
    refine t_ifT rfl ?_
    refine t_skip ?_
    refine tn_code ?_
    refine t_seq ?_
    refine t_blk ?_
    refine t_seq ?_
    refine t_reg ?_
    refine to_mv rfl rfl ?_
    refine to_ix (k := 0) rfl rfl rfl (by exact (by decide : 0 < 6)) (by exact (by decide : 0 < 6)) rfl ?_
    refine to_ldea (row := [.int .i64 0, .slice a0 2 c0]) rfl rfl rfl rfl ?_
    refine to_alloc rfl (fun b5 => ?_)
    refine to_as rfl rfl ?_
    first | refine to_st rfl rfl rfl rfl ?_ | refine to_ste rfl rfl (by assumption) rfl rfl ?_
    refine to_nil ?_
    refine tn_code ?_
    refine t_seq ?_
    refine t_reg ?_
    refine to_mv rfl rfl ?_
    refine to_gtr rfl rfl rfl ?_
    refine to_fix (s := 21) (b' := false) rfl (rfl) ?_
    refine to_nil ?_
    refine tn_code ?_
    refine t_ifF rfl ?_
    refine t_skip ?_
    refine tn_blk ?_
    refine tn_code ?_
    refine t_reg ?_
    refine to_add rfl rfl (by decide) rfl ?_
    refine to_fixv (s := 36) (v' := .int .i64 1) rfl rfl ?_
    refine to_mv rfl rfl ?_
    refine to_nil ?_
    refine tn_unroll ?_
    refine t_seq ?_
    refine t_reg ?_
    refine to_lss rfl rfl rfl ?_
    refine to_fix (s := 16) (b' := true) rfl (rfl) ?_
    refine to_nil ?_
    refine tn_code ?_
    refine t_seq ?_
    refine t_ifT rfl ?_
    refine t_skip ?_
    refine tn_code ?_
    refine t_seq ?_
    refine t_blk ?_
    refine t_seq ?_
    refine t_reg ?_
    refine to_mv rfl rfl ?_
    refine to_ix (k := 1) rfl rfl rfl (by exact (by decide : 1 < 6)) (by exact (by decide : 1 < 6)) rfl ?_
    refine to_ldea (row := [.int .i64 0, .slice a1 2 c1]) rfl rfl rfl rfl ?_
    refine to_alloc rfl (fun b5 => ?_)
    refine to_as rfl rfl ?_
    first | refine to_st rfl rfl rfl rfl ?_ | refine to_ste rfl rfl (by assumption) rfl rfl ?_
    refine to_nil ?_
    refine tn_code ?_
    refine t_seq ?_
    refine t_reg ?_
    refine to_mv rfl rfl ?_
    refine to_gtr rfl rfl rfl ?_
    refine to_fix (s := 21) (b' := true) rfl (rfl) ?_
    refine to_nil ?_
    refine tn_code ?_
    refine t_ifT rfl ?_
    refine t_regM [11, 12, 14] [.own b5 (isC [.int .i64 0, .slice a1 2 c1] 32), .own b3 (isC [.int .i64 pl, .slice ca (csA a0 a1 a2 a3 a4 a5 c0 c1 c2 c3 c4 c5).length cc, .slice a10 6 6] 80), .row a10 6 6 30 1 (List.replicate 6 [Value.slice none 0 0])] rfl (by kernel_rfl) (by kernel_rfl) ?_
    refine tm_q ?e67 rfl ?q67 ?r67
    case q67 =>
      first | refine to_fa rfl rfl rfl (by simp only [Nat.reduceAdd]; rfl) rfl ?_ | refine to_fae rfl rfl rfl (by simp only [Nat.reduceAdd]; rfl) rfl ?_
      exact tmq_end
    refine tm_q ?e68 rfl ?q68 ?r68
    case q68 =>
      first | refine to_lds rfl rfl rfl ?_ | refine to_ldes rfl (by assumption) rfl rfl ?_
      exact tmq_end
    refine tm_q ?e69 rfl ?q69 ?r69
    case q69 =>
      first | refine to_fa rfl rfl rfl (by simp only [Nat.reduceAdd]; rfl) rfl ?_ | refine to_fae rfl rfl rfl (by simp only [Nat.reduceAdd]; rfl) rfl ?_
      exact tmq_end
    refine tm_q ?e70 rfl ?q70 ?r70
    case q70 =>
      first | refine to_lds rfl rfl rfl ?_ | refine to_ldes rfl (by assumption) rfl rfl ?_
      exact tmq_end
    refine tm_q ?e71 rfl ?q71 ?r71
    case q71 =>
      first | refine to_fa rfl rfl rfl (by simp only [Nat.reduceAdd]; rfl) rfl ?_ | refine to_fae rfl rfl rfl (by simp only [Nat.reduceAdd]; rfl) rfl ?_
      exact tmq_end
    refine tm_q ?e72 rfl ?q72 ?r72
    case q72 =>
      first | refine to_lds rfl rfl rfl ?_ | refine to_ldes rfl (by assumption) rfl rfl ?_
      exact tmq_end
    refine tm_q ?e73 rfl ?q73 ?r73
    case q73 =>
      first | refine to_fa rfl rfl rfl (by simp only [Nat.reduceAdd]; rfl) rfl ?_ | refine to_fae rfl rfl rfl (by simp only [Nat.reduceAdd]; rfl) rfl ?_
      exact tmq_end
    refine tm_q ?e74 rfl ?q74 ?r74
    case q74 =>
      first | refine to_lds rfl rfl rfl ?_ | refine to_ldes rfl (by assumption) rfl rfl ?_
      exact tmq_end
    refine tm_q ?e75 rfl ?q75 ?r75
    case q75 =>
      refine to_ix (k := 0) rfl rfl rfl (by exact (by decide : 0 < 6)) (by exact (by decide : 0 < 6)) rfl ?_
      exact tmq_end
    refine tm_q ?e76 rfl ?q76 ?r76
    case q76 =>
      refine to_ldes (row := [.slice none 0 0]) rfl rfl rfl rfl ?_
      exact tmq_end
    refine tm_q ?e77 rfl ?q77 ?r77
    case q77 =>
      refine to_mv rfl rfl ?_
      exact tmq_end
    refine tm_s rfl ?_ (fun _ h => by cases h) rfl
    refine to_bsl rfl rfl rfl rfl (fun a33 => ?_)
    refine tm_se rfl ?_
    refine tm_s rfl ?_ (fun _ h => by cases h) rfl
    refine to_nilrow 3 1 ?_
    refine to_app rfl rfl rfl (by simp [scals, scal]) (by decide) (by decide) (by decide) rfl (fun a34_1 c34_1 => ?_)
    refine tm_se rfl ?_
    refine tm_q ?e78 rfl ?q78 ?r78
    case q78 =>
      refine to_ix (k := 0) rfl rfl rfl (by exact (by decide : 0 < 6)) (by exact (by decide : 0 < 6)) rfl ?_
      exact tmq_end
    refine tm_s rfl ?_ (fun _ h => by cases h) rfl
    refine to_ste (row := [.slice none 0 0]) rfl rfl rfl rfl rfl ?_
    refine tm_sl (by kernel_rfl) rfl rfl ?_
    refine tn_blk ?_
    refine tn_code ?_
    refine t_reg ?_
    refine to_add rfl rfl (by decide) rfl ?_
    refine to_fixv (s := 36) (v' := .int .i64 2) rfl rfl ?_
    refine to_mv rfl rfl ?_
    refine to_nil ?_
    refine tn_unroll ?_
    refine t_seq ?_
    refine t_reg ?_
    refine to_lss rfl rfl rfl ?_
    refine to_fix (s := 16) (b' := true) rfl (rfl) ?_
    refine to_nil ?_
    refine tn_code ?_
    refine t_seq ?_
    refine t_ifT rfl ?_
    refine t_skip ?_
    refine tn_code ?_
    refine t_seq ?_
    refine t_blk ?_
    refine t_seq ?_
    refine t_reg ?_
    refine to_mv rfl rfl ?_
    refine to_ix (k := 2) rfl rfl rfl (by exact (by decide : 2 < 6)) (by exact (by decide : 2 < 6)) rfl ?_
    refine to_ldea (row := [.int .i64 1, .slice a2 2 c2]) rfl rfl rfl rfl ?_
    refine to_alloc rfl (fun b5 => ?_)
    refine to_as rfl rfl ?_
    first | refine to_st rfl rfl rfl rfl ?_ | refine to_ste rfl rfl (by assumption) rfl rfl ?_
    refine to_nil ?_
    refine tn_code ?_
    refine t_seq ?_
    refine t_reg ?_
    refine to_mv rfl rfl ?_
    refine to_gtr rfl rfl rfl ?_
    refine to_fix (s := 21) (b' := true) rfl (rfl) ?_
    refine to_nil ?_
    refine tn_code ?_
    refine t_ifT rfl ?_
    refine t_regM [11, 12, 14] [.own b5 (isC [.int .i64 1, .slice a2 2 c2] 32), .own b3 (isC [.int .i64 pl, .slice ca (csA a0 a1 a2 a3 a4 a5 c0 c1 c2 c3 c4 c5).length cc, .slice a10 6 6] 80), .row a10 6 6 30 1 ((List.replicate 6 [Value.slice none 0 0]).set 0 [.slice a34_1 (0 + 1) c34_1])] rfl (by kernel_rfl) (by kernel_rfl) ?_
    refine tm_q ?e79 rfl ?q79 ?r79
    case q79 =>
      first | refine to_fa rfl rfl rfl (by simp only [Nat.reduceAdd]; rfl) rfl ?_ | refine to_fae rfl rfl rfl (by simp only [Nat.reduceAdd]; rfl) rfl ?_
      exact tmq_end
    refine tm_q ?e80 rfl ?q80 ?r80
    case q80 =>
      first | refine to_lds rfl rfl rfl ?_ | refine to_ldes rfl (by assumption) rfl rfl ?_
      exact tmq_end
    refine tm_q ?e81 rfl ?q81 ?r81
    case q81 =>
      first | refine to_fa rfl rfl rfl (by simp only [Nat.reduceAdd]; rfl) rfl ?_ | refine to_fae rfl rfl rfl (by simp only [Nat.reduceAdd]; rfl) rfl ?_
      exact tmq_end
    refine tm_q ?e82 rfl ?q82 ?r82
    case q82 =>
      first | refine to_lds rfl rfl rfl ?_ | refine to_ldes rfl (by assumption) rfl rfl ?_
      exact tmq_end
    refine tm_q ?e83 rfl ?q83 ?r83
    case q83 =>
      first | refine to_fa rfl rfl rfl (by simp only [Nat.reduceAdd]; rfl) rfl ?_ | refine to_fae rfl rfl rfl (by simp only [Nat.reduceAdd]; rfl) rfl ?_
      exact tmq_end
    refine tm_q ?e84 rfl ?q84 ?r84
    case q84 =>
      first | refine to_lds rfl rfl rfl ?_ | refine to_ldes rfl (by assumption) rfl rfl ?_
      exact tmq_end
    refine tm_q ?e85 rfl ?q85 ?r85
    case q85 =>
      first | refine to_fa rfl rfl rfl (by simp only [Nat.reduceAdd]; rfl) rfl ?_ | refine to_fae rfl rfl rfl (by simp only [Nat.reduceAdd]; rfl) rfl ?_
      exact tmq_end
    refine tm_q ?e86 rfl ?q86 ?r86
    case q86 =>
      first | refine to_lds rfl rfl rfl ?_ | refine to_ldes rfl (by assumption) rfl rfl ?_
      exact tmq_end
    refine tm_q ?e87 rfl ?q87 ?r87
    case q87 =>
      refine to_ix (k := 1) rfl rfl rfl (by exact (by decide : 1 < 6)) (by exact (by decide : 1 < 6)) rfl ?_
      exact tmq_end
    refine tm_q ?e88 rfl ?q88 ?r88
    case q88 =>
      refine to_ldes (row := [.slice none 0 0]) rfl rfl rfl rfl ?_
      exact tmq_end
    refine tm_q ?e89 rfl ?q89 ?r89
    case q89 =>
      refine to_mv rfl rfl ?_
      exact tmq_end
    refine tm_s rfl ?_ (fun _ h => by cases h) rfl
    refine to_bsl rfl rfl rfl rfl (fun a33 => ?_)
    refine tm_se rfl ?_
    refine tm_s rfl ?_ (fun _ h => by cases h) rfl
    refine to_nilrow 3 1 ?_
    refine to_app rfl rfl rfl (by simp [scals, scal]) (by decide) (by decide) (by decide) rfl (fun a34_2 c34_2 => ?_)
    refine tm_se rfl ?_
    refine tm_q ?e90 rfl ?q90 ?r90
    case q90 =>
      refine to_ix (k := 1) rfl rfl rfl (by exact (by decide : 1 < 6)) (by exact (by decide : 1 < 6)) rfl ?_
      exact tmq_end
    refine tm_s rfl ?_ (fun _ h => by cases h) rfl
    refine to_ste (row := [.slice none 0 0]) rfl rfl rfl rfl rfl ?_
    refine tm_sl (by kernel_rfl) rfl rfl ?_
    refine tn_blk ?_
    refine tn_code ?_
    refine t_reg ?_
    refine to_add rfl rfl (by decide) rfl ?_
    refine to_fixv (s := 36) (v' := .int .i64 3) rfl rfl ?_
    refine to_mv rfl rfl ?_
    refine to_nil ?_
    refine tn_unroll ?_
    refine t_seq ?_
    refine t_reg ?_
    refine to_lss rfl rfl rfl ?_
    refine to_fix (s := 16) (b' := true) rfl (rfl) ?_
    refine to_nil ?_
    refine tn_code ?_
    refine t_seq ?_
    refine t_ifT rfl ?_
    refine t_skip ?_
    refine tn_code ?_
    refine t_seq ?_
    refine t_blk ?_
    refine t_seq ?_
    refine t_reg ?_
    refine to_mv rfl rfl ?_
    refine to_ix (k := 3) rfl rfl rfl (by exact (by decide : 3 < 6)) (by exact (by decide : 3 < 6)) rfl ?_
    refine to_ldea (row := [.int .i64 1, .slice a3 2 c3]) rfl rfl rfl rfl ?_
    refine to_alloc rfl (fun b5 => ?_)
    refine to_as rfl rfl ?_
    first | refine to_st rfl rfl rfl rfl ?_ | refine to_ste rfl rfl (by assumption) rfl rfl ?_
    refine to_nil ?_
    refine tn_code ?_
    refine t_seq ?_
    refine t_reg ?_
    refine to_mv rfl rfl ?_
    refine to_gtr rfl rfl rfl ?_
    refine to_fix (s := 21) (b' := true) rfl (rfl) ?_
    refine to_nil ?_
    refine tn_code ?_
    refine t_ifT rfl ?_
    refine t_regM [11, 12, 14] [.own b5 (isC [.int .i64 1, .slice a3 2 c3] 32), .own b3 (isC [.int .i64 pl, .slice ca (csA a0 a1 a2 a3 a4 a5 c0 c1 c2 c3 c4 c5).length cc, .slice a10 6 6] 80), .row a10 6 6 30 1 (((List.replicate 6 [Value.slice none 0 0]).set 0 [.slice a34_1 (0 + 1) c34_1]).set 1 [.slice a34_2 (0 + 1) c34_2])] rfl (by kernel_rfl) (by kernel_rfl) ?_
    refine tm_q ?e91 rfl ?q91 ?r91
    case q91 =>
      first | refine to_fa rfl rfl rfl (by simp only [Nat.reduceAdd]; rfl) rfl ?_ | refine to_fae rfl rfl rfl (by simp only [Nat.reduceAdd]; rfl) rfl ?_
      exact tmq_end
    refine tm_q ?e92 rfl ?q92 ?r92
    case q92 =>
      first | refine to_lds rfl rfl rfl ?_ | refine to_ldes rfl (by assumption) rfl rfl ?_
      exact tmq_end
    refine tm_q ?e93 rfl ?q93 ?r93
    case q93 =>
      first | refine to_fa rfl rfl rfl (by simp only [Nat.reduceAdd]; rfl) rfl ?_ | refine to_fae rfl rfl rfl (by simp only [Nat.reduceAdd]; rfl) rfl ?_
      exact tmq_end
    refine tm_q ?e94 rfl ?q94 ?r94
    case q94 =>
      first | refine to_lds rfl rfl rfl ?_ | refine to_ldes rfl (by assumption) rfl rfl ?_
      exact tmq_end
    refine tm_q ?e95 rfl ?q95 ?r95
    case q95 =>
      first | refine to_fa rfl rfl rfl (by simp only [Nat.reduceAdd]; rfl) rfl ?_ | refine to_fae rfl rfl rfl (by simp only [Nat.reduceAdd]; rfl) rfl ?_
      exact tmq_end
    refine tm_q ?e96 rfl ?q96 ?r96
    case q96 =>
      first | refine to_lds rfl rfl rfl ?_ | refine to_ldes rfl (by assumption) rfl rfl ?_
      exact tmq_end
    refine tm_q ?e97 rfl ?q97 ?r97
    case q97 =>
      first | refine to_fa rfl rfl rfl (by simp only [Nat.reduceAdd]; rfl) rfl ?_ | refine to_fae rfl rfl rfl (by simp only [Nat.reduceAdd]; rfl) rfl ?_
      exact tmq_end
    refine tm_q ?e98 rfl ?q98 ?r98
    case q98 =>
      first | refine to_lds rfl rfl rfl ?_ | refine to_ldes rfl (by assumption) rfl rfl ?_
      exact tmq_end
    refine tm_q ?e99 rfl ?q99 ?r99
    case q99 =>
      refine to_ix (k := 1) rfl rfl rfl (by exact (by decide : 1 < 6)) (by exact (by decide : 1 < 6)) rfl ?_
      exact tmq_end
    refine tm_q ?e100 rfl ?q100 ?r100
    case q100 =>
      refine to_ldes (row := [.slice a34_2 1 c34_2]) rfl rfl rfl rfl ?_
      exact tmq_end
    refine tm_q ?e101 rfl ?q101 ?r101
    case q101 =>
      refine to_mv rfl rfl ?_
      exact tmq_end
    refine tm_s rfl ?_ (fun _ h => by cases h) rfl
    refine to_bsl rfl rfl rfl rfl (fun a33 => ?_)
    refine tm_se rfl ?_
    refine tm_s rfl ?_ (fun _ h => by cases h) rfl
    refine to_app rfl rfl rfl (by simp [scals, scal]) (by decide) (by decide) (by decide) rfl (fun a34_3 c34_3 => ?_)
    refine tm_se rfl ?_
    refine tm_q ?e102 rfl ?q102 ?r102
    case q102 =>
      refine to_ix (k := 1) rfl rfl rfl (by exact (by decide : 1 < 6)) (by exact (by decide : 1 < 6)) rfl ?_
      exact tmq_end
    refine tm_s rfl ?_ (fun _ h => by cases h) rfl
    refine to_ste (row := [.slice a34_2 1 c34_2]) rfl rfl rfl rfl rfl ?_
    refine tm_sl (by kernel_rfl) rfl rfl ?_
    refine tn_blk ?_
    refine tn_code ?_
    refine t_reg ?_
    refine to_add rfl rfl (by decide) rfl ?_
    refine to_fixv (s := 36) (v' := .int .i64 4) rfl rfl ?_
    refine to_mv rfl rfl ?_
    refine to_nil ?_
    refine tn_unroll ?_
    refine t_seq ?_
    refine t_reg ?_
    refine to_lss rfl rfl rfl ?_
    refine to_fix (s := 16) (b' := true) rfl (rfl) ?_
    refine to_nil ?_
    refine tn_code ?_
    refine t_seq ?_
    refine t_ifT rfl ?_
    refine t_skip ?_
    refine tn_code ?_
    refine t_seq ?_
    refine t_blk ?_
    refine t_seq ?_
    refine t_reg ?_
    refine to_mv rfl rfl ?_
    refine to_ix (k := 4) rfl rfl rfl (by exact (by decide : 4 < 6)) (by exact (by decide : 4 < 6)) rfl ?_
    refine to_ldea (row := [.int .i64 0, .slice a4 2 c4]) rfl rfl rfl rfl ?_
    refine to_alloc rfl (fun b5 => ?_)
    refine to_as rfl rfl ?_
    first | refine to_st rfl rfl rfl rfl ?_ | refine to_ste rfl rfl (by assumption) rfl rfl ?_
    refine to_nil ?_
    refine tn_code ?_
    refine t_seq ?_
    refine t_reg ?_
    refine to_mv rfl rfl ?_
    refine to_gtr rfl rfl rfl ?_
    refine to_fix (s := 21) (b' := true) rfl (rfl) ?_
    refine to_nil ?_
    refine tn_code ?_
    refine t_ifT rfl ?_
    refine t_regM [11, 12, 14] [.own b5 (isC [.int .i64 0, .slice a4 2 c4] 32), .own b3 (isC [.int .i64 pl, .slice ca (csA a0 a1 a2 a3 a4 a5 c0 c1 c2 c3 c4 c5).length cc, .slice a10 6 6] 80), .row a10 6 6 30 1 ((((List.replicate 6 [Value.slice none 0 0]).set 0 [.slice a34_1 (0 + 1) c34_1]).set 1 [.slice a34_2 (0 + 1) c34_2]).set 1 [.slice a34_3 ((0 + 1) + 1) c34_3])] rfl (by kernel_rfl) (by kernel_rfl) ?_
    refine tm_q ?e103 rfl ?q103 ?r103
    case q103 =>
      first | refine to_fa rfl rfl rfl (by simp only [Nat.reduceAdd]; rfl) rfl ?_ | refine to_fae rfl rfl rfl (by simp only [Nat.reduceAdd]; rfl) rfl ?_
      exact tmq_end
    refine tm_q ?e104 rfl ?q104 ?r104
    case q104 =>
      first | refine to_lds rfl rfl rfl ?_ | refine to_ldes rfl (by assumption) rfl rfl ?_
      exact tmq_end
    refine tm_q ?e105 rfl ?q105 ?r105
    case q105 =>
      first | refine to_fa rfl rfl rfl (by simp only [Nat.reduceAdd]; rfl) rfl ?_ | refine to_fae rfl rfl rfl (by simp only [Nat.reduceAdd]; rfl) rfl ?_
      exact tmq_end
    refine tm_q ?e106 rfl ?q106 ?r106
    case q106 =>
      first | refine to_lds rfl rfl rfl ?_ | refine to_ldes rfl (by assumption) rfl rfl ?_
      exact tmq_end
    refine tm_q ?e107 rfl ?q107 ?r107
    case q107 =>
      first | refine to_fa rfl rfl rfl (by simp only [Nat.reduceAdd]; rfl) rfl ?_ | refine to_fae rfl rfl rfl (by simp only [Nat.reduceAdd]; rfl) rfl ?_
      exact tmq_end
    refine tm_q ?e108 rfl ?q108 ?r108
    case q108 =>
      first | refine to_lds rfl rfl rfl ?_ | refine to_ldes rfl (by assumption) rfl rfl ?_
      exact tmq_end
    refine tm_q ?e109 rfl ?q109 ?r109
    case q109 =>
      first | refine to_fa rfl rfl rfl (by simp only [Nat.reduceAdd]; rfl) rfl ?_ | refine to_fae rfl rfl rfl (by simp only [Nat.reduceAdd]; rfl) rfl ?_
      exact tmq_end
    refine tm_q ?e110 rfl ?q110 ?r110
    case q110 =>
      first | refine to_lds rfl rfl rfl ?_ | refine to_ldes rfl (by assumption) rfl rfl ?_
      exact tmq_end
    refine tm_q ?e111 rfl ?q111 ?r111
    case q111 =>
      refine to_ix (k := 0) rfl rfl rfl (by exact (by decide : 0 < 6)) (by exact (by decide : 0 < 6)) rfl ?_
      exact tmq_end
    refine tm_q ?e112 rfl ?q112 ?r112
    case q112 =>
      refine to_ldes (row := [.slice a34_1 1 c34_1]) rfl rfl rfl rfl ?_
      exact tmq_end
    refine tm_q ?e113 rfl ?q113 ?r113
    case q113 =>
      refine to_mv rfl rfl ?_
      exact tmq_end
    refine tm_s rfl ?_ (fun _ h => by cases h) rfl
    refine to_bsl rfl rfl rfl rfl (fun a33 => ?_)
    refine tm_se rfl ?_
    refine tm_s rfl ?_ (fun _ h => by cases h) rfl
    refine to_app rfl rfl rfl (by simp [scals, scal]) (by decide) (by decide) (by decide) rfl (fun a34_4 c34_4 => ?_)
    refine tm_se rfl ?_
    refine tm_q ?e114 rfl ?q114 ?r114
    case q114 =>
      refine to_ix (k := 0) rfl rfl rfl (by exact (by decide : 0 < 6)) (by exact (by decide : 0 < 6)) rfl ?_
      exact tmq_end
    refine tm_s rfl ?_ (fun _ h => by cases h) rfl
    refine to_ste (row := [.slice a34_1 1 c34_1]) rfl rfl rfl rfl rfl ?_
    refine tm_sl (by kernel_rfl) rfl rfl ?_
    refine tn_blk ?_
    refine tn_code ?_
    refine t_reg ?_
    refine to_add rfl rfl (by decide) rfl ?_
    refine to_fixv (s := 36) (v' := .int .i64 5) rfl rfl ?_
    refine to_mv rfl rfl ?_
    refine to_nil ?_
    refine tn_unroll ?_
    refine t_seq ?_
    refine t_reg ?_
    refine to_lss rfl rfl rfl ?_
    refine to_fix (s := 16) (b' := true) rfl (rfl) ?_
    refine to_nil ?_
    refine tn_code ?_
    refine t_seq ?_
    refine t_ifT rfl ?_
    refine t_skip ?_
    refine tn_code ?_
    refine t_seq ?_
    refine t_blk ?_
    refine t_seq ?_
    refine t_reg ?_
    refine to_mv rfl rfl ?_
    refine to_ix (k := 5) rfl rfl rfl (by exact (by decide : 5 < 6)) (by exact (by decide : 5 < 6)) rfl ?_
    refine to_ldea (row := [.int .i64 4, .slice a5 2 c5]) rfl rfl rfl rfl ?_
    refine to_alloc rfl (fun b5 => ?_)
    refine to_as rfl rfl ?_
    first | refine to_st rfl rfl rfl rfl ?_ | refine to_ste rfl rfl (by assumption) rfl rfl ?_
    refine to_nil ?_
    refine tn_code ?_
    refine t_seq ?_
    refine t_reg ?_
    refine to_mv rfl rfl ?_
    refine to_gtr rfl rfl rfl ?_
    refine to_fix (s := 21) (b' := true) rfl (rfl) ?_
    refine to_nil ?_
    refine tn_code ?_
    refine t_ifT rfl ?_
    refine t_regM [11, 12, 14] [.own b5 (isC [.int .i64 4, .slice a5 2 c5] 32), .own b3 (isC [.int .i64 pl, .slice ca (csA a0 a1 a2 a3 a4 a5 c0 c1 c2 c3 c4 c5).length cc, .slice a10 6 6] 80), .row a10 6 6 30 1 (((((List.replicate 6 [Value.slice none 0 0]).set 0 [.slice a34_1 (0 + 1) c34_1]).set 1 [.slice a34_2 (0 + 1) c34_2]).set 1 [.slice a34_3 ((0 + 1) + 1) c34_3]).set 0 [.slice a34_4 ((0 + 1) + 1) c34_4])] rfl (by kernel_rfl) (by kernel_rfl) ?_
    refine tm_q ?e115 rfl ?q115 ?r115
    case q115 =>
      first | refine to_fa rfl rfl rfl (by simp only [Nat.reduceAdd]; rfl) rfl ?_ | refine to_fae rfl rfl rfl (by simp only [Nat.reduceAdd]; rfl) rfl ?_
      exact tmq_end
    refine tm_q ?e116 rfl ?q116 ?r116
    case q116 =>
      first | refine to_lds rfl rfl rfl ?_ | refine to_ldes rfl (by assumption) rfl rfl ?_
      exact tmq_end
    refine tm_q ?e117 rfl ?q117 ?r117
    case q117 =>
      first | refine to_fa rfl rfl rfl (by simp only [Nat.reduceAdd]; rfl) rfl ?_ | refine to_fae rfl rfl rfl (by simp only [Nat.reduceAdd]; rfl) rfl ?_
      exact tmq_end
    refine tm_q ?e118 rfl ?q118 ?r118
    case q118 =>
      first | refine to_lds rfl rfl rfl ?_ | refine to_ldes rfl (by assumption) rfl rfl ?_
      exact tmq_end
    refine tm_q ?e119 rfl ?q119 ?r119
    case q119 =>
      first | refine to_fa rfl rfl rfl (by simp only [Nat.reduceAdd]; rfl) rfl ?_ | refine to_fae rfl rfl rfl (by simp only [Nat.reduceAdd]; rfl) rfl ?_
      exact tmq_end
    refine tm_q ?e120 rfl ?q120 ?r120
    case q120 =>
      first | refine to_lds rfl rfl rfl ?_ | refine to_ldes rfl (by assumption) rfl rfl ?_
      exact tmq_end
    refine tm_q ?e121 rfl ?q121 ?r121
    case q121 =>
      first | refine to_fa rfl rfl rfl (by simp only [Nat.reduceAdd]; rfl) rfl ?_ | refine to_fae rfl rfl rfl (by simp only [Nat.reduceAdd]; rfl) rfl ?_
      exact tmq_end
    refine tm_q ?e122 rfl ?q122 ?r122
    case q122 =>
      first | refine to_lds rfl rfl rfl ?_ | refine to_ldes rfl (by assumption) rfl rfl ?_
      exact tmq_end
    refine tm_q ?e123 rfl ?q123 ?r123
    case q123 =>
      refine to_ix (k := 4) rfl rfl rfl (by exact (by decide : 4 < 6)) (by exact (by decide : 4 < 6)) rfl ?_
      exact tmq_end
    refine tm_q ?e124 rfl ?q124 ?r124
    case q124 =>
      refine to_ldes (row := [.slice none 0 0]) rfl rfl rfl rfl ?_
      exact tmq_end
    refine tm_q ?e125 rfl ?q125 ?r125
    case q125 =>
      refine to_mv rfl rfl ?_
      exact tmq_end
    refine tm_s rfl ?_ (fun _ h => by cases h) rfl
    refine to_bsl rfl rfl rfl rfl (fun a33 => ?_)
    refine tm_se rfl ?_
    refine tm_s rfl ?_ (fun _ h => by cases h) rfl
    refine to_nilrow 3 1 ?_
    refine to_app rfl rfl rfl (by simp [scals, scal]) (by decide) (by decide) (by decide) rfl (fun a34_5 c34_5 => ?_)
    refine tm_se rfl ?_
    refine tm_q ?e126 rfl ?q126 ?r126
    case q126 =>
      refine to_ix (k := 4) rfl rfl rfl (by exact (by decide : 4 < 6)) (by exact (by decide : 4 < 6)) rfl ?_
      exact tmq_end
    refine tm_s rfl ?_ (fun _ h => by cases h) rfl
    refine to_ste (row := [.slice none 0 0]) rfl rfl rfl rfl rfl ?_
    refine tm_sl (by kernel_rfl) rfl rfl ?_
    refine tn_blk ?_
    refine tn_code ?_
    refine t_reg ?_
    refine to_add rfl rfl (by decide) rfl ?_
    refine to_fixv (s := 36) (v' := .int .i64 6) rfl rfl ?_
    refine to_mv rfl rfl ?_
    refine to_nil ?_
    refine tn_unroll ?_
    refine t_seq ?_
    refine t_reg ?_
    refine to_lss rfl rfl rfl ?_
    refine to_fix (s := 16) (b' := false) rfl (rfl) ?_
    refine to_nil ?_
    refine tn_code ?_
    refine t_seq ?_
    refine t_ifF rfl ?_
    refine t_exit ?_
    refine tx_code ?_
    refine tx_inv ?_
    refine tx_blk ?_
    refine tn_code ?_
    refine t_seq ?_
    refine t_reg ?_
    first | refine to_lda rfl rfl rfl ?_ | refine to_ldea rfl (by assumption) rfl rfl ?_
    first | refine to_st rfl rfl rfl rfl ?_ | refine to_ste rfl rfl (by assumption) rfl rfl ?_
    refine to_nil ?_
    refine tn_code ?_
    refine t_ret1 rfl rfl (res_cellA rfl rfl) (fun w' s => ?_)
    refine ⟨[⟨[1, 4], a34_4, c34_4⟩, ⟨[2, 3], a34_3, c34_3⟩, ⟨[], none, 0⟩, ⟨[], none, 0⟩, ⟨[5], a34_5, c34_5⟩, ⟨[], none, 0⟩], a10, rfl, rfl, ro_row s, fun l hl => ?_⟩
    simp only [List.mem_cons, List.not_mem_nil, or_false] at hl
    rcases hl with rfl | rfl | rfl | rfl | rfl | rfl <;> (first | exact ro_row s | exact Ro.nil _ _ _ _)

end Go.Proofs


namespace Go.Proofs
open Go Go.Sx Go.RowKit

def tabA : Nat → List (List Int)
  | 0 => [[1000, 1000, 1000, 1000, 1, 1000, 1000, 1000, 1000, 1000], [2, 2, 2, 2, 0, 2, 2, 2, 2, 2], [1000, 1000, 1000, 1000, 0, 1000, 1000, 1000, 1000, 1000], [1000, 1000, 1000, 1000, 0, 1000, 1000, 1000, 1000, 1000], [1, 1, 1, 1, 1, 1, 1, 1, 0, 1], [1000, 1000, 1000, 1000, 1000, 1000, 1000, 1000, 0, 1000]]
  | _ => [[1000, 1000, 1000, 1000, 1000, 1000, 1000, 1, 1000, 1000], [2, 0, 2, 2, 2, 2, 2, 2, 2, 2], [1000, 0, 1000, 1000, 1000, 1000, 1000, 1000, 1000, 1000], [1000, 0, 1000, 1000, 1000, 1000, 1000, 1000, 1000, 1000], [1000, 1000, 1000, 1000, 1000, 1000, 1000, 0, 1000, 1000], [1000, 1000, 1000, 1000, 1000, 1000, 1000, 0, 1000, 1000]]
def LA (q : Nat) (a b : Int) : Int := if a < 0 ∨ b < 0 then 0 else ((tabA q).getD a.toNat []).getD b.toNat 0
theorem getD_all {α : Type} {p : α → Prop} {d : α} (hd : p d) : ∀ {xs : List α} (_ : ∀ x ∈ xs, p x) (i : Nat), p (xs.getD i d)
  | [], _, i => by simpa [List.getD] using hd
  | x :: xs, h, 0 => by simpa [List.getD] using h x (List.mem_cons_self ..)
  | x :: xs, h, i + 1 => by
    have := getD_all hd (xs := xs) (fun y hy => h y (List.mem_cons_of_mem _ hy)) i
    simpa [List.getD] using this
theorem tabA_b : ∀ q, q < 2 → ∀ r ∈ tabA q, ∀ x ∈ r, 0 ≤ x ∧ x ≤ 1000 := by decide
theorem LA_b {q : Nat} (hq : q < 2) (a b : Int) : 0 ≤ LA q a b ∧ LA q a b ≤ 1000 := by
  simp only [LA]
  split
  · decide
  · refine getD_all (p := fun x : Int => 0 ≤ x ∧ x ≤ 1000) (by decide) ?_ _
    exact getD_all (p := fun r : List Int => ∀ x ∈ r, 0 ≤ x ∧ x ≤ 1000) (fun x hx => by cases hx) (tabA_b q hq) _
abbrev RA (cs : List Cp) (ca : Option Addr) (cc q : Nat) (ch : List Li) (ma : Option Addr) (r : Nat) : Rdg := ⟨2, cs, ca, cc, ch, ma, 6, q, r, LA q⟩
theorem ch6 {ch : List Li} (h : ch.map (·.xs) = chA) : ∃ b0 b1 b2 b3 b4 b5 k0 k1 k2 k3 k4 k5, ch = [⟨[1, 4], b0, k0⟩, ⟨[2, 3], b1, k1⟩, ⟨[], b2, k2⟩, ⟨[], b3, k3⟩, ⟨[5], b4, k4⟩, ⟨[], b5, k5⟩] := by
  obtain _ | ⟨⟨x0, b0, k0⟩, _ | ⟨⟨x1, b1, k1⟩, _ | ⟨⟨x2, b2, k2⟩, _ | ⟨⟨x3, b3, k3⟩, _ | ⟨⟨x4, b4, k4⟩, _ | ⟨⟨x5, b5, k5⟩, _ | ⟨x6, ch⟩⟩⟩⟩⟩⟩⟩ := ch <;> simp [chA] at h
  obtain ⟨rfl, rfl, rfl, rfl, rfl, rfl⟩ := h
  exact ⟨b0, b1, b2, b3, b4, b5, k0, k1, k2, k3, k4, k5, rfl⟩
theorem fig10 {f : Int} (h0 : 0 ≤ f) (h9 : f ≤ 9) : f = 0 ∨ f = 1 ∨ f = 2 ∨ f = 3 ∨ f = 4 ∨ f = 5 ∨ f = 6 ∨ f = 7 ∨ f = 8 ∨ f = 9 := by omega

theorem rdFineA (a0 a1 a2 a3 a4 a5 : Option Addr) (c0 c1 c2 c3 c4 c5 : Nat) (ca : Option Addr) (cc q : Nat) (hq : q < 2) (ch : List Li) (ma : Option Addr) (r : Nat) (hch : ch.map (·.xs) = chA) : RdFine (RA (csA a0 a1 a2 a3 a4 a5 c0 c1 c2 c3 c4 c5) ca cc q ch ma r) := by
  obtain ⟨b0, b1, b2, b3, b4, b5, k0, k1, k2, k3, k4, k5, rfl⟩ := ch6 hch
  refine ⟨rfl, by show 6 ≤ 8; decide, by show (q : Int) < 2; omega, fun x hx => ?_, by show (2 : Int) ≤ 3; decide, fun l hl => ?_, fun i l hl c hc => ?_, LA_b hq, fun i x l hx hl f h0 h9 => ?_⟩
  · simp only [List.mem_cons, List.not_mem_nil, or_false] at hx
    rcases hx with rfl | rfl | rfl | rfl | rfl | rfl <;> rfl
  · simp only [List.mem_cons, List.not_mem_nil, or_false] at hl
    rcases hl with rfl | rfl | rfl | rfl | rfl | rfl <;> simp
  · have hi : i < 6 := (List.getElem?_eq_some_iff.1 hl).1
    obtain rfl | rfl | rfl | rfl | rfl | rfl : i = 0 ∨ i = 1 ∨ i = 2 ∨ i = 3 ∨ i = 4 ∨ i = 5 := by omega
    all_goals (cases hl; first | (simp at hc; done) | (simp at hc; show _ ∧ c < ((6 : Nat) : Int); omega))
  · have hi : i < 6 := (List.getElem?_eq_some_iff.1 hl).1
    have hq2 : q = 0 ∨ q = 1 := by omega
    obtain rfl | rfl | rfl | rfl | rfl | rfl : i = 0 ∨ i = 1 ∨ i = 2 ∨ i = 3 ∨ i = 4 ∨ i = 5 := by omega
    all_goals (cases hx; cases hl; rcases hq2 with rfl | rfl <;> (rcases fig10 h0 h9 with rfl | rfl | rfl | rfl | rfl | rfl | rfl | rfl | rfl | rfl <;> (show _ = _; kernel_rfl)))

end Go.Proofs


namespace Go.Proofs
open Go Go.Sx Go.RowKit

/-- A reading of the chapter's tree a, anew in memory. -/
def RRdA (cs : List Cp) (ca : Option Addr) (cc q : Nat) : Nat → World → Value → Prop := fun lo w1 v => ∃ ch ma r, v = rdV (RA cs ca cc q ch ma r) ∧ lo ≤ r ∧ r < w1.heap.size ∧ ch.map (·.xs) = chA ∧ (∃ o, w1.heap[r]? = some o ∧ isMm (LV (RA cs ca cc q ch ma r)) o) ∧ Ro w1 lo r ma ch.length 6 1 (ch.map liC) ∧ ∀ l ∈ ch, Ro w1 lo r l.a l.xs.length l.c 1 (ints l.xs)
theorem chA_len {ch : List Li} (h : ch.map (·.xs) = chA) : ch.length = 6 := by
  have := congrArg List.length h
  simpa [chA] using this

set_option maxRecDepth 20000 in
theorem cp_readingOf (a0 a1 a2 a3 a4 a5 : Option Addr) (c0 c1 c2 c3 c4 c5 : Nat) (ca : Option Addr) (cc : Nat) (q : Nat) (w : World) (hct : Ro w 0 w.heap.size ca 6 cc 2 ((csA a0 a1 a2 a3 a4 a5 c0 c1 c2 c3 c4 c5).map cpC)) (hq : q < 2) : Calls Tryz.prog 31 #[trV 2 (csA a0 a1 a2 a3 a4 a5 c0 c1 c2 c3 c4 c5) ca cc, (.int .i64 (q : Int))] w (Ret w (RRdA (csA a0 a1 a2 a3 a4 a5 c0 c1 c2 c3 c4 c5) ca cc q)) := by
  refine calls_T (av := [_, _]) Tryz.func31 rfl rfl rfl ?_
  refine t_seq ?_
  refine t_reg ?_
  refine to_box rfl rfl (fun b2 => ?_)
  refine to_alloc rfl (fun b4 => ?_)
  refine to_nil ?_
  refine tn_code ?_
  refine t_seq ?_
  refine t_reg ?_
  first | refine to_lda rfl rfl rfl ?_ | refine to_ldea rfl (by assumption) rfl rfl ?_
  refine to_callR rfl rfl (fun w s => cp_treeOf a0 a1 a2 a3 a4 a5 c0 c1 c2 c3 c4 c5 ca cc 2 w (rdw s)) rfl (fun v6 lo6 w6 hlo6 hR6 => ?_)
  obtain ⟨ch, ma, rfl, hch, hma, hls⟩ := hR6
  refine to_mv rfl rfl ?_
  refine to_mkmmB (fun a b => .int .i64 (LA q a b)) rfl (fun r8 hB8 => ?_)
  refine to_bs rfl rfl ?_
  first | refine to_st rfl rfl rfl rfl ?_ | refine to_ste rfl rfl (by assumption) rfl rfl ?_
  refine to_nil ?_
  refine tn_code ?_
  refine t_ret1 rfl rfl (res_cellA rfl rfl) (fun w' s => ?_)
  have hb6 : w6.heap.size ≤ r8 := hB8 (.snap lo6 w6.heap.size w6) (by simp)
  have hb0 : w.heap.size ≤ r8 := hB8 (.snap 0 w.heap.size w) (by simp)
  exact ⟨ch, ma, r8, by show _ = Value.agg [Value.int .i64 2, .slice ca 6 cc, .slice ma ch.length 6, .int .i64 (q : Int), .map (some r8)].toArray; rw [chA_len hch], hb0, (by obtain ⟨o, ho, _⟩ := s.own_at (b := r8); exact (Array.getElem?_eq_some_iff.1 ho).1), hch, s.own_at (b := r8), by rw [chA_len hch]; exact hma.mono hlo6 hb6 (fun k h1 h2 => s.ok (.snap lo6 w6.heap.size w6) (by simp) k h1 h2), fun l hl => (hls l hl).mono hlo6 hb6 (fun k h1 h2 => s.ok (.snap lo6 w6.heap.size w6) (by simp) k h1 h2)⟩

theorem rdOkA {cs : List Cp} {ca : Option Addr} {cc q : Nat} {ch : List Li} {ma : Option Addr} {r lo : Nat} {w w1 w2 : World} {H H2 : List Seg} (s : St w H w2) [ho : OwnAt r H (isMm (LV (RA cs ca cc q ch ma r))) H2] (h0 : .snap 0 w.heap.size w ∈ H) (h1 : .snap lo r w1 ∈ H) (hlo : w.heap.size ≤ lo) (hr : lo ≤ r)
    (hct : Ro w 0 w.heap.size ca cs.length cc 2 (cs.map cpC)) (hcs : ∀ x ∈ cs, Ro w 0 w.heap.size x.a x.s.length x.c 1 (ints x.s)) (hma : Ro w1 lo r ma ch.length 6 1 (ch.map liC)) (hls : ∀ l ∈ ch, Ro w1 lo r l.a l.xs.length l.c 1 (ints l.xs)) : RdOk (RA cs ca cc q ch ma r) w2 := by
  have k1 : ∀ {a : Option Addr} {n c sz : Nat} {xs : List (List Value)}, Ro w 0 w.heap.size a n c sz xs → Ro w2 0 r a n c sz xs := fun hro => hro.mono (Nat.le_refl _) (Nat.le_trans hlo hr) (fun k h2 h3 => s.ok _ h0 k h2 h3)
  have k2 : ∀ {a : Option Addr} {n c sz : Nat} {xs : List (List Value)}, Ro w1 lo r a n c sz xs → Ro w2 0 r a n c sz xs := fun hro => hro.mono (Nat.zero_le _) (Nat.le_refl _) (fun k h2 h3 => s.ok _ h1 k h2 h3)
  exact ⟨s.own_at (b := r), k1 hct, fun x hx => k1 (hcs x hx), k2 hma, fun l hl => k2 (hls l hl)⟩
def nErA : Nat → Int
  | 0 => 0
  | k + 1 => nErA k + erM (LA k) 10
theorem nErA_b : ∀ k, k ≤ 2 → 0 ≤ nErA k ∧ nErA k ≤ 10 := by decide

set_option maxRecDepth 20000 in
theorem cp_Fewest (a0 a1 a2 a3 a4 a5 : Option Addr) (c0 c1 c2 c3 c4 c5 : Nat) (ca : Option Addr) (cc : Nat) (w : World) (hct : Ro w 0 w.heap.size ca 6 cc 2 ((csA a0 a1 a2 a3 a4 a5 c0 c1 c2 c3 c4 c5).map cpC)) (hcs : ∀ x ∈ (csA a0 a1 a2 a3 a4 a5 c0 c1 c2 c3 c4 c5), Ro w 0 w.heap.size x.a x.s.length x.c 1 (ints x.s)) : Calls Tryz.prog 14 #[trV 2 (csA a0 a1 a2 a3 a4 a5 c0 c1 c2 c3 c4 c5) ca cc] w (RetV w (.tuple #[.int .i64 2, .int .i64 0])) := by
  have hT : isTr 2 (csA a0 a1 a2 a3 a4 a5 c0 c1 c2 c3 c4 c5) = true := by kernel_rfl
  refine calls_T0 (av := [_]) Tryz.func14 rfl rfl rfl ?_
  refine t_seq ?_
  refine t_reg ?_
  refine to_box rfl rfl (fun b1 => ?_)
  refine to_as rfl rfl ?_
  refine to_as rfl rfl ?_
  refine to_nil ?_
  refine tn_code ?_
  refine t_seq ?_
  refine t_seq ?_
  refine t_reg ?_
  first | refine to_lda rfl rfl rfl ?_ | refine to_ldea rfl (by assumption) rfl rfl ?_
  refine to_call0 rfl rfl (fun w s => cp_isTree 2 (csA a0 a1 a2 a3 a4 a5 c0 c1 c2 c3 c4 c5) ca cc w (rdw s) (fun x hx _ => by haveI := hcs x hx; exact rdw s) (by show 6 ≤ 1000; decide) (fun x hx => by simp only [List.mem_cons, List.not_mem_nil, or_false] at hx; rcases hx with rfl | rfl | rfl | rfl | rfl | rfl <;> simp)) rfl ?_
  refine to_fix (s := 7) (b' := true) rfl (hT) ?_
  refine to_not rfl rfl ?_
  refine to_nil ?_
  refine tn_code ?_
  refine t_ifF rfl ?_
  refine t_skip ?_
  refine tn_code ?_
  refine t_seq ?_
  refine t_reg ?_
  refine to_as rfl rfl ?_
  refine to_nil ?_
  refine tn_code ?_
  refine t_seq ?_
  refine t_seq ?_
  refine t_reg ?_
  first | refine to_fa rfl rfl rfl (by simp only [Nat.reduceAdd]; rfl) rfl ?_ | refine to_fae rfl rfl rfl (by simp only [Nat.reduceAdd]; rfl) rfl ?_
  first | refine to_lds rfl rfl rfl ?_ | refine to_ldes rfl (by assumption) rfl rfl ?_
  refine to_mv rfl rfl ?_
  refine to_nil ?_
  refine tn_code ?_
  refine t_blk ?_
  refine t_loop2 (ι := Nat) (fun k => k ≤ 2) (fun k => [(1, (.pointer (some ⟨b1, 0, none⟩))), (4, (.int .i64 (nErA k))), (10, (.int .i64 2)), (11, (.int .i64 (k : Int)))]) (fun k => [.own b1 (isC (trC 2 (csA a0 a1 a2 a3 a4 a5 c0 c1 c2 c3 c4 c5) ca cc) 24), .snap 0 w.heap.size w]) (fun k => 2 - k) (0) [.own b1 (isC (trC 2 (csA a0 a1 a2 a3 a4 a5 c0 c1 c2 c3 c4 c5) ca cc) 24), .snap 0 w.heap.size w] (rfl) (Nat.zero_le _) (⟨rfl, rfl, rfl, rfl, trivial⟩) ?_
  rintro k hk
  show T _ _ _ ⟨_, [(1, (.pointer (some ⟨b1, 0, none⟩))), (4, (.int .i64 (nErA k))), (10, (.int .i64 2)), (11, (.int .i64 (k : Int)))], _⟩ [.own b1 (isC (trC 2 (csA a0 a1 a2 a3 a4 a5 c0 c1 c2 c3 c4 c5) ca cc) 24), .snap 0 w.heap.size w]
  refine t_seq ?_
  refine t_reg ?_
  refine to_lss rfl rfl rfl ?_
  refine to_nil ?_
  refine tn_code ?_
  refine t_seq ?_
  refine t_if rfl (fun h1 => ?_) (fun h1 => ?_)
  · try simp only [decide_eq_true_eq, decide_eq_false_iff_not, Bool.not_eq_true', Bool.not_eq_false', Int.not_lt, Int.not_le, ne_eq, Decidable.not_not] at h1
    try have h1b := inB_iff.1 h1
    have hne := nErA_b k (by omega)
    have hne2 := nErA_b (k + 1) (by omega)
    simp only [nErA] at hne2
    refine t_skip ?_
    refine tn_code ?_
    refine t_seq ?_
    refine t_blk ?_
    refine t_seq ?_
    refine t_reg ?_
    refine to_mv rfl rfl ?_
    refine to_as rfl rfl ?_
    refine to_nil ?_
    refine tn_code ?_
    refine t_reg ?_
    refine to_mv rfl rfl ?_
    first | refine to_lda rfl rfl rfl ?_ | refine to_ldea rfl (by assumption) rfl rfl ?_
    refine to_mv rfl rfl ?_
    refine to_callR rfl rfl (fun w s => cp_readingOf a0 a1 a2 a3 a4 a5 c0 c1 c2 c3 c4 c5 ca cc k w (rdw s) (by omega)) rfl (fun v17 lo17 w17 hlo17 hR17 => ?_)
    obtain ⟨ch, ma, r, rfl, hlr, hrh, hch, hmo, hma, hls⟩ := hR17
    refine to_snapMm w17 hlr hrh hmo ?_
    have hfn := rdFineA a0 a1 a2 a3 a4 a5 c0 c1 c2 c3 c4 c5 ca cc k (by omega) ch ma r hch
    refine to_callP (R := MemR r (LV (RA (csA a0 a1 a2 a3 a4 a5 c0 c1 c2 c3 c4 c5) ca cc k ch ma r)) (.int .i64 (erM (LA k) 10))) rfl rfl (fun w2 s => cp_errors (RA (csA a0 a1 a2 a3 a4 a5 c0 c1 c2 c3 c4 c5) ca cc k ch ma r) w2 hfn (rdOkA s (by simp) (by simp) hlo17 hlr hct hcs hma hls) (by show 0 < 6; decide)) rfl (fun w2 s2 e2 w3 hd => ?_)
    obtain ⟨rfl, hdw, o3, ho3, hm3⟩ := hd
    refine .inl ⟨_, _, rfl, st_rewM s2 hdw ho3 hm3, ?_⟩
    · skip
      refine to_add rfl rfl (by omega) rfl ?_
      refine to_as rfl rfl ?_
      refine to_nil ?_
      refine tn_blk ?_
      refine tn_code ?_
      refine t_reg ?_
      refine to_add rfl rfl (by omega) rfl ?_
      refine to_mv rfl rfl ?_
      refine to_nil ?_
      exact tn_loop2 (k + 1) [.own b1 (isC (trC 2 (csA a0 a1 a2 a3 a4 a5 c0 c1 c2 c3 c4 c5) ca cc) 24), .snap 0 w.heap.size w] (rfl) (by omega) (by omega) (⟨rfl, rfl, rfl, rfl, trivial⟩)
  · try simp only [decide_eq_true_eq, decide_eq_false_iff_not, Bool.not_eq_true', Bool.not_eq_false', Int.not_lt, Int.not_le, ne_eq, Decidable.not_not] at h1
    try have h1b := inB_iff.1 h1
    have hk2 : k = 2 := by omega
    subst hk2
    refine t_exit ?_
    refine tx_code ?_
    refine tx_inv ?_
    refine tx_blk ?_
    refine tn_code ?_
    refine t_seq ?_
    refine t_reg ?_
    refine to_mv rfl rfl ?_
    refine to_as rfl rfl ?_
    refine to_as rfl rfl ?_
    refine to_nil ?_
    refine tn_code ?_
    refine t_ret2 rfl rfl (res_tmp rfl) (res_tmp rfl) (fun w' s => ?_)
    rfl

end Go.Proofs


namespace Go.Proofs
open Go Go.Sx Go.RowKit

def REnt (k : Int) (xs : List Int) : Nat → World → Value → Prop := fun lo w1 v => ∃ a c, v = .agg [.int .i64 k, .slice a xs.length c].toArray ∧ Ro w1 lo w1.heap.size a xs.length c 1 (ints xs)
structure PgL where
  la : Option Addr
  lc : Nat
  ga : Option Addr
  gc : Nat
  r0 : Option Addr
  c0 : Nat
  r1 : Option Addr
  c1 : Nat
  r2 : Option Addr
  c2 : Nat
def lnB : List (List Value) := [[.int .i64 0, .int .i64 123, .int .i64 132], [.int .i64 1, .int .i64 45, .int .i64 45], [.int .i64 0, .int .i64 (-7), .int .i64 7]]
abbrev lgB (L : PgL) : List (List Value) := [[.int .i64 1, .slice L.r0 4 L.c0], [.int .i64 2, .slice L.r1 3 L.c1], [.int .i64 1, .slice L.r2 4 L.c2]]
abbrev pgbC (L : PgL) : List Value := [.int .i64 4, .slice L.la 3 L.lc, .slice L.ga 3 L.gc]
abbrev pgbV (L : PgL) : Value := .agg [.int .i64 4, .slice L.la 3 L.lc, .slice L.ga 3 L.gc].toArray
structure PgOk (L : PgL) (w : World) (lo hi : Nat) : Prop where
  ln : Ro w lo hi L.la 3 L.lc 3 lnB
  lg : Ro w lo hi L.ga 3 L.gc 2 (lgB L)
  n0 : Ro w lo hi L.r0 4 L.c0 1 (ints [1, 2, 0, 2])
  n1 : Ro w lo hi L.r1 3 L.c1 1 (ints [2, 0, 123])
  n2 : Ro w lo hi L.r2 4 L.c2 1 (ints [0, 3, 0, 1])
def RPgB : Nat → World → Value → Prop := fun lo w1 v => ∃ L : PgL, v = pgbV L ∧ PgOk L w1 lo w1.heap.size
theorem PgOk.up {L : PgL} {w w' : World} (h : PgOk L w 0 w.heap.size) (hb : BelowH w w') : PgOk L w' 0 w'.heap.size :=
  ⟨ro_up h.ln hb, ro_up h.lg hb, ro_up h.n0 hb, ro_up h.n1 hb, ro_up h.n2 hb⟩

set_option maxRecDepth 20000 in
theorem k9_read (a b c d : Int) (w : World)  : Calls Tryz.prog 36 #[(.int .i64 a), (.int .i64 b), (.int .i64 c), (.int .i64 d)] w (Ret w (REnt 1 [a, b, c, d])) := by
  refine calls_T (av := [_, _, _, _]) Tryz.func36 rfl rfl rfl ?_
  refine t_seq ?_
  refine t_reg ?_
  refine to_alloc rfl (fun b8 => ?_)
  refine to_nil ?_
  refine tn_code ?_
  refine t_seq ?_
  refine t_reg ?_
  refine to_mv rfl rfl ?_
  refine to_mv rfl rfl ?_
  refine to_mv rfl rfl ?_
  refine to_mv rfl rfl ?_
  refine to_bsl rfl rfl rfl rfl (fun a13 => ?_)
  refine to_bs rfl rfl ?_
  first | refine to_st rfl rfl rfl rfl ?_ | refine to_ste rfl rfl (by assumption) rfl rfl ?_
  refine to_nil ?_
  refine tn_code ?_
  refine t_ret1 rfl rfl (res_cellA rfl rfl) (fun w' s => ?_)
  exact ⟨_, _, rfl, ro_row s⟩

set_option maxRecDepth 20000 in
theorem k9_mend (a b c : Int) (w : World)  : Calls Tryz.prog 37 #[(.int .i64 a), (.int .i64 b), (.int .i64 c)] w (Ret w (REnt 2 [a, b, c])) := by
  refine calls_T (av := [_, _, _]) Tryz.func37 rfl rfl rfl ?_
  refine t_seq ?_
  refine t_reg ?_
  refine to_alloc rfl (fun b6 => ?_)
  refine to_nil ?_
  refine tn_code ?_
  refine t_seq ?_
  refine t_reg ?_
  refine to_mv rfl rfl ?_
  refine to_mv rfl rfl ?_
  refine to_mv rfl rfl ?_
  refine to_bsl rfl rfl rfl rfl (fun a10 => ?_)
  refine to_bs rfl rfl ?_
  first | refine to_st rfl rfl rfl rfl ?_ | refine to_ste rfl rfl (by assumption) rfl rfl ?_
  refine to_nil ?_
  refine tn_code ?_
  refine t_ret1 rfl rfl (res_cellA rfl rfl) (fun w' s => ?_)
  exact ⟨_, _, rfl, ro_row s⟩

set_option maxRecDepth 20000 in
theorem k9_B  (w : World)  : Calls Tryz.prog 17 #[] w (Ret w (RPgB)) := by
  refine calls_T (av := []) Tryz.func17 rfl rfl rfl ?_
  refine t_seq ?_
  refine t_reg ?_
  refine to_alloc rfl (fun b0 => ?_)
  refine to_nil ?_
  refine tn_code ?_
  refine t_seq ?_
  refine t_reg ?_
  refine to_bs rfl rfl ?_
  refine to_bs rfl rfl ?_
  refine to_bs rfl rfl ?_
  refine to_bsl rfl rfl rfl rfl (fun a4 => ?_)
  refine to_callR rfl rfl (fun w s => k9_read 1 2 0 2 w) rfl (fun v5 lo5 w5 hlo5 hR5 => ?_)
  obtain ⟨r0, c0, rfl, h0⟩ := hR5
  refine to_callR rfl rfl (fun w s => k9_mend 2 0 123 w) rfl (fun v6 lo6 w6 hlo6 hR6 => ?_)
  obtain ⟨r1, c1, rfl, h1⟩ := hR6
  refine to_callR rfl rfl (fun w s => k9_read 0 3 0 1 w) rfl (fun v7 lo7 w7 hlo7 hR7 => ?_)
  obtain ⟨r2, c2, rfl, h2⟩ := hR7
  refine to_bsl rfl rfl rfl rfl (fun a8 => ?_)
  refine to_bs rfl rfl ?_
  first | refine to_st rfl rfl rfl rfl ?_ | refine to_ste rfl rfl (by assumption) rfl rfl ?_
  refine to_nil ?_
  refine tn_code ?_
  refine t_ret1 rfl rfl (res_cellA rfl rfl) (fun w' s => ?_)
  exact ⟨⟨a4, 3, a8, 3, r0, c0, r1, c1, r2, c2⟩, rfl, ro_row s, ro_row s, ro_snap s hlo5, ro_snap s hlo6, ro_snap s hlo7⟩

end Go.Proofs


namespace Go.Proofs
open Go Go.Sx Go.RowKit

set_option maxRecDepth 20000 in
theorem pf_hasPerson (L : PgL) (n : Int) (w : World)  : Calls Tryz.prog 64 #[pgbV L, (.int .i64 n)] w (RetV w (.bool (inB n 0 (4 - 1)))) := by
  refine calls_T0 (av := [_, _]) Tryz.func64 rfl rfl rfl ?_
  refine t_seq ?_
  refine t_reg ?_
  refine to_box rfl rfl (fun b2 => ?_)
  refine to_as rfl rfl ?_
  refine to_nil ?_
  refine tn_code ?_
  refine t_seq ?_
  refine t_reg ?_
  refine to_mv rfl rfl ?_
  first | refine to_fa rfl rfl rfl (by simp only [Nat.reduceAdd]; rfl) rfl ?_ | refine to_fae rfl rfl rfl (by simp only [Nat.reduceAdd]; rfl) rfl ?_
  first | refine to_lds rfl rfl rfl ?_ | refine to_ldes rfl (by assumption) rfl rfl ?_
  refine to_sub rfl rfl (by omega) rfl ?_
  refine to_call0 rfl rfl (fun w s => pf_in _ _ _ w) rfl ?_
  refine to_as rfl rfl ?_
  refine to_nil ?_
  refine tn_code ?_
  refine t_ret1 rfl rfl (res_tmp rfl) (fun w' s => ?_)
  rfl

set_option maxRecDepth 20000 in
theorem pf_hasLine (L : PgL) (n : Int) (w : World)  : Calls Tryz.prog 86 #[pgbV L, (.int .i64 n)] w (RetV w (.bool (inB n 0 (((3 : Nat) : Int) - 1)))) := by
  refine calls_T0 (av := [_, _]) Tryz.func86 rfl rfl rfl ?_
  refine t_seq ?_
  refine t_reg ?_
  refine to_box rfl rfl (fun b2 => ?_)
  refine to_as rfl rfl ?_
  refine to_nil ?_
  refine tn_code ?_
  refine t_seq ?_
  refine t_reg ?_
  refine to_mv rfl rfl ?_
  first | refine to_fa rfl rfl rfl (by simp only [Nat.reduceAdd]; rfl) rfl ?_ | refine to_fae rfl rfl rfl (by simp only [Nat.reduceAdd]; rfl) rfl ?_
  first | refine to_lds rfl rfl rfl ?_ | refine to_ldes rfl (by assumption) rfl rfl ?_
  refine to_lenS rfl rfl ?_
  refine to_sub rfl rfl (by omega) rfl ?_
  refine to_call0 rfl rfl (fun w s => pf_in _ _ _ w) rfl ?_
  refine to_as rfl rfl ?_
  refine to_nil ?_
  refine tn_code ?_
  refine t_ret1 rfl rfl (res_tmp rfl) (fun w' s => ?_)
  rfl

set_option maxRecDepth 20000 in
theorem pf_num (n : Int) (w : World)  : Calls Tryz.prog 65 #[(.int .i64 n)] w (RetV w (.bool (inB n (-999) 999))) := by
  refine calls_T0 (av := [_]) Tryz.func65 rfl rfl rfl ?_
  refine t_seq ?_
  refine t_reg ?_
  refine to_as rfl rfl ?_
  refine to_nil ?_
  refine tn_code ?_
  refine t_seq ?_
  refine t_reg ?_
  refine to_mv rfl rfl ?_
  refine to_call0 rfl rfl (fun w s => pf_in _ _ _ w) rfl ?_
  refine to_as rfl rfl ?_
  refine to_nil ?_
  refine tn_code ?_
  refine t_ret1 rfl rfl (res_tmp rfl) (fun w' s => ?_)
  rfl

theorem rb_below {w0 w w' : World} {H H2 : List Seg} {b : Nat} {cs : List Value} {te : TypeId} (s : St w0 H w) [h : OwnAt b H (isC cs te) H2] (hb : Below w.heap.size w w') : Rb w' 0 w'.heap.size b cs := rb_up (rbw (te := te) s (b := b) (cs := cs)) ⟨hb.size, fun k hk => hb.block k hk⟩
abbrev lnC (x : Int × Int × Int) : List Value := [.int .i64 x.1, .int .i64 x.2.1, .int .i64 x.2.2]
structure En9 where
  k : Int
  a : Option Addr
  n : Nat
  c : Nat
abbrev enC (x : En9) : List Value := [.int .i64 x.k, .slice x.a x.n x.c]

set_option maxRecDepth 20000 in
theorem pf_page1 (L : PgL) (x : Int × Int × Int) (b : Nat) (w : World) (hb : Rb w 0 w.heap.size b (pgbC L)) (h1 : 0 ≤ x.1 ∧ x.1 ≤ 3) (h2 : -999 ≤ x.2.1 ∧ x.2.1 ≤ 999) (h3 : -999 ≤ x.2.2 ∧ x.2.2 ≤ 999) : Calls Tryz.prog 63 #[.agg (lnC x).toArray, (.pointer (some ⟨b, 0, none⟩))] w (RetV w (.bool false)) := by
  refine calls_T0 (av := [_, _]) Tryz.func63 rfl rfl rfl ?_
  refine t_seq ?_
  refine t_reg ?_
  refine to_box rfl rfl (fun b2 => ?_)
  refine to_as rfl rfl ?_
  refine to_nil ?_
  refine tn_code ?_
  refine t_seq ?_
  refine t_reg ?_
  first | refine to_lda rfl rfl rfl ?_ | refine to_ldea rfl (by assumption) rfl rfl ?_
  first | refine to_fa rfl rfl rfl (by simp only [Nat.reduceAdd]; rfl) rfl ?_ | refine to_fae rfl rfl rfl (by simp only [Nat.reduceAdd]; rfl) rfl ?_
  first | refine to_lds rfl rfl rfl ?_ | refine to_ldes rfl (by assumption) rfl rfl ?_
  refine to_call0 rfl rfl (fun w s => pf_hasPerson L _ w) rfl ?_
  refine to_fix (s := 7) (b' := true) rfl (inB_iff.2 (by omega)) ?_
  refine to_not rfl rfl ?_
  refine to_mv rfl rfl ?_
  refine to_gt rfl rfl ?_
  first | refine to_fa rfl rfl rfl (by simp only [Nat.reduceAdd]; rfl) rfl ?_ | refine to_fae rfl rfl rfl (by simp only [Nat.reduceAdd]; rfl) rfl ?_
  refine to_gt rfl rfl ?_
  first | refine to_lds rfl rfl rfl ?_ | refine to_ldes rfl (by assumption) rfl rfl ?_
  refine to_gt rfl rfl ?_
  refine to_call0 rfl rfl (fun w s => pf_num _ w) rfl ?_
  refine to_fix (s := 12) (b' := true) rfl (inB_iff.2 (by omega)) ?_
  refine to_gt rfl rfl ?_
  refine to_not rfl rfl ?_
  refine to_pkF rfl rfl rfl ?_
  refine to_mv rfl rfl ?_
  refine to_gt rfl rfl ?_
  first | refine to_fa rfl rfl rfl (by simp only [Nat.reduceAdd]; rfl) rfl ?_ | refine to_fae rfl rfl rfl (by simp only [Nat.reduceAdd]; rfl) rfl ?_
  refine to_gt rfl rfl ?_
  first | refine to_lds rfl rfl rfl ?_ | refine to_ldes rfl (by assumption) rfl rfl ?_
  refine to_gt rfl rfl ?_
  refine to_call0 rfl rfl (fun w s => pf_num _ w) rfl ?_
  refine to_fix (s := 18) (b' := true) rfl (inB_iff.2 (by omega)) ?_
  refine to_gt rfl rfl ?_
  refine to_not rfl rfl ?_
  refine to_pkF rfl rfl rfl ?_
  refine to_as rfl rfl ?_
  refine to_nil ?_
  refine tn_code ?_
  refine t_ret1 rfl rfl (res_tmp rfl) (fun w' s => ?_)
  rfl

set_option maxRecDepth 20000 in
theorem pf_idxL (xs : List (Int × Int × Int)) (a : Option Addr) (c : Nat) (q : Nat) (cp : List Value) (w : World) [hf : FnOk Tryz.prog q] (hr : Ro w 0 w.heap.size a xs.length c 3 (xs.map lnC)) (hn : xs.length ≤ 1000000) (hq : ∀ w', Below w.heap.size w w' → ∀ y ∈ xs, Calls Tryz.prog q ([] ++ ([Value.agg (lnC y).toArray] ++ cp)).toArray w' (RetV w' (.bool false))) : Calls Tryz.prog 84 #[.slice a xs.length c, .func (.func q) ([] : List Value).toArray cp.toArray] w (RetV w (.int .i64 (-1))) := by
  refine calls_T0 (av := [_, _]) Tryz.func84 rfl rfl rfl ?_
  refine t_seq ?_
  refine t_reg ?_
  refine to_as rfl rfl ?_
  refine to_nil ?_
  refine tn_code ?_
  refine t_seq ?_
  refine t_seq ?_
  refine t_reg ?_
  refine to_mv rfl rfl ?_
  refine to_lenS rfl rfl ?_
  refine to_mv rfl rfl ?_
  refine to_nil ?_
  refine tn_code ?_
  refine t_blk ?_
  refine t_loop2 (ι := Nat) (fun k => k ≤ xs.length) (fun k => [(0, .slice a xs.length c), (1, .func (.func q) ([] : List Value).toArray cp.toArray), (6, .slice a xs.length c), (7, .int .i64 (xs.length : Int)), (8, .int .i64 (k : Int))]) (fun k => [.snap 0 w.heap.size w]) (fun k => xs.length - k) (0) [.snap 0 w.heap.size w] (rfl) (Nat.zero_le _) (⟨rfl, rfl, rfl, rfl, rfl, trivial⟩) ?_
  rintro k hk
  show T _ _ _ ⟨_, [(0, .slice a xs.length c), (1, .func (.func q) ([] : List Value).toArray cp.toArray), (6, .slice a xs.length c), (7, .int .i64 (xs.length : Int)), (8, .int .i64 (k : Int))], _⟩ [.snap 0 w.heap.size w]
  refine t_seq ?_
  refine t_reg ?_
  refine to_lss rfl rfl rfl ?_
  refine to_nil ?_
  refine tn_code ?_
  refine t_seq ?_
  refine t_if rfl (fun h1 => ?_) (fun h1 => ?_)
  · try simp only [decide_eq_true_eq, decide_eq_false_iff_not, Bool.not_eq_true', Bool.not_eq_false', Int.not_lt, Int.not_le, ne_eq, Decidable.not_not] at h1
    try have h1b := inB_iff.1 h1
    obtain ⟨y, hy⟩ := some_get (xs := xs) (k := k) (by omega)
    have hx := map_get (f := lnC) hy
    refine t_skip ?_
    refine tn_code ?_
    refine t_seq ?_
    refine t_blk ?_
    refine t_seq ?_
    refine t_reg ?_
    refine to_mv rfl rfl ?_
    refine to_as rfl rfl ?_
    refine to_nil ?_
    refine tn_code ?_
    refine t_seq ?_
    refine t_reg ?_
    refine to_mv rfl rfl ?_
    refine to_mv rfl rfl ?_
    refine to_mv rfl rfl ?_
    first | refine to_ix rfl rfl rfl (by first | omega | decide) (by first | omega | decide) rfl ?_ | refine to_ixi rfl rfl rfl (by omega) (by omega) (by omega) rfl ?_
    first | refine to_lda rfl rfl rfl ?_ | refine to_ldea rfl (by assumption) rfl rfl ?_
    refine to_call0 rfl rfl (fun w s => hq w (s.below0 (List.mem_cons_self ..)) y (List.mem_of_getElem? hy)) rfl ?_
    refine to_fix (s := 16) (b' := false) rfl (rfl) ?_
    refine to_nil ?_
    refine tn_code ?_
    refine t_ifF rfl ?_
    refine t_skip ?_
    refine tn_blk ?_
    refine tn_code ?_
    refine t_reg ?_
    refine to_add rfl rfl (by omega) rfl ?_
    refine to_mv rfl rfl ?_
    refine to_nil ?_
    exact tn_loop2 (k + 1) [.snap 0 w.heap.size w] (rfl) (by omega) (by omega) (⟨rfl, rfl, rfl, rfl, rfl, trivial⟩)
  · try simp only [decide_eq_true_eq, decide_eq_false_iff_not, Bool.not_eq_true', Bool.not_eq_false', Int.not_lt, Int.not_le, ne_eq, Decidable.not_not] at h1
    try have h1b := inB_iff.1 h1
    refine t_exit ?_
    refine tx_code ?_
    refine tx_inv ?_
    refine tx_blk ?_
    refine tn_code ?_
    refine t_seq ?_
    refine t_reg ?_
    refine to_as rfl rfl ?_
    refine to_nil ?_
    refine tn_code ?_
    refine t_ret1 rfl rfl (res_tmp rfl) (fun w' s => ?_)
    rfl

set_option maxRecDepth 20000 in
theorem pf_conL (xs : List (Int × Int × Int)) (a : Option Addr) (c : Nat) (q : Nat) (cp : List Value) (w : World) [hf : FnOk Tryz.prog q] (hr : Ro w 0 w.heap.size a xs.length c 3 (xs.map lnC)) (hn : xs.length ≤ 1000000) (hq : ∀ w', Below w.heap.size w w' → ∀ y ∈ xs, Calls Tryz.prog q ([] ++ ([Value.agg (lnC y).toArray] ++ cp)).toArray w' (RetV w' (.bool false))) : Calls Tryz.prog 62 #[.slice a xs.length c, .func (.func q) ([] : List Value).toArray cp.toArray] w (RetV w (.bool false)) := by
  refine calls_T0 (av := [_, _]) Tryz.func62 rfl rfl rfl ?_
  refine t_seq ?_
  refine t_reg ?_
  refine to_as rfl rfl ?_
  refine to_nil ?_
  refine tn_code ?_
  refine t_seq ?_
  refine t_reg ?_
  refine to_mv rfl rfl ?_
  refine to_mv rfl rfl ?_
  refine to_call0 rfl rfl (fun w s => pf_idxL _ _ _ _ _ w (rdw s) hn (fun w' hb y hy => hq w' (below_tr (s.below0 (List.mem_cons_self ..)) hb) y hy)) rfl ?_
  refine to_geq rfl rfl rfl ?_
  refine to_as rfl rfl ?_
  refine to_nil ?_
  refine tn_code ?_
  refine t_ret1 rfl rfl (res_tmp rfl) (fun w' s => ?_)
  rfl

set_option maxRecDepth 20000 in
theorem pf_idxE (xs : List En9) (a : Option Addr) (c : Nat) (q : Nat) (cp : List Value) (w : World) [hf : FnOk Tryz.prog q] (hr : Ro w 0 w.heap.size a xs.length c 2 (xs.map enC)) (hn : xs.length ≤ 1000000) (hq : ∀ w', Below w.heap.size w w' → ∀ y ∈ xs, Calls Tryz.prog q ([] ++ ([Value.agg (enC y).toArray] ++ cp)).toArray w' (RetV w' (.bool false))) : Calls Tryz.prog 85 #[.slice a xs.length c, .func (.func q) ([] : List Value).toArray cp.toArray] w (RetV w (.int .i64 (-1))) := by
  refine calls_T0 (av := [_, _]) Tryz.func85 rfl rfl rfl ?_
  refine t_seq ?_
  refine t_reg ?_
  refine to_as rfl rfl ?_
  refine to_nil ?_
  refine tn_code ?_
  refine t_seq ?_
  refine t_seq ?_
  refine t_reg ?_
  refine to_mv rfl rfl ?_
  refine to_lenS rfl rfl ?_
  refine to_mv rfl rfl ?_
  refine to_nil ?_
  refine tn_code ?_
  refine t_blk ?_
  refine t_loop2 (ι := Nat) (fun k => k ≤ xs.length) (fun k => [(0, .slice a xs.length c), (1, .func (.func q) ([] : List Value).toArray cp.toArray), (6, .slice a xs.length c), (7, .int .i64 (xs.length : Int)), (8, .int .i64 (k : Int))]) (fun k => [.snap 0 w.heap.size w]) (fun k => xs.length - k) (0) [.snap 0 w.heap.size w] (rfl) (Nat.zero_le _) (⟨rfl, rfl, rfl, rfl, rfl, trivial⟩) ?_
  rintro k hk
  show T _ _ _ ⟨_, [(0, .slice a xs.length c), (1, .func (.func q) ([] : List Value).toArray cp.toArray), (6, .slice a xs.length c), (7, .int .i64 (xs.length : Int)), (8, .int .i64 (k : Int))], _⟩ [.snap 0 w.heap.size w]
  refine t_seq ?_
  refine t_reg ?_
  refine to_lss rfl rfl rfl ?_
  refine to_nil ?_
  refine tn_code ?_
  refine t_seq ?_
  refine t_if rfl (fun h1 => ?_) (fun h1 => ?_)
  · try simp only [decide_eq_true_eq, decide_eq_false_iff_not, Bool.not_eq_true', Bool.not_eq_false', Int.not_lt, Int.not_le, ne_eq, Decidable.not_not] at h1
    try have h1b := inB_iff.1 h1
    obtain ⟨y, hy⟩ := some_get (xs := xs) (k := k) (by omega)
    have hx := map_get (f := enC) hy
    refine t_skip ?_
    refine tn_code ?_
    refine t_seq ?_
    refine t_blk ?_
    refine t_seq ?_
    refine t_reg ?_
    refine to_mv rfl rfl ?_
    refine to_as rfl rfl ?_
    refine to_nil ?_
    refine tn_code ?_
    refine t_seq ?_
    refine t_reg ?_
    refine to_mv rfl rfl ?_
    refine to_mv rfl rfl ?_
    refine to_mv rfl rfl ?_
    first | refine to_ix rfl rfl rfl (by first | omega | decide) (by first | omega | decide) rfl ?_ | refine to_ixi rfl rfl rfl (by omega) (by omega) (by omega) rfl ?_
    first | refine to_lda rfl rfl rfl ?_ | refine to_ldea rfl (by assumption) rfl rfl ?_
    refine to_call0 rfl rfl (fun w s => hq w (s.below0 (List.mem_cons_self ..)) y (List.mem_of_getElem? hy)) rfl ?_
    refine to_fix (s := 16) (b' := false) rfl (rfl) ?_
    refine to_nil ?_
    refine tn_code ?_
    refine t_ifF rfl ?_
    refine t_skip ?_
    refine tn_blk ?_
    refine tn_code ?_
    refine t_reg ?_
    refine to_add rfl rfl (by omega) rfl ?_
    refine to_mv rfl rfl ?_
    refine to_nil ?_
    exact tn_loop2 (k + 1) [.snap 0 w.heap.size w] (rfl) (by omega) (by omega) (⟨rfl, rfl, rfl, rfl, rfl, trivial⟩)
  · try simp only [decide_eq_true_eq, decide_eq_false_iff_not, Bool.not_eq_true', Bool.not_eq_false', Int.not_lt, Int.not_le, ne_eq, Decidable.not_not] at h1
    try have h1b := inB_iff.1 h1
    refine t_exit ?_
    refine tx_code ?_
    refine tx_inv ?_
    refine tx_blk ?_
    refine tn_code ?_
    refine t_seq ?_
    refine t_reg ?_
    refine to_as rfl rfl ?_
    refine to_nil ?_
    refine tn_code ?_
    refine t_ret1 rfl rfl (res_tmp rfl) (fun w' s => ?_)
    rfl

set_option maxRecDepth 20000 in
theorem pf_conE (xs : List En9) (a : Option Addr) (c : Nat) (q : Nat) (cp : List Value) (w : World) [hf : FnOk Tryz.prog q] (hr : Ro w 0 w.heap.size a xs.length c 2 (xs.map enC)) (hn : xs.length ≤ 1000000) (hq : ∀ w', Below w.heap.size w w' → ∀ y ∈ xs, Calls Tryz.prog q ([] ++ ([Value.agg (enC y).toArray] ++ cp)).toArray w' (RetV w' (.bool false))) : Calls Tryz.prog 66 #[.slice a xs.length c, .func (.func q) ([] : List Value).toArray cp.toArray] w (RetV w (.bool false)) := by
  refine calls_T0 (av := [_, _]) Tryz.func66 rfl rfl rfl ?_
  refine t_seq ?_
  refine t_reg ?_
  refine to_as rfl rfl ?_
  refine to_nil ?_
  refine tn_code ?_
  refine t_seq ?_
  refine t_reg ?_
  refine to_mv rfl rfl ?_
  refine to_mv rfl rfl ?_
  refine to_call0 rfl rfl (fun w s => pf_idxE _ _ _ _ _ w (rdw s) hn (fun w' hb y hy => hq w' (below_tr (s.below0 (List.mem_cons_self ..)) hb) y hy)) rfl ?_
  refine to_geq rfl rfl rfl ?_
  refine to_as rfl rfl ?_
  refine to_nil ?_
  refine tn_code ?_
  refine t_ret1 rfl rfl (res_tmp rfl) (fun w' s => ?_)
  rfl

set_option maxRecDepth 20000 in
theorem pf_ent1 (L : PgL) (a b c d : Int) (sa : Option Addr) (sc : Nat) (w : World) (hr : Ro w 0 w.heap.size sa 4 sc 1 (ints [a, b, c, d])) (ha : 0 ≤ a ∧ a < b) (hb : b ≤ 3) (hc : 0 ≤ c ∧ c ≤ d) (hd : d ≤ 2) : Calls Tryz.prog 68 #[pgbV L, .agg [.int .i64 1, .slice sa 4 sc].toArray] w (RetV w (.bool true)) := by
  have e0 : (ints [a, b, c, d])[0]? = some [.int .i64 a] := rfl
  have e1 : (ints [a, b, c, d])[1]? = some [.int .i64 b] := rfl
  have e2 : (ints [a, b, c, d])[2]? = some [.int .i64 c] := rfl
  have e3 : (ints [a, b, c, d])[3]? = some [.int .i64 d] := rfl
  refine calls_T0 (av := [_, _]) Tryz.func68 rfl rfl rfl ?_
  refine t_seq ?_
  refine t_reg ?_
  refine to_box rfl rfl (fun b2 => ?_)
  refine to_box rfl rfl (fun b3 => ?_)
  refine to_as rfl rfl ?_
  refine to_nil ?_
  refine tn_code ?_
  refine t_seq ?_
  refine t_reg ?_
  first | refine to_fa rfl rfl rfl (by simp only [Nat.reduceAdd]; rfl) rfl ?_ | refine to_fae rfl rfl rfl (by simp only [Nat.reduceAdd]; rfl) rfl ?_
  first | refine to_lds rfl rfl rfl ?_ | refine to_ldes rfl (by assumption) rfl rfl ?_
  refine to_as rfl rfl ?_
  refine to_nil ?_
  refine tn_code ?_
  refine t_seq ?_
  refine t_seq ?_
  refine t_reg ?_
  first | refine to_fa rfl rfl rfl (by simp only [Nat.reduceAdd]; rfl) rfl ?_ | refine to_fae rfl rfl rfl (by simp only [Nat.reduceAdd]; rfl) rfl ?_
  first | refine to_lds rfl rfl rfl ?_ | refine to_ldes rfl (by assumption) rfl rfl ?_
  refine to_nil ?_
  refine tn_code ?_
  refine t_blk ?_
  refine t_seq ?_
  refine t_reg ?_
  refine to_eql rfl rfl rfl ?_
  refine to_fix (s := 11) (b' := true) rfl (rfl) ?_
  refine to_as rfl rfl ?_
  refine to_nil ?_
  refine tn_code ?_
  refine t_ifT rfl ?_
  refine t_seq ?_
  refine t_regD rfl (by kernel_rfl) (by kernel_rfl) ?_
  refine to_mv rfl rfl ?_
  refine to_lenS rfl rfl ?_
  refine to_eql rfl rfl rfl ?_
  refine to_fix (s := 14) (b' := true) rfl (rfl) ?_
  refine to_mv rfl rfl ?_
  refine to_gt rfl rfl ?_
  first | refine to_lda rfl rfl rfl ?_ | refine to_ldea rfl (by assumption) rfl rfl ?_
  refine to_gt rfl rfl ?_
  refine to_mv rfl rfl ?_
  refine to_gt rfl rfl ?_
  first | refine to_ix rfl rfl rfl (by first | omega | decide) (by first | omega | decide) rfl ?_ | refine to_ixi rfl rfl rfl (by omega) (by omega) (by omega) rfl ?_
  refine to_gt rfl rfl ?_
  first | refine to_lds rfl rfl rfl ?_ | refine to_ldes rfl (by assumption) rfl rfl ?_
  refine to_gt rfl rfl ?_
  refine to_call0 rfl rfl (fun w s => pf_hasPerson L _ w) rfl ?_
  refine to_fix (s := 20) (b' := true) rfl (inB_iff.2 (by omega)) ?_
  refine to_pkT rfl rfl rfl ?_
  refine to_mv rfl rfl ?_
  refine to_gt rfl rfl ?_
  first | refine to_lda rfl rfl rfl ?_ | refine to_ldea rfl (by assumption) rfl rfl ?_
  refine to_gt rfl rfl ?_
  refine to_mv rfl rfl ?_
  refine to_gt rfl rfl ?_
  first | refine to_ix rfl rfl rfl (by first | omega | decide) (by first | omega | decide) rfl ?_ | refine to_ixi rfl rfl rfl (by omega) (by omega) (by omega) rfl ?_
  refine to_gt rfl rfl ?_
  first | refine to_lds rfl rfl rfl ?_ | refine to_ldes rfl (by assumption) rfl rfl ?_
  refine to_gt rfl rfl ?_
  refine to_call0 rfl rfl (fun w s => pf_hasPerson L _ w) rfl ?_
  refine to_fix (s := 27) (b' := true) rfl (inB_iff.2 (by omega)) ?_
  refine to_pkT rfl rfl rfl ?_
  refine to_mv rfl rfl ?_
  refine to_gt rfl rfl ?_
  refine to_mv rfl rfl ?_
  refine to_gt rfl rfl ?_
  first | refine to_ix rfl rfl rfl (by first | omega | decide) (by first | omega | decide) rfl ?_ | refine to_ixi rfl rfl rfl (by omega) (by omega) (by omega) rfl ?_
  refine to_gt rfl rfl ?_
  first | refine to_lds rfl rfl rfl ?_ | refine to_ldes rfl (by assumption) rfl rfl ?_
  refine to_gt rfl rfl ?_
  refine to_mv rfl rfl ?_
  refine to_gt rfl rfl ?_
  first | refine to_ix rfl rfl rfl (by first | omega | decide) (by first | omega | decide) rfl ?_ | refine to_ixi rfl rfl rfl (by omega) (by omega) (by omega) rfl ?_
  refine to_gt rfl rfl ?_
  first | refine to_lds rfl rfl rfl ?_ | refine to_ldes rfl (by assumption) rfl rfl ?_
  refine to_gt rfl rfl ?_
  refine to_lss rfl rfl rfl ?_
  refine to_fix (s := 36) (b' := true) rfl (decide_eq_true (by omega)) ?_
  refine to_pkT rfl rfl rfl ?_
  refine to_mv rfl rfl ?_
  refine to_gt rfl rfl ?_
  first | refine to_lda rfl rfl rfl ?_ | refine to_ldea rfl (by assumption) rfl rfl ?_
  refine to_gt rfl rfl ?_
  refine to_mv rfl rfl ?_
  refine to_gt rfl rfl ?_
  first | refine to_ix rfl rfl rfl (by first | omega | decide) (by first | omega | decide) rfl ?_ | refine to_ixi rfl rfl rfl (by omega) (by omega) (by omega) rfl ?_
  refine to_gt rfl rfl ?_
  first | refine to_lds rfl rfl rfl ?_ | refine to_ldes rfl (by assumption) rfl rfl ?_
  refine to_gt rfl rfl ?_
  refine to_call0 rfl rfl (fun w s => pf_hasLine L _ w) rfl ?_
  refine to_fix (s := 43) (b' := true) rfl (inB_iff.2 (by omega)) ?_
  refine to_pkT rfl rfl rfl ?_
  refine to_mv rfl rfl ?_
  refine to_gt rfl rfl ?_
  first | refine to_lda rfl rfl rfl ?_ | refine to_ldea rfl (by assumption) rfl rfl ?_
  refine to_gt rfl rfl ?_
  refine to_mv rfl rfl ?_
  refine to_gt rfl rfl ?_
  first | refine to_ix rfl rfl rfl (by first | omega | decide) (by first | omega | decide) rfl ?_ | refine to_ixi rfl rfl rfl (by omega) (by omega) (by omega) rfl ?_
  refine to_gt rfl rfl ?_
  first | refine to_lds rfl rfl rfl ?_ | refine to_ldes rfl (by assumption) rfl rfl ?_
  refine to_gt rfl rfl ?_
  refine to_call0 rfl rfl (fun w s => pf_hasLine L _ w) rfl ?_
  refine to_fix (s := 50) (b' := true) rfl (inB_iff.2 (by omega)) ?_
  refine to_pkT rfl rfl rfl ?_
  refine to_mv rfl rfl ?_
  refine to_gt rfl rfl ?_
  refine to_mv rfl rfl ?_
  refine to_gt rfl rfl ?_
  first | refine to_ix rfl rfl rfl (by first | omega | decide) (by first | omega | decide) rfl ?_ | refine to_ixi rfl rfl rfl (by omega) (by omega) (by omega) rfl ?_
  refine to_gt rfl rfl ?_
  first | refine to_lds rfl rfl rfl ?_ | refine to_ldes rfl (by assumption) rfl rfl ?_
  refine to_gt rfl rfl ?_
  refine to_mv rfl rfl ?_
  refine to_gt rfl rfl ?_
  first | refine to_ix rfl rfl rfl (by first | omega | decide) (by first | omega | decide) rfl ?_ | refine to_ixi rfl rfl rfl (by omega) (by omega) (by omega) rfl ?_
  refine to_gt rfl rfl ?_
  first | refine to_lds rfl rfl rfl ?_ | refine to_ldes rfl (by assumption) rfl rfl ?_
  refine to_gt rfl rfl ?_
  refine to_leq rfl rfl rfl ?_
  refine to_fix (s := 59) (b' := true) rfl (decide_eq_true (by omega)) ?_
  refine to_pkT rfl rfl rfl ?_
  refine to_as rfl rfl ?_
  refine to_nil ?_
  refine tn_code ?_
  refine t_ret1 rfl rfl (res_tmp rfl) (fun w' s => ?_)
  rfl

set_option maxRecDepth 20000 in
theorem pf_ent2 (L : PgL) (a b c : Int) (sa : Option Addr) (sc : Nat) (w : World) (hr : Ro w 0 w.heap.size sa 3 sc 1 (ints [a, b, c])) (ha : 0 ≤ a ∧ a ≤ 3) (hb : 0 ≤ b ∧ b ≤ 2) (hc : -999 ≤ c ∧ c ≤ 999) : Calls Tryz.prog 68 #[pgbV L, .agg [.int .i64 2, .slice sa 3 sc].toArray] w (RetV w (.bool true)) := by
  have e0 : (ints [a, b, c])[0]? = some [.int .i64 a] := rfl
  have e1 : (ints [a, b, c])[1]? = some [.int .i64 b] := rfl
  have e2 : (ints [a, b, c])[2]? = some [.int .i64 c] := rfl
  refine calls_T0 (av := [_, _]) Tryz.func68 rfl rfl rfl ?_
  refine t_seq ?_
  refine t_reg ?_
  refine to_box rfl rfl (fun b2 => ?_)
  refine to_box rfl rfl (fun b3 => ?_)
  refine to_as rfl rfl ?_
  refine to_nil ?_
  refine tn_code ?_
  refine t_seq ?_
  refine t_reg ?_
  first | refine to_fa rfl rfl rfl (by simp only [Nat.reduceAdd]; rfl) rfl ?_ | refine to_fae rfl rfl rfl (by simp only [Nat.reduceAdd]; rfl) rfl ?_
  first | refine to_lds rfl rfl rfl ?_ | refine to_ldes rfl (by assumption) rfl rfl ?_
  refine to_as rfl rfl ?_
  refine to_nil ?_
  refine tn_code ?_
  refine t_seq ?_
  refine t_seq ?_
  refine t_reg ?_
  first | refine to_fa rfl rfl rfl (by simp only [Nat.reduceAdd]; rfl) rfl ?_ | refine to_fae rfl rfl rfl (by simp only [Nat.reduceAdd]; rfl) rfl ?_
  first | refine to_lds rfl rfl rfl ?_ | refine to_ldes rfl (by assumption) rfl rfl ?_
  refine to_nil ?_
  refine tn_code ?_
  refine t_blk ?_
  refine t_seq ?_
  refine t_reg ?_
  refine to_eql rfl rfl rfl ?_
  refine to_fix (s := 11) (b' := false) rfl (rfl) ?_
  refine to_as rfl rfl ?_
  refine to_nil ?_
  refine tn_code ?_
  refine t_ifF rfl ?_
  refine t_seq ?_
  refine t_reg ?_
  refine to_eql rfl rfl rfl ?_
  refine to_fix (s := 62) (b' := true) rfl (rfl) ?_
  refine to_as rfl rfl ?_
  refine to_nil ?_
  refine tn_code ?_
  refine t_ifT rfl ?_
  refine t_seq ?_
  refine t_regD rfl (by kernel_rfl) (by kernel_rfl) ?_
  refine to_mv rfl rfl ?_
  refine to_lenS rfl rfl ?_
  refine to_eql rfl rfl rfl ?_
  refine to_fix (s := 65) (b' := true) rfl (rfl) ?_
  refine to_mv rfl rfl ?_
  refine to_gt rfl rfl ?_
  first | refine to_lda rfl rfl rfl ?_ | refine to_ldea rfl (by assumption) rfl rfl ?_
  refine to_gt rfl rfl ?_
  refine to_mv rfl rfl ?_
  refine to_gt rfl rfl ?_
  first | refine to_ix rfl rfl rfl (by first | omega | decide) (by first | omega | decide) rfl ?_ | refine to_ixi rfl rfl rfl (by omega) (by omega) (by omega) rfl ?_
  refine to_gt rfl rfl ?_
  first | refine to_lds rfl rfl rfl ?_ | refine to_ldes rfl (by assumption) rfl rfl ?_
  refine to_gt rfl rfl ?_
  refine to_call0 rfl rfl (fun w s => pf_hasPerson L _ w) rfl ?_
  refine to_fix (s := 71) (b' := true) rfl (inB_iff.2 (by omega)) ?_
  refine to_pkT rfl rfl rfl ?_
  refine to_mv rfl rfl ?_
  refine to_gt rfl rfl ?_
  first | refine to_lda rfl rfl rfl ?_ | refine to_ldea rfl (by assumption) rfl rfl ?_
  refine to_gt rfl rfl ?_
  refine to_mv rfl rfl ?_
  refine to_gt rfl rfl ?_
  first | refine to_ix rfl rfl rfl (by first | omega | decide) (by first | omega | decide) rfl ?_ | refine to_ixi rfl rfl rfl (by omega) (by omega) (by omega) rfl ?_
  refine to_gt rfl rfl ?_
  first | refine to_lds rfl rfl rfl ?_ | refine to_ldes rfl (by assumption) rfl rfl ?_
  refine to_gt rfl rfl ?_
  refine to_call0 rfl rfl (fun w s => pf_hasLine L _ w) rfl ?_
  refine to_fix (s := 78) (b' := true) rfl (inB_iff.2 (by omega)) ?_
  refine to_pkT rfl rfl rfl ?_
  refine to_mv rfl rfl ?_
  refine to_gt rfl rfl ?_
  refine to_mv rfl rfl ?_
  refine to_gt rfl rfl ?_
  first | refine to_ix rfl rfl rfl (by first | omega | decide) (by first | omega | decide) rfl ?_ | refine to_ixi rfl rfl rfl (by omega) (by omega) (by omega) rfl ?_
  refine to_gt rfl rfl ?_
  first | refine to_lds rfl rfl rfl ?_ | refine to_ldes rfl (by assumption) rfl rfl ?_
  refine to_gt rfl rfl ?_
  refine to_call0 rfl rfl (fun w s => pf_num _ w) rfl ?_
  refine to_fix (s := 84) (b' := true) rfl (inB_iff.2 (by omega)) ?_
  refine to_pkT rfl rfl rfl ?_
  refine to_as rfl rfl ?_
  refine to_nil ?_
  refine tn_code ?_
  refine t_ret1 rfl rfl (res_tmp rfl) (fun w' s => ?_)
  rfl

abbrev ensB (L : PgL) : List En9 := [⟨1, L.r0, 4, L.c0⟩, ⟨2, L.r1, 3, L.c1⟩, ⟨1, L.r2, 4, L.c2⟩]
abbrev lnsB : List (Int × Int × Int) := [(0, 123, 132), (1, 45, 45), (0, -7, 7)]
set_option maxRecDepth 20000 in
theorem pf_page2 (L : PgL) (x : En9) (b : Nat) (w : World) (hb : Rb w 0 w.heap.size b (pgbC L)) (hk : PgOk L w 0 w.heap.size) (hx : x ∈ ensB L) : Calls Tryz.prog 67 #[.agg (enC x).toArray, (.pointer (some ⟨b, 0, none⟩))] w (RetV w (.bool false)) := by
  have hent : ∀ w', BelowH w w' → Calls Tryz.prog 68 #[pgbV L, .agg (enC x).toArray] w' (RetV w' (.bool true)) := by
    intro w' hbl
    have hk2 := hk.up hbl
    simp only [List.mem_cons, List.not_mem_nil, or_false] at hx
    rcases hx with rfl | rfl | rfl
    · exact pf_ent1 L 1 2 0 2 _ _ w' hk2.n0 (by decide) (by decide) (by decide) (by decide)
    · exact pf_ent2 L 2 0 123 _ _ w' hk2.n1 (by decide) (by decide) (by decide)
    · exact pf_ent1 L 0 3 0 1 _ _ w' hk2.n2 (by decide) (by decide) (by decide) (by decide)
  refine calls_T0 (av := [_, _]) Tryz.func67 rfl rfl rfl ?_
  refine t_seq ?_
  refine t_reg ?_
  refine to_box rfl rfl (fun b2 => ?_)
  refine to_as rfl rfl ?_
  refine to_nil ?_
  refine tn_code ?_
  refine t_seq ?_
  refine t_reg ?_
  first | refine to_lda rfl rfl rfl ?_ | refine to_ldea rfl (by assumption) rfl rfl ?_
  first | refine to_lda rfl rfl rfl ?_ | refine to_ldea rfl (by assumption) rfl rfl ?_
  refine to_call0 rfl rfl (fun w s => hent w (belowH_of s)) rfl ?_
  refine to_fix (s := 6) (b' := true) rfl (rfl) ?_
  refine to_not rfl rfl ?_
  refine to_as rfl rfl ?_
  refine to_nil ?_
  refine tn_code ?_
  refine t_ret1 rfl rfl (res_tmp rfl) (fun w' s => ?_)
  rfl

set_option maxRecDepth 20000 in
theorem pf_isPage (L : PgL) (w : World) (hk : PgOk L w 0 w.heap.size) : Calls Tryz.prog 33 #[pgbV L] w (RetV w (.bool true)) := by
  have hln := hk.ln
  have hlg := hk.lg
  refine calls_T0 (av := [_]) Tryz.func33 rfl rfl rfl ?_
  refine t_seq ?_
  refine t_reg ?_
  refine to_box rfl rfl (fun b1 => ?_)
  refine to_as rfl rfl ?_
  refine to_nil ?_
  refine tn_code ?_
  refine t_seq ?_
  refine t_seq ?_
  refine t_reg ?_
  first | refine to_fa rfl rfl rfl (by simp only [Nat.reduceAdd]; rfl) rfl ?_ | refine to_fae rfl rfl rfl (by simp only [Nat.reduceAdd]; rfl) rfl ?_
  first | refine to_lds rfl rfl rfl ?_ | refine to_ldes rfl (by assumption) rfl rfl ?_
  refine to_call0 rfl rfl (fun w s => pf_in _ _ _ w) rfl ?_
  refine to_fix (s := 5) (b' := true) rfl (rfl) ?_
  refine to_not rfl rfl ?_
  refine to_mv rfl rfl ?_
  refine to_gt rfl rfl ?_
  first | refine to_fa rfl rfl rfl (by simp only [Nat.reduceAdd]; rfl) rfl ?_ | refine to_fae rfl rfl rfl (by simp only [Nat.reduceAdd]; rfl) rfl ?_
  refine to_gt rfl rfl ?_
  first | refine to_lds rfl rfl rfl ?_ | refine to_ldes rfl (by assumption) rfl rfl ?_
  refine to_gt rfl rfl ?_
  refine to_lenS rfl rfl ?_
  refine to_gt rfl rfl ?_
  refine to_call0 rfl rfl (fun w s => pf_in _ _ _ w) rfl ?_
  refine to_fix (s := 11) (b' := true) rfl (rfl) ?_
  refine to_gt rfl rfl ?_
  refine to_not rfl rfl ?_
  refine to_pkF rfl rfl rfl ?_
  refine to_mv rfl rfl ?_
  refine to_gt rfl rfl ?_
  first | refine to_fa rfl rfl rfl (by simp only [Nat.reduceAdd]; rfl) rfl ?_ | refine to_fae rfl rfl rfl (by simp only [Nat.reduceAdd]; rfl) rfl ?_
  refine to_gt rfl rfl ?_
  first | refine to_lds rfl rfl rfl ?_ | refine to_ldes rfl (by assumption) rfl rfl ?_
  refine to_gt rfl rfl ?_
  refine to_lenS rfl rfl ?_
  refine to_gt rfl rfl ?_
  refine to_gtr rfl rfl rfl ?_
  refine to_fix (s := 18) (b' := false) rfl (rfl) ?_
  refine to_pkF rfl rfl rfl ?_
  refine to_nil ?_
  refine tn_code ?_
  refine t_ifF rfl ?_
  refine t_skip ?_
  refine tn_code ?_
  refine t_seq ?_
  refine t_reg ?_
  first | refine to_fa rfl rfl rfl (by simp only [Nat.reduceAdd]; rfl) rfl ?_ | refine to_fae rfl rfl rfl (by simp only [Nat.reduceAdd]; rfl) rfl ?_
  first | refine to_lds rfl rfl rfl ?_ | refine to_ldes rfl (by assumption) rfl rfl ?_
  refine to_mf rfl rfl rfl ?_
  refine to_call0 rfl rfl (fun w s => pf_conL lnsB _ _ _ [(.pointer (some ⟨b1, 0, none⟩))] w (rdw s) (by decide) (fun w' hbl y hy => by
      simp only [List.mem_cons, List.not_mem_nil, or_false] at hy
      rcases hy with rfl | rfl | rfl <;> exact pf_page1 L _ b1 w' (rb_below s hbl) (by decide) (by decide) (by decide))) rfl ?_
  refine to_fix (s := 23) (b' := false) rfl (rfl) ?_
  refine to_not rfl rfl ?_
  refine to_mv rfl rfl ?_
  refine to_gt rfl rfl ?_
  first | refine to_fa rfl rfl rfl (by simp only [Nat.reduceAdd]; rfl) rfl ?_ | refine to_fae rfl rfl rfl (by simp only [Nat.reduceAdd]; rfl) rfl ?_
  refine to_gt rfl rfl ?_
  first | refine to_lds rfl rfl rfl ?_ | refine to_ldes rfl (by assumption) rfl rfl ?_
  refine to_gt rfl rfl ?_
  refine to_mf rfl rfl rfl ?_
  refine to_gt rfl rfl ?_
  refine to_call0 rfl rfl (fun w s => pf_conE (ensB L) _ _ _ [(.pointer (some ⟨b1, 0, none⟩))] w (rdw s) (by show 3 ≤ 1000000; decide) (fun w' hbl y hy => pf_page2 L y b1 w' (rb_below s hbl) ((hk.up (belowH_of s)).up ⟨hbl.size, fun k hk => hbl.block k hk⟩) hy)) rfl ?_
  refine to_fix (s := 29) (b' := false) rfl (rfl) ?_
  refine to_gt rfl rfl ?_
  refine to_not rfl rfl ?_
  refine to_pkT rfl rfl rfl ?_
  refine to_as rfl rfl ?_
  refine to_nil ?_
  refine tn_code ?_
  refine t_ret1 rfl rfl (res_tmp rfl) (fun w' s => ?_)
  rfl

end Go.Proofs


namespace Go.Proofs
open Go Go.Sx Go.RowKit

/-- Where the parts of a page that is worked on lie. -/
structure PgA where
  na : Option Addr
  nc : Nat
  sa : Option Addr
  sc : Nat
  r : Nat
  ha : Option Addr
  hc : Nat
  xa : Option Addr
  xn : Nat
  xc : Nat
abbrev pgC (L : PgL) (A : PgA) : List Value := [.int .i64 4, .slice L.la 3 L.lc, .slice L.ga 3 L.gc, .slice A.na 3 A.nc, .slice A.sa 3 A.sc, .map (some A.r), .slice A.ha 3 A.hc, .slice A.xa A.xn A.xc]
def psF : List (Int × Int) := [(1, 1), (1, 2), (2, 1), (2, 2), (0, 0), (0, 3), (1, 0), (1, 3)]
/-- The page, when all its entries are done. -/
structure PgF (L : PgL) (A : PgA) (bp : Nat) (w : World) (lo hi : Nat) : Prop where
  bp : Rb w lo hi bp (pgC L A)
  rd : MbB w lo hi A.r psF
  st : Ro w lo hi A.sa 3 A.sc 1 (ints [2, 1, 0])
theorem PgF.up {L : PgL} {A : PgA} {bp : Nat} {w w' : World} (h : PgF L A bp w 0 w.heap.size) (hb : BelowH w w') : PgF L A bp w' 0 w'.heap.size :=
  ⟨rb_up h.bp hb, ⟨Nat.zero_le _, Nat.lt_of_lt_of_le h.rd.hi hb.1, by obtain ⟨o, h1, h2⟩ := h.rd.here; exact ⟨o, (hb.2 _ h.rd.hi).trans h1, h2⟩⟩, ro_up h.st hb⟩
def RRd9 : Nat → World → Value → Prop := fun _ _ v => ∃ a n c, v = .slice a n c ∧ 2 ≤ n

set_option maxRecDepth 20000 in
theorem pf_readers0 (L : PgL) (A : PgA) (bp : Nat) (w : World) (h : PgF L A bp w 0 w.heap.size) : Calls Tryz.prog 90 #[(.pointer (some ⟨bp, 0, none⟩)), (.int .i64 0)] w (Ret w (RRd9)) := by
  have hb := h.bp
  have hrd := h.rd
  have hst := h.st
  have e0 : (ints [2, 1, 0])[0]? = some [.int .i64 2] := rfl
  refine calls_T (av := [_, _]) Tryz.func90 rfl rfl rfl ?_
  refine t_seq ?_
  refine t_reg ?_
  refine to_as rfl rfl ?_
  refine to_nil ?_
  refine tn_code ?_
  refine t_seq ?_
  refine t_nilrow 3 1 ?_
  refine t_reg ?_
  refine to_as rfl rfl ?_
  refine to_nil ?_
  refine tn_code ?_
  refine t_seq ?_
  refine t_seq ?_
  refine t_reg ?_
  refine to_mv rfl rfl ?_
  refine to_nc rfl rfl ?_
  first | refine to_fa rfl rfl rfl (by simp only [Nat.reduceAdd]; rfl) rfl ?_ | refine to_fae rfl rfl rfl (by simp only [Nat.reduceAdd]; rfl) rfl ?_
  first | refine to_fa rfl rfl rfl (by simp only [Nat.reduceAdd]; rfl) rfl ?_ | refine to_fae rfl rfl rfl (by simp only [Nat.reduceAdd]; rfl) rfl ?_
  first | refine to_lds rfl rfl rfl ?_ | refine to_ldes rfl (by assumption) rfl rfl ?_
  refine to_mv rfl rfl ?_
  refine to_nil ?_
  refine tn_code ?_
  refine t_blk ?_
  refine t_unrollN 5 ?_
  refine t_seq ?_
  refine t_reg ?_
  refine to_lss rfl rfl rfl ?_
  refine to_fix (s := 13) (b' := true) rfl (rfl) ?_
  refine to_nil ?_
  refine tn_code ?_
  refine t_seq ?_
  refine t_ifT rfl ?_
  refine t_skip ?_
  refine tn_code ?_
  refine t_seq ?_
  refine t_blk ?_
  refine t_seq ?_
  refine t_reg ?_
  refine to_mv rfl rfl ?_
  refine to_as rfl rfl ?_
  refine to_nil ?_
  refine tn_code ?_
  refine t_seq ?_
  refine t_reg ?_
  refine to_mv rfl rfl ?_
  refine to_nc rfl rfl ?_
  first | refine to_fa rfl rfl rfl (by simp only [Nat.reduceAdd]; rfl) rfl ?_ | refine to_fae rfl rfl rfl (by simp only [Nat.reduceAdd]; rfl) rfl ?_
  first | refine to_lds rfl rfl rfl ?_ | refine to_ldes rfl (by assumption) rfl rfl ?_
  refine to_mv rfl rfl ?_
  refine to_mv rfl rfl ?_
  refine to_bs rfl rfl ?_
  refine to_lkmb rfl rfl (fun w => by kernel_rfl) rfl ?_
  refine to_fix (s := 22) (b' := true) rfl (rfl) ?_
  refine to_mv rfl rfl ?_
  refine to_gt rfl rfl ?_
  refine to_mv rfl rfl ?_
  refine to_gt rfl rfl ?_
  refine to_mv rfl rfl ?_
  refine to_gt rfl rfl ?_
  refine to_nc rfl rfl ?_
  refine to_gt rfl rfl ?_
  first | refine to_fa rfl rfl rfl (by simp only [Nat.reduceAdd]; rfl) rfl ?_ | refine to_fae rfl rfl rfl (by simp only [Nat.reduceAdd]; rfl) rfl ?_
  refine to_gt rfl rfl ?_
  first | refine to_lds rfl rfl rfl ?_ | refine to_ldes rfl (by assumption) rfl rfl ?_
  refine to_gt rfl rfl ?_
  refine to_mv rfl rfl ?_
  refine to_gt rfl rfl ?_
  first | refine to_ix rfl rfl rfl (by first | omega | decide) (by first | omega | decide) rfl ?_ | refine to_ixi rfl rfl rfl (by omega) (by omega) (by omega) rfl ?_
  refine to_gt rfl rfl ?_
  first | refine to_lds rfl rfl rfl ?_ | refine to_ldes rfl (by assumption) rfl rfl ?_
  refine to_gt rfl rfl ?_
  refine to_neq rfl rfl rfl ?_
  refine to_fix (s := 32) (b' := true) rfl (rfl) ?_
  refine to_pkT rfl rfl rfl ?_
  refine to_nil ?_
  refine tn_code ?_
  refine t_ifT rfl ?_
  refine t_reg ?_
  refine to_mv rfl rfl ?_
  refine to_mv rfl rfl ?_
  refine to_bsl rfl rfl rfl rfl (fun a36 => ?_)
  refine to_app rfl rfl rfl (by simp [scals, scal]) (by decide) (by omega) (by decide) rfl (fun a37 c37 => ?_)
  refine to_as rfl rfl ?_
  refine to_nil ?_
  refine tn_blk ?_
  refine tn_code ?_
  refine t_reg ?_
  refine to_add rfl rfl (by decide) rfl ?_
  refine to_fixv (s := 38) (v' := .int .i64 1) rfl rfl ?_
  refine to_mv rfl rfl ?_
  refine to_nil ?_
  refine tn_unroll ?_
  refine t_seq ?_
  refine t_reg ?_
  refine to_lss rfl rfl rfl ?_
  refine to_fix (s := 13) (b' := true) rfl (rfl) ?_
  refine to_nil ?_
  refine tn_code ?_
  refine t_seq ?_
  refine t_ifT rfl ?_
  refine t_skip ?_
  refine tn_code ?_
  refine t_seq ?_
  refine t_blk ?_
  refine t_seq ?_
  refine t_reg ?_
  refine to_mv rfl rfl ?_
  refine to_as rfl rfl ?_
  refine to_nil ?_
  refine tn_code ?_
  refine t_seq ?_
  refine t_reg ?_
  refine to_mv rfl rfl ?_
  refine to_nc rfl rfl ?_
  first | refine to_fa rfl rfl rfl (by simp only [Nat.reduceAdd]; rfl) rfl ?_ | refine to_fae rfl rfl rfl (by simp only [Nat.reduceAdd]; rfl) rfl ?_
  first | refine to_lds rfl rfl rfl ?_ | refine to_ldes rfl (by assumption) rfl rfl ?_
  refine to_mv rfl rfl ?_
  refine to_mv rfl rfl ?_
  refine to_bs rfl rfl ?_
  refine to_lkmb rfl rfl (fun w => by kernel_rfl) rfl ?_
  refine to_fix (s := 22) (b' := false) rfl (rfl) ?_
  refine to_mv rfl rfl ?_
  refine to_gf rfl rfl rfl rfl ?_
  refine to_gf rfl rfl rfl rfl ?_
  refine to_gf rfl rfl rfl rfl ?_
  refine to_gf rfl rfl rfl rfl ?_
  refine to_gf rfl rfl rfl rfl ?_
  refine to_gf rfl rfl rfl rfl ?_
  refine to_gf rfl rfl rfl rfl ?_
  refine to_gf rfl rfl rfl rfl ?_
  refine to_gf rfl rfl rfl rfl ?_
  refine to_pkF rfl rfl rfl ?_
  refine to_nil ?_
  refine tn_code ?_
  refine t_ifF rfl ?_
  refine t_skip ?_
  refine tn_blk ?_
  refine tn_code ?_
  refine t_reg ?_
  refine to_add rfl rfl (by decide) rfl ?_
  refine to_fixv (s := 38) (v' := .int .i64 2) rfl rfl ?_
  refine to_mv rfl rfl ?_
  refine to_nil ?_
  refine tn_unroll ?_
  refine t_seq ?_
  refine t_reg ?_
  refine to_lss rfl rfl rfl ?_
  refine to_fix (s := 13) (b' := true) rfl (rfl) ?_
  refine to_nil ?_
  refine tn_code ?_
  refine t_seq ?_
  refine t_ifT rfl ?_
  refine t_skip ?_
  refine tn_code ?_
  refine t_seq ?_
  refine t_blk ?_
  refine t_seq ?_
  refine t_reg ?_
  refine to_mv rfl rfl ?_
  refine to_as rfl rfl ?_
  refine to_nil ?_
  refine tn_code ?_
  refine t_seq ?_
  refine t_reg ?_
  refine to_mv rfl rfl ?_
  refine to_nc rfl rfl ?_
  first | refine to_fa rfl rfl rfl (by simp only [Nat.reduceAdd]; rfl) rfl ?_ | refine to_fae rfl rfl rfl (by simp only [Nat.reduceAdd]; rfl) rfl ?_
  first | refine to_lds rfl rfl rfl ?_ | refine to_ldes rfl (by assumption) rfl rfl ?_
  refine to_mv rfl rfl ?_
  refine to_mv rfl rfl ?_
  refine to_bs rfl rfl ?_
  refine to_lkmb rfl rfl (fun w => by kernel_rfl) rfl ?_
  refine to_fix (s := 22) (b' := false) rfl (rfl) ?_
  refine to_mv rfl rfl ?_
  refine to_gf rfl rfl rfl rfl ?_
  refine to_gf rfl rfl rfl rfl ?_
  refine to_gf rfl rfl rfl rfl ?_
  refine to_gf rfl rfl rfl rfl ?_
  refine to_gf rfl rfl rfl rfl ?_
  refine to_gf rfl rfl rfl rfl ?_
  refine to_gf rfl rfl rfl rfl ?_
  refine to_gf rfl rfl rfl rfl ?_
  refine to_gf rfl rfl rfl rfl ?_
  refine to_pkF rfl rfl rfl ?_
  refine to_nil ?_
  refine tn_code ?_
  refine t_ifF rfl ?_
  refine t_skip ?_
  refine tn_blk ?_
  refine tn_code ?_
  refine t_reg ?_
  refine to_add rfl rfl (by decide) rfl ?_
  refine to_fixv (s := 38) (v' := .int .i64 3) rfl rfl ?_
  refine to_mv rfl rfl ?_
  refine to_nil ?_
  refine tn_unroll ?_
  refine t_seq ?_
  refine t_reg ?_
  refine to_lss rfl rfl rfl ?_
  refine to_fix (s := 13) (b' := true) rfl (rfl) ?_
  refine to_nil ?_
  refine tn_code ?_
  refine t_seq ?_
  refine t_ifT rfl ?_
  refine t_skip ?_
  refine tn_code ?_
  refine t_seq ?_
  refine t_blk ?_
  refine t_seq ?_
  refine t_reg ?_
  refine to_mv rfl rfl ?_
  refine to_as rfl rfl ?_
  refine to_nil ?_
  refine tn_code ?_
  refine t_seq ?_
  refine t_reg ?_
  refine to_mv rfl rfl ?_
  refine to_nc rfl rfl ?_
  first | refine to_fa rfl rfl rfl (by simp only [Nat.reduceAdd]; rfl) rfl ?_ | refine to_fae rfl rfl rfl (by simp only [Nat.reduceAdd]; rfl) rfl ?_
  first | refine to_lds rfl rfl rfl ?_ | refine to_ldes rfl (by assumption) rfl rfl ?_
  refine to_mv rfl rfl ?_
  refine to_mv rfl rfl ?_
  refine to_bs rfl rfl ?_
  refine to_lkmb rfl rfl (fun w => by kernel_rfl) rfl ?_
  refine to_fix (s := 22) (b' := true) rfl (rfl) ?_
  refine to_mv rfl rfl ?_
  refine to_gt rfl rfl ?_
  refine to_mv rfl rfl ?_
  refine to_gt rfl rfl ?_
  refine to_mv rfl rfl ?_
  refine to_gt rfl rfl ?_
  refine to_nc rfl rfl ?_
  refine to_gt rfl rfl ?_
  first | refine to_fa rfl rfl rfl (by simp only [Nat.reduceAdd]; rfl) rfl ?_ | refine to_fae rfl rfl rfl (by simp only [Nat.reduceAdd]; rfl) rfl ?_
  refine to_gt rfl rfl ?_
  first | refine to_lds rfl rfl rfl ?_ | refine to_ldes rfl (by assumption) rfl rfl ?_
  refine to_gt rfl rfl ?_
  refine to_mv rfl rfl ?_
  refine to_gt rfl rfl ?_
  first | refine to_ix rfl rfl rfl (by first | omega | decide) (by first | omega | decide) rfl ?_ | refine to_ixi rfl rfl rfl (by omega) (by omega) (by omega) rfl ?_
  refine to_gt rfl rfl ?_
  first | refine to_lds rfl rfl rfl ?_ | refine to_ldes rfl (by assumption) rfl rfl ?_
  refine to_gt rfl rfl ?_
  refine to_neq rfl rfl rfl ?_
  refine to_fix (s := 32) (b' := true) rfl (rfl) ?_
  refine to_pkT rfl rfl rfl ?_
  refine to_nil ?_
  refine tn_code ?_
  refine t_ifT rfl ?_
  refine t_reg ?_
  refine to_mv rfl rfl ?_
  refine to_mv rfl rfl ?_
  refine to_bsl rfl rfl rfl rfl (fun a36 => ?_)
  refine to_app rfl rfl rfl (by simp [scals, scal]) (by decide) (by omega) (by decide) rfl (fun a37 c37 => ?_)
  refine to_as rfl rfl ?_
  refine to_nil ?_
  refine tn_blk ?_
  refine tn_code ?_
  refine t_reg ?_
  refine to_add rfl rfl (by decide) rfl ?_
  refine to_fixv (s := 38) (v' := .int .i64 4) rfl rfl ?_
  refine to_mv rfl rfl ?_
  refine to_nil ?_
  refine tn_unroll ?_
  refine t_seq ?_
  refine t_reg ?_
  refine to_lss rfl rfl rfl ?_
  refine to_fix (s := 13) (b' := false) rfl (rfl) ?_
  refine to_nil ?_
  refine tn_code ?_
  refine t_seq ?_
  refine t_ifF rfl ?_
  refine t_exit ?_
  refine tx_code ?_
  refine tx_inv ?_
  refine tx_blk ?_
  refine tn_code ?_
  refine t_seq ?_
  refine t_reg ?_
  refine to_mv rfl rfl ?_
  refine to_as rfl rfl ?_
  refine to_nil ?_
  refine tn_code ?_
  refine t_ret1 rfl rfl (res_tmp rfl) (fun w' s => ?_)
  exact ⟨_, _, _, rfl, by decide⟩

set_option maxRecDepth 20000 in
theorem pf_readers1 (L : PgL) (A : PgA) (bp : Nat) (w : World) (h : PgF L A bp w 0 w.heap.size) : Calls Tryz.prog 90 #[(.pointer (some ⟨bp, 0, none⟩)), (.int .i64 1)] w (Ret w (RRd9)) := by
  have hb := h.bp
  have hrd := h.rd
  have hst := h.st
  have e1 : (ints [2, 1, 0])[1]? = some [.int .i64 1] := rfl
  refine calls_T (av := [_, _]) Tryz.func90 rfl rfl rfl ?_
  refine t_seq ?_
  refine t_reg ?_
  refine to_as rfl rfl ?_
  refine to_nil ?_
  refine tn_code ?_
  refine t_seq ?_
  refine t_nilrow 3 1 ?_
  refine t_reg ?_
  refine to_as rfl rfl ?_
  refine to_nil ?_
  refine tn_code ?_
  refine t_seq ?_
  refine t_seq ?_
  refine t_reg ?_
  refine to_mv rfl rfl ?_
  refine to_nc rfl rfl ?_
  first | refine to_fa rfl rfl rfl (by simp only [Nat.reduceAdd]; rfl) rfl ?_ | refine to_fae rfl rfl rfl (by simp only [Nat.reduceAdd]; rfl) rfl ?_
  first | refine to_fa rfl rfl rfl (by simp only [Nat.reduceAdd]; rfl) rfl ?_ | refine to_fae rfl rfl rfl (by simp only [Nat.reduceAdd]; rfl) rfl ?_
  first | refine to_lds rfl rfl rfl ?_ | refine to_ldes rfl (by assumption) rfl rfl ?_
  refine to_mv rfl rfl ?_
  refine to_nil ?_
  refine tn_code ?_
  refine t_blk ?_
  refine t_unrollN 5 ?_
  refine t_seq ?_
  refine t_reg ?_
  refine to_lss rfl rfl rfl ?_
  refine to_fix (s := 13) (b' := true) rfl (rfl) ?_
  refine to_nil ?_
  refine tn_code ?_
  refine t_seq ?_
  refine t_ifT rfl ?_
  refine t_skip ?_
  refine tn_code ?_
  refine t_seq ?_
  refine t_blk ?_
  refine t_seq ?_
  refine t_reg ?_
  refine to_mv rfl rfl ?_
  refine to_as rfl rfl ?_
  refine to_nil ?_
  refine tn_code ?_
  refine t_seq ?_
  refine t_reg ?_
  refine to_mv rfl rfl ?_
  refine to_nc rfl rfl ?_
  first | refine to_fa rfl rfl rfl (by simp only [Nat.reduceAdd]; rfl) rfl ?_ | refine to_fae rfl rfl rfl (by simp only [Nat.reduceAdd]; rfl) rfl ?_
  first | refine to_lds rfl rfl rfl ?_ | refine to_ldes rfl (by assumption) rfl rfl ?_
  refine to_mv rfl rfl ?_
  refine to_mv rfl rfl ?_
  refine to_bs rfl rfl ?_
  refine to_lkmb rfl rfl (fun w => by kernel_rfl) rfl ?_
  refine to_fix (s := 22) (b' := true) rfl (rfl) ?_
  refine to_mv rfl rfl ?_
  refine to_gt rfl rfl ?_
  refine to_mv rfl rfl ?_
  refine to_gt rfl rfl ?_
  refine to_mv rfl rfl ?_
  refine to_gt rfl rfl ?_
  refine to_nc rfl rfl ?_
  refine to_gt rfl rfl ?_
  first | refine to_fa rfl rfl rfl (by simp only [Nat.reduceAdd]; rfl) rfl ?_ | refine to_fae rfl rfl rfl (by simp only [Nat.reduceAdd]; rfl) rfl ?_
  refine to_gt rfl rfl ?_
  first | refine to_lds rfl rfl rfl ?_ | refine to_ldes rfl (by assumption) rfl rfl ?_
  refine to_gt rfl rfl ?_
  refine to_mv rfl rfl ?_
  refine to_gt rfl rfl ?_
  first | refine to_ix rfl rfl rfl (by first | omega | decide) (by first | omega | decide) rfl ?_ | refine to_ixi rfl rfl rfl (by omega) (by omega) (by omega) rfl ?_
  refine to_gt rfl rfl ?_
  first | refine to_lds rfl rfl rfl ?_ | refine to_ldes rfl (by assumption) rfl rfl ?_
  refine to_gt rfl rfl ?_
  refine to_neq rfl rfl rfl ?_
  refine to_fix (s := 32) (b' := true) rfl (rfl) ?_
  refine to_pkT rfl rfl rfl ?_
  refine to_nil ?_
  refine tn_code ?_
  refine t_ifT rfl ?_
  refine t_reg ?_
  refine to_mv rfl rfl ?_
  refine to_mv rfl rfl ?_
  refine to_bsl rfl rfl rfl rfl (fun a36 => ?_)
  refine to_app rfl rfl rfl (by simp [scals, scal]) (by decide) (by omega) (by decide) rfl (fun a37 c37 => ?_)
  refine to_as rfl rfl ?_
  refine to_nil ?_
  refine tn_blk ?_
  refine tn_code ?_
  refine t_reg ?_
  refine to_add rfl rfl (by decide) rfl ?_
  refine to_fixv (s := 38) (v' := .int .i64 1) rfl rfl ?_
  refine to_mv rfl rfl ?_
  refine to_nil ?_
  refine tn_unroll ?_
  refine t_seq ?_
  refine t_reg ?_
  refine to_lss rfl rfl rfl ?_
  refine to_fix (s := 13) (b' := true) rfl (rfl) ?_
  refine to_nil ?_
  refine tn_code ?_
  refine t_seq ?_
  refine t_ifT rfl ?_
  refine t_skip ?_
  refine tn_code ?_
  refine t_seq ?_
  refine t_blk ?_
  refine t_seq ?_
  refine t_reg ?_
  refine to_mv rfl rfl ?_
  refine to_as rfl rfl ?_
  refine to_nil ?_
  refine tn_code ?_
  refine t_seq ?_
  refine t_reg ?_
  refine to_mv rfl rfl ?_
  refine to_nc rfl rfl ?_
  first | refine to_fa rfl rfl rfl (by simp only [Nat.reduceAdd]; rfl) rfl ?_ | refine to_fae rfl rfl rfl (by simp only [Nat.reduceAdd]; rfl) rfl ?_
  first | refine to_lds rfl rfl rfl ?_ | refine to_ldes rfl (by assumption) rfl rfl ?_
  refine to_mv rfl rfl ?_
  refine to_mv rfl rfl ?_
  refine to_bs rfl rfl ?_
  refine to_lkmb rfl rfl (fun w => by kernel_rfl) rfl ?_
  refine to_fix (s := 22) (b' := true) rfl (rfl) ?_
  refine to_mv rfl rfl ?_
  refine to_gt rfl rfl ?_
  refine to_mv rfl rfl ?_
  refine to_gt rfl rfl ?_
  refine to_mv rfl rfl ?_
  refine to_gt rfl rfl ?_
  refine to_nc rfl rfl ?_
  refine to_gt rfl rfl ?_
  first | refine to_fa rfl rfl rfl (by simp only [Nat.reduceAdd]; rfl) rfl ?_ | refine to_fae rfl rfl rfl (by simp only [Nat.reduceAdd]; rfl) rfl ?_
  refine to_gt rfl rfl ?_
  first | refine to_lds rfl rfl rfl ?_ | refine to_ldes rfl (by assumption) rfl rfl ?_
  refine to_gt rfl rfl ?_
  refine to_mv rfl rfl ?_
  refine to_gt rfl rfl ?_
  first | refine to_ix rfl rfl rfl (by first | omega | decide) (by first | omega | decide) rfl ?_ | refine to_ixi rfl rfl rfl (by omega) (by omega) (by omega) rfl ?_
  refine to_gt rfl rfl ?_
  first | refine to_lds rfl rfl rfl ?_ | refine to_ldes rfl (by assumption) rfl rfl ?_
  refine to_gt rfl rfl ?_
  refine to_neq rfl rfl rfl ?_
  refine to_fix (s := 32) (b' := false) rfl (rfl) ?_
  refine to_pkT rfl rfl rfl ?_
  refine to_nil ?_
  refine tn_code ?_
  refine t_ifF rfl ?_
  refine t_skip ?_
  refine tn_blk ?_
  refine tn_code ?_
  refine t_reg ?_
  refine to_add rfl rfl (by decide) rfl ?_
  refine to_fixv (s := 38) (v' := .int .i64 2) rfl rfl ?_
  refine to_mv rfl rfl ?_
  refine to_nil ?_
  refine tn_unroll ?_
  refine t_seq ?_
  refine t_reg ?_
  refine to_lss rfl rfl rfl ?_
  refine to_fix (s := 13) (b' := true) rfl (rfl) ?_
  refine to_nil ?_
  refine tn_code ?_
  refine t_seq ?_
  refine t_ifT rfl ?_
  refine t_skip ?_
  refine tn_code ?_
  refine t_seq ?_
  refine t_blk ?_
  refine t_seq ?_
  refine t_reg ?_
  refine to_mv rfl rfl ?_
  refine to_as rfl rfl ?_
  refine to_nil ?_
  refine tn_code ?_
  refine t_seq ?_
  refine t_reg ?_
  refine to_mv rfl rfl ?_
  refine to_nc rfl rfl ?_
  first | refine to_fa rfl rfl rfl (by simp only [Nat.reduceAdd]; rfl) rfl ?_ | refine to_fae rfl rfl rfl (by simp only [Nat.reduceAdd]; rfl) rfl ?_
  first | refine to_lds rfl rfl rfl ?_ | refine to_ldes rfl (by assumption) rfl rfl ?_
  refine to_mv rfl rfl ?_
  refine to_mv rfl rfl ?_
  refine to_bs rfl rfl ?_
  refine to_lkmb rfl rfl (fun w => by kernel_rfl) rfl ?_
  refine to_fix (s := 22) (b' := true) rfl (rfl) ?_
  refine to_mv rfl rfl ?_
  refine to_gt rfl rfl ?_
  refine to_mv rfl rfl ?_
  refine to_gt rfl rfl ?_
  refine to_mv rfl rfl ?_
  refine to_gt rfl rfl ?_
  refine to_nc rfl rfl ?_
  refine to_gt rfl rfl ?_
  first | refine to_fa rfl rfl rfl (by simp only [Nat.reduceAdd]; rfl) rfl ?_ | refine to_fae rfl rfl rfl (by simp only [Nat.reduceAdd]; rfl) rfl ?_
  refine to_gt rfl rfl ?_
  first | refine to_lds rfl rfl rfl ?_ | refine to_ldes rfl (by assumption) rfl rfl ?_
  refine to_gt rfl rfl ?_
  refine to_mv rfl rfl ?_
  refine to_gt rfl rfl ?_
  first | refine to_ix rfl rfl rfl (by first | omega | decide) (by first | omega | decide) rfl ?_ | refine to_ixi rfl rfl rfl (by omega) (by omega) (by omega) rfl ?_
  refine to_gt rfl rfl ?_
  first | refine to_lds rfl rfl rfl ?_ | refine to_ldes rfl (by assumption) rfl rfl ?_
  refine to_gt rfl rfl ?_
  refine to_neq rfl rfl rfl ?_
  refine to_fix (s := 32) (b' := true) rfl (rfl) ?_
  refine to_pkT rfl rfl rfl ?_
  refine to_nil ?_
  refine tn_code ?_
  refine t_ifT rfl ?_
  refine t_reg ?_
  refine to_mv rfl rfl ?_
  refine to_mv rfl rfl ?_
  refine to_bsl rfl rfl rfl rfl (fun a36 => ?_)
  refine to_app rfl rfl rfl (by simp [scals, scal]) (by decide) (by omega) (by decide) rfl (fun a37 c37 => ?_)
  refine to_as rfl rfl ?_
  refine to_nil ?_
  refine tn_blk ?_
  refine tn_code ?_
  refine t_reg ?_
  refine to_add rfl rfl (by decide) rfl ?_
  refine to_fixv (s := 38) (v' := .int .i64 3) rfl rfl ?_
  refine to_mv rfl rfl ?_
  refine to_nil ?_
  refine tn_unroll ?_
  refine t_seq ?_
  refine t_reg ?_
  refine to_lss rfl rfl rfl ?_
  refine to_fix (s := 13) (b' := true) rfl (rfl) ?_
  refine to_nil ?_
  refine tn_code ?_
  refine t_seq ?_
  refine t_ifT rfl ?_
  refine t_skip ?_
  refine tn_code ?_
  refine t_seq ?_
  refine t_blk ?_
  refine t_seq ?_
  refine t_reg ?_
  refine to_mv rfl rfl ?_
  refine to_as rfl rfl ?_
  refine to_nil ?_
  refine tn_code ?_
  refine t_seq ?_
  refine t_reg ?_
  refine to_mv rfl rfl ?_
  refine to_nc rfl rfl ?_
  first | refine to_fa rfl rfl rfl (by simp only [Nat.reduceAdd]; rfl) rfl ?_ | refine to_fae rfl rfl rfl (by simp only [Nat.reduceAdd]; rfl) rfl ?_
  first | refine to_lds rfl rfl rfl ?_ | refine to_ldes rfl (by assumption) rfl rfl ?_
  refine to_mv rfl rfl ?_
  refine to_mv rfl rfl ?_
  refine to_bs rfl rfl ?_
  refine to_lkmb rfl rfl (fun w => by kernel_rfl) rfl ?_
  refine to_fix (s := 22) (b' := true) rfl (rfl) ?_
  refine to_mv rfl rfl ?_
  refine to_gt rfl rfl ?_
  refine to_mv rfl rfl ?_
  refine to_gt rfl rfl ?_
  refine to_mv rfl rfl ?_
  refine to_gt rfl rfl ?_
  refine to_nc rfl rfl ?_
  refine to_gt rfl rfl ?_
  first | refine to_fa rfl rfl rfl (by simp only [Nat.reduceAdd]; rfl) rfl ?_ | refine to_fae rfl rfl rfl (by simp only [Nat.reduceAdd]; rfl) rfl ?_
  refine to_gt rfl rfl ?_
  first | refine to_lds rfl rfl rfl ?_ | refine to_ldes rfl (by assumption) rfl rfl ?_
  refine to_gt rfl rfl ?_
  refine to_mv rfl rfl ?_
  refine to_gt rfl rfl ?_
  first | refine to_ix rfl rfl rfl (by first | omega | decide) (by first | omega | decide) rfl ?_ | refine to_ixi rfl rfl rfl (by omega) (by omega) (by omega) rfl ?_
  refine to_gt rfl rfl ?_
  first | refine to_lds rfl rfl rfl ?_ | refine to_ldes rfl (by assumption) rfl rfl ?_
  refine to_gt rfl rfl ?_
  refine to_neq rfl rfl rfl ?_
  refine to_fix (s := 32) (b' := true) rfl (rfl) ?_
  refine to_pkT rfl rfl rfl ?_
  refine to_nil ?_
  refine tn_code ?_
  refine t_ifT rfl ?_
  refine t_reg ?_
  refine to_mv rfl rfl ?_
  refine to_mv rfl rfl ?_
  refine to_bsl rfl rfl rfl rfl (fun a36 => ?_)
  refine to_app rfl rfl rfl (by simp [scals, scal]) (by decide) (by omega) (by decide) rfl (fun a37 c37 => ?_)
  refine to_as rfl rfl ?_
  refine to_nil ?_
  refine tn_blk ?_
  refine tn_code ?_
  refine t_reg ?_
  refine to_add rfl rfl (by decide) rfl ?_
  refine to_fixv (s := 38) (v' := .int .i64 4) rfl rfl ?_
  refine to_mv rfl rfl ?_
  refine to_nil ?_
  refine tn_unroll ?_
  refine t_seq ?_
  refine t_reg ?_
  refine to_lss rfl rfl rfl ?_
  refine to_fix (s := 13) (b' := false) rfl (rfl) ?_
  refine to_nil ?_
  refine tn_code ?_
  refine t_seq ?_
  refine t_ifF rfl ?_
  refine t_exit ?_
  refine tx_code ?_
  refine tx_inv ?_
  refine tx_blk ?_
  refine tn_code ?_
  refine t_seq ?_
  refine t_reg ?_
  refine to_mv rfl rfl ?_
  refine to_as rfl rfl ?_
  refine to_nil ?_
  refine tn_code ?_
  refine t_ret1 rfl rfl (res_tmp rfl) (fun w' s => ?_)
  exact ⟨_, _, _, rfl, by decide⟩

set_option maxRecDepth 20000 in
theorem pf_readers2 (L : PgL) (A : PgA) (bp : Nat) (w : World) (h : PgF L A bp w 0 w.heap.size) : Calls Tryz.prog 90 #[(.pointer (some ⟨bp, 0, none⟩)), (.int .i64 2)] w (Ret w (RRd9)) := by
  have hb := h.bp
  have hrd := h.rd
  have hst := h.st
  have e2 : (ints [2, 1, 0])[2]? = some [.int .i64 0] := rfl
  refine calls_T (av := [_, _]) Tryz.func90 rfl rfl rfl ?_
  refine t_seq ?_
  refine t_reg ?_
  refine to_as rfl rfl ?_
  refine to_nil ?_
  refine tn_code ?_
  refine t_seq ?_
  refine t_nilrow 3 1 ?_
  refine t_reg ?_
  refine to_as rfl rfl ?_
  refine to_nil ?_
  refine tn_code ?_
  refine t_seq ?_
  refine t_seq ?_
  refine t_reg ?_
  refine to_mv rfl rfl ?_
  refine to_nc rfl rfl ?_
  first | refine to_fa rfl rfl rfl (by simp only [Nat.reduceAdd]; rfl) rfl ?_ | refine to_fae rfl rfl rfl (by simp only [Nat.reduceAdd]; rfl) rfl ?_
  first | refine to_fa rfl rfl rfl (by simp only [Nat.reduceAdd]; rfl) rfl ?_ | refine to_fae rfl rfl rfl (by simp only [Nat.reduceAdd]; rfl) rfl ?_
  first | refine to_lds rfl rfl rfl ?_ | refine to_ldes rfl (by assumption) rfl rfl ?_
  refine to_mv rfl rfl ?_
  refine to_nil ?_
  refine tn_code ?_
  refine t_blk ?_
  refine t_unrollN 5 ?_
  refine t_seq ?_
  refine t_reg ?_
  refine to_lss rfl rfl rfl ?_
  refine to_fix (s := 13) (b' := true) rfl (rfl) ?_
  refine to_nil ?_
  refine tn_code ?_
  refine t_seq ?_
  refine t_ifT rfl ?_
  refine t_skip ?_
  refine tn_code ?_
  refine t_seq ?_
  refine t_blk ?_
  refine t_seq ?_
  refine t_reg ?_
  refine to_mv rfl rfl ?_
  refine to_as rfl rfl ?_
  refine to_nil ?_
  refine tn_code ?_
  refine t_seq ?_
  refine t_reg ?_
  refine to_mv rfl rfl ?_
  refine to_nc rfl rfl ?_
  first | refine to_fa rfl rfl rfl (by simp only [Nat.reduceAdd]; rfl) rfl ?_ | refine to_fae rfl rfl rfl (by simp only [Nat.reduceAdd]; rfl) rfl ?_
  first | refine to_lds rfl rfl rfl ?_ | refine to_ldes rfl (by assumption) rfl rfl ?_
  refine to_mv rfl rfl ?_
  refine to_mv rfl rfl ?_
  refine to_bs rfl rfl ?_
  refine to_lkmb rfl rfl (fun w => by kernel_rfl) rfl ?_
  refine to_fix (s := 22) (b' := false) rfl (rfl) ?_
  refine to_mv rfl rfl ?_
  refine to_gf rfl rfl rfl rfl ?_
  refine to_gf rfl rfl rfl rfl ?_
  refine to_gf rfl rfl rfl rfl ?_
  refine to_gf rfl rfl rfl rfl ?_
  refine to_gf rfl rfl rfl rfl ?_
  refine to_gf rfl rfl rfl rfl ?_
  refine to_gf rfl rfl rfl rfl ?_
  refine to_gf rfl rfl rfl rfl ?_
  refine to_gf rfl rfl rfl rfl ?_
  refine to_pkF rfl rfl rfl ?_
  refine to_nil ?_
  refine tn_code ?_
  refine t_ifF rfl ?_
  refine t_skip ?_
  refine tn_blk ?_
  refine tn_code ?_
  refine t_reg ?_
  refine to_add rfl rfl (by decide) rfl ?_
  refine to_fixv (s := 38) (v' := .int .i64 1) rfl rfl ?_
  refine to_mv rfl rfl ?_
  refine to_nil ?_
  refine tn_unroll ?_
  refine t_seq ?_
  refine t_reg ?_
  refine to_lss rfl rfl rfl ?_
  refine to_fix (s := 13) (b' := true) rfl (rfl) ?_
  refine to_nil ?_
  refine tn_code ?_
  refine t_seq ?_
  refine t_ifT rfl ?_
  refine t_skip ?_
  refine tn_code ?_
  refine t_seq ?_
  refine t_blk ?_
  refine t_seq ?_
  refine t_reg ?_
  refine to_mv rfl rfl ?_
  refine to_as rfl rfl ?_
  refine to_nil ?_
  refine tn_code ?_
  refine t_seq ?_
  refine t_reg ?_
  refine to_mv rfl rfl ?_
  refine to_nc rfl rfl ?_
  first | refine to_fa rfl rfl rfl (by simp only [Nat.reduceAdd]; rfl) rfl ?_ | refine to_fae rfl rfl rfl (by simp only [Nat.reduceAdd]; rfl) rfl ?_
  first | refine to_lds rfl rfl rfl ?_ | refine to_ldes rfl (by assumption) rfl rfl ?_
  refine to_mv rfl rfl ?_
  refine to_mv rfl rfl ?_
  refine to_bs rfl rfl ?_
  refine to_lkmb rfl rfl (fun w => by kernel_rfl) rfl ?_
  refine to_fix (s := 22) (b' := true) rfl (rfl) ?_
  refine to_mv rfl rfl ?_
  refine to_gt rfl rfl ?_
  refine to_mv rfl rfl ?_
  refine to_gt rfl rfl ?_
  refine to_mv rfl rfl ?_
  refine to_gt rfl rfl ?_
  refine to_nc rfl rfl ?_
  refine to_gt rfl rfl ?_
  first | refine to_fa rfl rfl rfl (by simp only [Nat.reduceAdd]; rfl) rfl ?_ | refine to_fae rfl rfl rfl (by simp only [Nat.reduceAdd]; rfl) rfl ?_
  refine to_gt rfl rfl ?_
  first | refine to_lds rfl rfl rfl ?_ | refine to_ldes rfl (by assumption) rfl rfl ?_
  refine to_gt rfl rfl ?_
  refine to_mv rfl rfl ?_
  refine to_gt rfl rfl ?_
  first | refine to_ix rfl rfl rfl (by first | omega | decide) (by first | omega | decide) rfl ?_ | refine to_ixi rfl rfl rfl (by omega) (by omega) (by omega) rfl ?_
  refine to_gt rfl rfl ?_
  first | refine to_lds rfl rfl rfl ?_ | refine to_ldes rfl (by assumption) rfl rfl ?_
  refine to_gt rfl rfl ?_
  refine to_neq rfl rfl rfl ?_
  refine to_fix (s := 32) (b' := true) rfl (rfl) ?_
  refine to_pkT rfl rfl rfl ?_
  refine to_nil ?_
  refine tn_code ?_
  refine t_ifT rfl ?_
  refine t_reg ?_
  refine to_mv rfl rfl ?_
  refine to_mv rfl rfl ?_
  refine to_bsl rfl rfl rfl rfl (fun a36 => ?_)
  refine to_app rfl rfl rfl (by simp [scals, scal]) (by decide) (by omega) (by decide) rfl (fun a37 c37 => ?_)
  refine to_as rfl rfl ?_
  refine to_nil ?_
  refine tn_blk ?_
  refine tn_code ?_
  refine t_reg ?_
  refine to_add rfl rfl (by decide) rfl ?_
  refine to_fixv (s := 38) (v' := .int .i64 2) rfl rfl ?_
  refine to_mv rfl rfl ?_
  refine to_nil ?_
  refine tn_unroll ?_
  refine t_seq ?_
  refine t_reg ?_
  refine to_lss rfl rfl rfl ?_
  refine to_fix (s := 13) (b' := true) rfl (rfl) ?_
  refine to_nil ?_
  refine tn_code ?_
  refine t_seq ?_
  refine t_ifT rfl ?_
  refine t_skip ?_
  refine tn_code ?_
  refine t_seq ?_
  refine t_blk ?_
  refine t_seq ?_
  refine t_reg ?_
  refine to_mv rfl rfl ?_
  refine to_as rfl rfl ?_
  refine to_nil ?_
  refine tn_code ?_
  refine t_seq ?_
  refine t_reg ?_
  refine to_mv rfl rfl ?_
  refine to_nc rfl rfl ?_
  first | refine to_fa rfl rfl rfl (by simp only [Nat.reduceAdd]; rfl) rfl ?_ | refine to_fae rfl rfl rfl (by simp only [Nat.reduceAdd]; rfl) rfl ?_
  first | refine to_lds rfl rfl rfl ?_ | refine to_ldes rfl (by assumption) rfl rfl ?_
  refine to_mv rfl rfl ?_
  refine to_mv rfl rfl ?_
  refine to_bs rfl rfl ?_
  refine to_lkmb rfl rfl (fun w => by kernel_rfl) rfl ?_
  refine to_fix (s := 22) (b' := true) rfl (rfl) ?_
  refine to_mv rfl rfl ?_
  refine to_gt rfl rfl ?_
  refine to_mv rfl rfl ?_
  refine to_gt rfl rfl ?_
  refine to_mv rfl rfl ?_
  refine to_gt rfl rfl ?_
  refine to_nc rfl rfl ?_
  refine to_gt rfl rfl ?_
  first | refine to_fa rfl rfl rfl (by simp only [Nat.reduceAdd]; rfl) rfl ?_ | refine to_fae rfl rfl rfl (by simp only [Nat.reduceAdd]; rfl) rfl ?_
  refine to_gt rfl rfl ?_
  first | refine to_lds rfl rfl rfl ?_ | refine to_ldes rfl (by assumption) rfl rfl ?_
  refine to_gt rfl rfl ?_
  refine to_mv rfl rfl ?_
  refine to_gt rfl rfl ?_
  first | refine to_ix rfl rfl rfl (by first | omega | decide) (by first | omega | decide) rfl ?_ | refine to_ixi rfl rfl rfl (by omega) (by omega) (by omega) rfl ?_
  refine to_gt rfl rfl ?_
  first | refine to_lds rfl rfl rfl ?_ | refine to_ldes rfl (by assumption) rfl rfl ?_
  refine to_gt rfl rfl ?_
  refine to_neq rfl rfl rfl ?_
  refine to_fix (s := 32) (b' := true) rfl (rfl) ?_
  refine to_pkT rfl rfl rfl ?_
  refine to_nil ?_
  refine tn_code ?_
  refine t_ifT rfl ?_
  refine t_reg ?_
  refine to_mv rfl rfl ?_
  refine to_mv rfl rfl ?_
  refine to_bsl rfl rfl rfl rfl (fun a36 => ?_)
  refine to_app rfl rfl rfl (by simp [scals, scal]) (by decide) (by omega) (by decide) rfl (fun a37 c37 => ?_)
  refine to_as rfl rfl ?_
  refine to_nil ?_
  refine tn_blk ?_
  refine tn_code ?_
  refine t_reg ?_
  refine to_add rfl rfl (by decide) rfl ?_
  refine to_fixv (s := 38) (v' := .int .i64 3) rfl rfl ?_
  refine to_mv rfl rfl ?_
  refine to_nil ?_
  refine tn_unroll ?_
  refine t_seq ?_
  refine t_reg ?_
  refine to_lss rfl rfl rfl ?_
  refine to_fix (s := 13) (b' := true) rfl (rfl) ?_
  refine to_nil ?_
  refine tn_code ?_
  refine t_seq ?_
  refine t_ifT rfl ?_
  refine t_skip ?_
  refine tn_code ?_
  refine t_seq ?_
  refine t_blk ?_
  refine t_seq ?_
  refine t_reg ?_
  refine to_mv rfl rfl ?_
  refine to_as rfl rfl ?_
  refine to_nil ?_
  refine tn_code ?_
  refine t_seq ?_
  refine t_reg ?_
  refine to_mv rfl rfl ?_
  refine to_nc rfl rfl ?_
  first | refine to_fa rfl rfl rfl (by simp only [Nat.reduceAdd]; rfl) rfl ?_ | refine to_fae rfl rfl rfl (by simp only [Nat.reduceAdd]; rfl) rfl ?_
  first | refine to_lds rfl rfl rfl ?_ | refine to_ldes rfl (by assumption) rfl rfl ?_
  refine to_mv rfl rfl ?_
  refine to_mv rfl rfl ?_
  refine to_bs rfl rfl ?_
  refine to_lkmb rfl rfl (fun w => by kernel_rfl) rfl ?_
  refine to_fix (s := 22) (b' := false) rfl (rfl) ?_
  refine to_mv rfl rfl ?_
  refine to_gf rfl rfl rfl rfl ?_
  refine to_gf rfl rfl rfl rfl ?_
  refine to_gf rfl rfl rfl rfl ?_
  refine to_gf rfl rfl rfl rfl ?_
  refine to_gf rfl rfl rfl rfl ?_
  refine to_gf rfl rfl rfl rfl ?_
  refine to_gf rfl rfl rfl rfl ?_
  refine to_gf rfl rfl rfl rfl ?_
  refine to_gf rfl rfl rfl rfl ?_
  refine to_pkF rfl rfl rfl ?_
  refine to_nil ?_
  refine tn_code ?_
  refine t_ifF rfl ?_
  refine t_skip ?_
  refine tn_blk ?_
  refine tn_code ?_
  refine t_reg ?_
  refine to_add rfl rfl (by decide) rfl ?_
  refine to_fixv (s := 38) (v' := .int .i64 4) rfl rfl ?_
  refine to_mv rfl rfl ?_
  refine to_nil ?_
  refine tn_unroll ?_
  refine t_seq ?_
  refine t_reg ?_
  refine to_lss rfl rfl rfl ?_
  refine to_fix (s := 13) (b' := false) rfl (rfl) ?_
  refine to_nil ?_
  refine tn_code ?_
  refine t_seq ?_
  refine t_ifF rfl ?_
  refine t_exit ?_
  refine tx_code ?_
  refine tx_inv ?_
  refine tx_blk ?_
  refine tn_code ?_
  refine t_seq ?_
  refine t_reg ?_
  refine to_mv rfl rfl ?_
  refine to_as rfl rfl ?_
  refine to_nil ?_
  refine tn_code ?_
  refine t_ret1 rfl rfl (res_tmp rfl) (fun w' s => ?_)
  exact ⟨_, _, _, rfl, by decide⟩

end Go.Proofs


namespace Go.Proofs
open Go Go.Sx Go.RowKit

theorem pf_readers (L : PgL) (A : PgA) (bp k : Nat) (w : World) (h : PgF L A bp w 0 w.heap.size) (hk : k < 3) : Calls Tryz.prog 90 #[(.pointer (some ⟨bp, 0, none⟩)), .int .i64 (k : Int)] w (Ret w RRd9) := by
  obtain rfl | rfl | rfl : k = 0 ∨ k = 1 ∨ k = 2 := by omega
  · exact pf_readers0 L A bp w h
  · exact pf_readers1 L A bp w h
  · exact pf_readers2 L A bp w h

set_option maxRecDepth 20000 in
theorem pf_must (L : PgL) (A : PgA) (bp k : Nat) (w : World) (h : PgF L A bp w 0 w.heap.size) (hk : k < 3) : Calls Tryz.prog 74 #[(.pointer (some ⟨bp, 0, none⟩)), (.int .i64 (k : Int))] w (RetV w (.tuple #[])) := by
  refine calls_T0 (av := [_, _]) Tryz.func74 rfl rfl rfl ?_
  refine t_seq ?_
  refine t_reg ?_
  refine to_mv rfl rfl ?_
  refine to_mv rfl rfl ?_
  refine to_callR rfl rfl (fun w s => pf_readers L A bp k w (h.up (belowH_of s)) hk) rfl (fun v6 lo6 w6 hlo6 hR6 => ?_)
  obtain ⟨a9, n9, c9, rfl, hn9⟩ := hR6
  refine to_lenS rfl rfl ?_
  refine to_lss rfl rfl rfl ?_
  refine to_fix (s := 8) (b' := false) rfl (decide_eq_false (by omega)) ?_
  refine to_nil ?_
  refine tn_code ?_
  refine t_ifF rfl ?_
  refine t_skip ?_
  exact t_end0 rfl rfl (fun w' s => rfl)

set_option maxRecDepth 20000 in
theorem pf_pass1 (L : PgL) (A : PgA) (bp b : Nat) (w : World) (h : PgF L A bp w 0 w.heap.size) (hb : Rb w 0 w.heap.size b [(.pointer (some ⟨bp, 0, none⟩))]) : Calls Tryz.prog 73 #[(.pointer (some ⟨b, 0, none⟩))] w (RetV w (.tuple #[])) := by
  have hbp := h.bp
  refine calls_T0 (av := [_]) Tryz.func73 rfl rfl rfl ?_
  refine t_seq ?_
  refine t_reg ?_
  first | refine to_lds rfl rfl rfl ?_ | refine to_ldes rfl (by assumption) rfl rfl ?_
  refine to_nc rfl rfl ?_
  first | refine to_fa rfl rfl rfl (by simp only [Nat.reduceAdd]; rfl) rfl ?_ | refine to_fae rfl rfl rfl (by simp only [Nat.reduceAdd]; rfl) rfl ?_
  first | refine to_fa rfl rfl rfl (by simp only [Nat.reduceAdd]; rfl) rfl ?_ | refine to_fae rfl rfl rfl (by simp only [Nat.reduceAdd]; rfl) rfl ?_
  first | refine to_lds rfl rfl rfl ?_ | refine to_ldes rfl (by assumption) rfl rfl ?_
  refine to_lenS rfl rfl ?_
  refine to_mv rfl rfl ?_
  refine to_nil ?_
  refine tn_code ?_
  refine t_blk ?_
  refine t_loop2 (ι := Nat) (fun k => k ≤ 3) (fun k => [(0, (.pointer (some ⟨b, 0, none⟩))), (7, (.int .i64 ((3 : Nat) : Int))), (8, (.int .i64 (k : Int)))]) (fun k => [.snap 0 w.heap.size w]) (fun k => 3 - k) (0) [.snap 0 w.heap.size w] (rfl) (Nat.zero_le _) (⟨rfl, rfl, rfl, trivial⟩) ?_
  rintro k hk
  show T _ _ _ ⟨_, [(0, (.pointer (some ⟨b, 0, none⟩))), (7, (.int .i64 ((3 : Nat) : Int))), (8, (.int .i64 (k : Int)))], _⟩ [.snap 0 w.heap.size w]
  refine t_seq ?_
  refine t_reg ?_
  refine to_lss rfl rfl rfl ?_
  refine to_nil ?_
  refine tn_code ?_
  refine t_seq ?_
  refine t_if rfl (fun h1 => ?_) (fun h1 => ?_)
  · try simp only [decide_eq_true_eq, decide_eq_false_iff_not, Bool.not_eq_true', Bool.not_eq_false', Int.not_lt, Int.not_le, ne_eq, Decidable.not_not] at h1
    try have h1b := inB_iff.1 h1
    refine t_skip ?_
    refine tn_code ?_
    refine t_seq ?_
    refine t_blk ?_
    refine t_seq ?_
    refine t_reg ?_
    refine to_mv rfl rfl ?_
    refine to_as rfl rfl ?_
    refine to_nil ?_
    refine tn_code ?_
    refine t_reg ?_
    first | refine to_lds rfl rfl rfl ?_ | refine to_ldes rfl (by assumption) rfl rfl ?_
    refine to_mv rfl rfl ?_
    refine to_call0 rfl rfl (fun w s => pf_must L A bp k w (h.up (belowH_of s)) (by omega)) rfl ?_
    refine to_nil ?_
    refine tn_blk ?_
    refine tn_code ?_
    refine t_reg ?_
    refine to_add rfl rfl (by omega) rfl ?_
    refine to_mv rfl rfl ?_
    refine to_nil ?_
    exact tn_loop2 (k + 1) [.snap 0 w.heap.size w] (rfl) (by omega) (by omega) (⟨rfl, rfl, rfl, trivial⟩)
  · try simp only [decide_eq_true_eq, decide_eq_false_iff_not, Bool.not_eq_true', Bool.not_eq_false', Int.not_lt, Int.not_le, ne_eq, Decidable.not_not] at h1
    try have h1b := inB_iff.1 h1
    refine t_exit ?_
    refine tx_code ?_
    refine tx_inv ?_
    refine tx_blk ?_
    exact t_end0 rfl rfl (fun w' s => rfl)

set_option maxRecDepth 20000 in
theorem pf_att_ok (w0 : World) (H : List Seg) (bb : Nat) (w : World) (hs : St w0 (.own bb (isC [.int .i64 0] 34) :: H) w) : CallsD Tryz.prog 89 #[(.pointer (some ⟨bb, 0, none⟩))] (Out.mode 153 155 .ok) w (fun e u' w' => e = .returned (.tuple #[]) ∧ settle u' = .returning ∧ St w0 (.own bb (isC [.int .i64 0] 34) :: H) w') := by
  refine callsD_rec (av := [_]) Tryz.func89 rfl rfl rfl rfl hs (.inl ⟨rfl, rfl, rfl⟩) ?_
  refine t_blk ?_
  refine t_seq ?_
  refine t_reg ?_
  refine to_eqiN rfl rfl ?_
  refine to_nil ?_
  refine tn_code ?_
  refine t_ifT rfl ?_
  refine t_reg ?_
  refine to_as rfl rfl ?_
  refine to_nil ?_
  refine tn_blk ?_
  exact t_endQ rfl rfl (fun w' s => ⟨rfl, rfl, s⟩)

theorem att_leave9 (w w5 : World) (b2 : Nat) (s5 : St w [.own b2 (isC [.int .i64 0] 34), .snap 0 w.heap.size w] w5) (m : List (Nat × Value)) (a : Act) (ea : Env.ok ⟨Tryz.f72.ntmps, m, [{ target := .fn (.func 89) [(.pointer (some ⟨b2, 0, none⟩))].toArray, args := #[] }]⟩ a) (hm : lk m 2 = some (.pointer (some ⟨b2, 0, none⟩))) :
    Leaves Tryz.prog Tryz.f72 a.tmps (RetV w (.int .i64 0)) a.defers (Out.mode 153 155 .ok) w5 := by
  refine leave1 ea.ds (by simp [Out.mode]) (pf_att_ok w _ b2 w5 s5) ?_
  rintro e u' w' ⟨rfl, h2', h3⟩
  refine ⟨rfl, h2', .int .i64 0, ?_, rfl, h3.below0 (by simp)⟩
  have hres : ResOk Tryz.prog w ⟨Tryz.f72.ntmps, m, [{ target := .fn (.func 89) [(.pointer (some ⟨b2, 0, none⟩))].toArray, args := #[] }]⟩ [.own b2 (isC [.int .i64 0] 34), .snap 0 w.heap.size w] (.cell 2 34) (.int .i64 0) := res_cellS (ht := Tryz.ty34) hm rfl
  exact run_results (l := [.cell 2 34]) (vs := [.int .i64 0]) rfl rfl (fun i r v h h' => by
    match i with
    | 0 => cases h; cases h'; exact hres a w' ea h3
    | i + 1 => simp at h)

set_option maxRecDepth 20000 in
theorem pf_attempt (L : PgL) (A : PgA) (bp b : Nat) (w : World) (h : PgF L A bp w 0 w.heap.size) (hb : Rb w 0 w.heap.size b [(.pointer (some ⟨bp, 0, none⟩))]) : Calls Tryz.prog 72 #[.func (.func 73) ([] : List Value).toArray [(.pointer (some ⟨b, 0, none⟩))].toArray] w (RetV w (.int .i64 0)) := by
  refine calls_TD (av := [_]) Tryz.func72 rfl rfl rfl (St.start w) ?_
  refine t_seq ?_
  refine t_reg ?_
  refine to_alloc rfl (fun b2 => ?_)
  refine to_nil ?_
  refine tn_code ?_
  refine t_seq ?_
  refine t_reg ?_
  refine to_mf rfl rfl rfl ?_
  refine to_defer rfl rfl ?_
  refine to_nil ?_
  refine tn_code ?_
  refine t_seq ?_
  refine t_reg ?_
  refine to_mv rfl rfl ?_
  refine to_call0 rfl rfl (fun w s => pf_pass1 L A bp b w (h.up (belowH_of s)) (rb_up hb (belowH_of s))) rfl ?_
  refine to_nil ?_
  refine tn_code ?_
  refine t_seq ?_
  refine t_reg ?_
  first | refine to_st rfl rfl rfl rfl ?_ | refine to_ste rfl rfl (by assumption) rfl rfl ?_
  refine to_nil ?_
  refine tn_code ?_
  exact t_ret (fun a w' ea s' => att_leave9 w w' b2 s' _ a ea rfl)

set_option maxRecDepth 20000 in
theorem pf_passes (L : PgL) (A : PgA) (bp : Nat) (w : World) (h : PgF L A bp w 0 w.heap.size) : Calls Tryz.prog 35 #[(.pointer (some ⟨bp, 0, none⟩))] w (RetV w (.bool true)) := by
  refine calls_T0 (av := [_]) Tryz.func35 rfl rfl rfl ?_
  refine t_seq ?_
  refine t_reg ?_
  refine to_box rfl rfl (fun b1 => ?_)
  refine to_as rfl rfl ?_
  refine to_nil ?_
  refine tn_code ?_
  refine t_seq ?_
  refine t_reg ?_
  refine to_mf rfl rfl rfl ?_
  refine to_call0 rfl rfl (fun w s => pf_attempt L A bp b1 w (h.up (belowH_of s)) (rbw s)) rfl ?_
  refine to_eql rfl rfl rfl ?_
  refine to_fix (s := 5) (b' := true) rfl (rfl) ?_
  refine to_as rfl rfl ?_
  refine to_nil ?_
  refine tn_code ?_
  refine t_ret1 rfl rfl (res_tmp rfl) (fun w' s => ?_)
  rfl

end Go.Proofs


namespace Go.Proofs
open Go Go.Sx Go.RowKit

set_option maxRecDepth 20000 in
theorem pf_differs (L : PgL) (A : PgA) (bp : Nat) (nw : List Int) (k : Nat) (x s y z : Int) (w : World) (hb : Rb w 0 w.heap.size bp (pgC L A)) (hn : Ro w 0 w.heap.size A.na 3 A.nc 1 (ints nw)) (hl : Ro w 0 w.heap.size L.la 3 L.lc 3 lnB) (hx : (ints nw)[k]? = some [.int .i64 x]) (hy : lnB[k]? = some [.int .i64 s, .int .i64 y, .int .i64 z]) (hk : k < 3) : Calls Tryz.prog 87 #[(.pointer (some ⟨bp, 0, none⟩)), (.int .i64 (k : Int))] w (RetV w (.bool (decide (x ≠ y)))) := by
  refine calls_T0 (av := [_, _]) Tryz.func87 rfl rfl rfl ?_
  refine t_seq ?_
  refine t_reg ?_
  refine to_as rfl rfl ?_
  refine to_nil ?_
  refine tn_code ?_
  refine t_seq ?_
  refine t_regD rfl (by kernel_rfl) (by kernel_rfl) ?_
  refine to_mv rfl rfl ?_
  refine to_nc rfl rfl ?_
  first | refine to_fa rfl rfl rfl (by simp only [Nat.reduceAdd]; rfl) rfl ?_ | refine to_fae rfl rfl rfl (by simp only [Nat.reduceAdd]; rfl) rfl ?_
  first | refine to_lds rfl rfl rfl ?_ | refine to_ldes rfl (by assumption) rfl rfl ?_
  refine to_mv rfl rfl ?_
  first | refine to_ix rfl rfl rfl (by first | omega | decide) (by first | omega | decide) rfl ?_ | refine to_ixi rfl rfl rfl (by omega) (by omega) (by omega) rfl ?_
  first | refine to_lds rfl rfl rfl ?_ | refine to_ldes rfl (by assumption) rfl rfl ?_
  refine to_mv rfl rfl ?_
  refine to_nc rfl rfl ?_
  first | refine to_fa rfl rfl rfl (by simp only [Nat.reduceAdd]; rfl) rfl ?_ | refine to_fae rfl rfl rfl (by simp only [Nat.reduceAdd]; rfl) rfl ?_
  first | refine to_fa rfl rfl rfl (by simp only [Nat.reduceAdd]; rfl) rfl ?_ | refine to_fae rfl rfl rfl (by simp only [Nat.reduceAdd]; rfl) rfl ?_
  first | refine to_lds rfl rfl rfl ?_ | refine to_ldes rfl (by assumption) rfl rfl ?_
  refine to_mv rfl rfl ?_
  first | refine to_ix rfl rfl rfl (by first | omega | decide) (by first | omega | decide) rfl ?_ | refine to_ixi rfl rfl rfl (by omega) (by omega) (by omega) rfl ?_
  first | refine to_fa rfl rfl rfl (by simp only [Nat.reduceAdd]; rfl) rfl ?_ | refine to_fae rfl rfl rfl (by simp only [Nat.reduceAdd]; rfl) rfl ?_
  first | refine to_lds rfl rfl rfl ?_ | refine to_ldes rfl (by assumption) rfl rfl ?_
  refine to_neq rfl rfl rfl ?_
  refine to_as rfl rfl ?_
  refine to_nil ?_
  refine tn_code ?_
  refine t_ret1 rfl rfl (res_tmp rfl) (fun w' s => ?_)
  rfl

set_option maxRecDepth 20000 in
theorem pf_change (L : PgL) (na : Option Addr) (nc : Nat) (sa : Option Addr) (sc : Nat) (ha : Option Addr) (hc : Nat) (r bp B : Nat) (wB : World) (xa : Option Addr) (xn xc : Nat) (ms : List (List Value)) (st : List Int) (ps : List (Int × Int)) (hk : PgOk L wB 0 B) (R : List Seg) (w : World)  (hw : StL (.own bp (isC [.int .i64 4, .slice L.la 3 L.lc, .slice L.ga 3 L.gc, .slice na 3 nc, .slice sa 3 sc, .map (some r), .slice ha 3 hc, .slice xa xn xc] 131) :: .own r (isMb (ps)) :: .row na 3 nc 3 1 (ints [132, 45, 7]) :: .row sa 3 sc 3 1 (ints st) :: .row ha 3 hc 3 1 (ints [-1, -1, -1]) :: .row xa xn xc 150 2 (ms) :: .snap 0 B wB :: R) w) : Calls Tryz.prog 88 #[(.pointer (some ⟨bp, 0, none⟩)), (.int .i64 1), (.int .i64 0), (.int .i64 123)] w (FrR (.tuple #[]) (fun _ : Unit => [.own bp (isC [.int .i64 4, .slice L.la 3 L.lc, .slice L.ga 3 L.gc, .slice na 3 nc, .slice sa 3 sc, .map (some r), .slice ha 3 hc, .slice xa xn xc] 131), .own r (isMb (delM 0 3 (delM 0 2 (delM 0 1 (delM 0 0 (ps)))))), .row na 3 nc 3 1 (ints [123, 45, 7]), .row sa 3 sc 3 1 (ints st), .row ha 3 hc 3 1 (ints [1, -1, -1]), .row xa xn xc 150 2 (ms), .snap 0 B wB]) R w) := by
  refine calls_TG (av := [_, _, _, _]) Tryz.func88 rfl rfl rfl (hw.st (Ext.refl w)) ?_
  refine t_seq ?_
  refine t_seq ?_
  refine t_reg ?_
  refine to_mv rfl rfl ?_
  refine to_nc rfl rfl ?_
  first | refine to_fa rfl rfl rfl (by simp only [Nat.reduceAdd]; rfl) rfl ?_ | refine to_fae rfl rfl rfl (by simp only [Nat.reduceAdd]; rfl) rfl ?_
  first | refine to_fa rfl rfl rfl (by simp only [Nat.reduceAdd]; rfl) rfl ?_ | refine to_fae rfl rfl rfl (by simp only [Nat.reduceAdd]; rfl) rfl ?_
  first | refine to_lds rfl rfl rfl ?_ | refine to_ldes rfl (by assumption) rfl rfl ?_
  refine to_mv rfl rfl ?_
  refine to_nil ?_
  refine tn_code ?_
  refine t_blk ?_
  refine t_unrollN 5 ?_
  refine t_seq ?_
  refine t_reg ?_
  refine to_lss rfl rfl rfl ?_
  refine to_fix (s := 15) (b' := true) rfl (rfl) ?_
  refine to_nil ?_
  refine tn_code ?_
  refine t_seq ?_
  refine t_ifT rfl ?_
  refine t_skip ?_
  refine tn_code ?_
  refine t_seq ?_
  refine t_blk ?_
  refine t_seq ?_
  refine t_reg ?_
  refine to_mv rfl rfl ?_
  refine to_as rfl rfl ?_
  refine to_nil ?_
  refine tn_code ?_
  refine t_reg ?_
  refine to_mv rfl rfl ?_
  refine to_nc rfl rfl ?_
  first | refine to_fa rfl rfl rfl (by simp only [Nat.reduceAdd]; rfl) rfl ?_ | refine to_fae rfl rfl rfl (by simp only [Nat.reduceAdd]; rfl) rfl ?_
  first | refine to_lds rfl rfl rfl ?_ | refine to_ldes rfl (by assumption) rfl rfl ?_
  refine to_mv rfl rfl ?_
  refine to_mv rfl rfl ?_
  refine to_bs rfl rfl ?_
  refine to_delmb rfl rfl ?_
  refine to_nil ?_
  refine tn_blk ?_
  refine tn_code ?_
  refine t_reg ?_
  refine to_add rfl rfl (by decide) rfl ?_
  refine to_fixv (s := 24) (v' := .int .i64 1) rfl rfl ?_
  refine to_mv rfl rfl ?_
  refine to_nil ?_
  refine tn_unroll ?_
  refine t_seq ?_
  refine t_reg ?_
  refine to_lss rfl rfl rfl ?_
  refine to_fix (s := 15) (b' := true) rfl (rfl) ?_
  refine to_nil ?_
  refine tn_code ?_
  refine t_seq ?_
  refine t_ifT rfl ?_
  refine t_skip ?_
  refine tn_code ?_
  refine t_seq ?_
  refine t_blk ?_
  refine t_seq ?_
  refine t_reg ?_
  refine to_mv rfl rfl ?_
  refine to_as rfl rfl ?_
  refine to_nil ?_
  refine tn_code ?_
  refine t_reg ?_
  refine to_mv rfl rfl ?_
  refine to_nc rfl rfl ?_
  first | refine to_fa rfl rfl rfl (by simp only [Nat.reduceAdd]; rfl) rfl ?_ | refine to_fae rfl rfl rfl (by simp only [Nat.reduceAdd]; rfl) rfl ?_
  first | refine to_lds rfl rfl rfl ?_ | refine to_ldes rfl (by assumption) rfl rfl ?_
  refine to_mv rfl rfl ?_
  refine to_mv rfl rfl ?_
  refine to_bs rfl rfl ?_
  refine to_delmb rfl rfl ?_
  refine to_nil ?_
  refine tn_blk ?_
  refine tn_code ?_
  refine t_reg ?_
  refine to_add rfl rfl (by decide) rfl ?_
  refine to_fixv (s := 24) (v' := .int .i64 2) rfl rfl ?_
  refine to_mv rfl rfl ?_
  refine to_nil ?_
  refine tn_unroll ?_
  refine t_seq ?_
  refine t_reg ?_
  refine to_lss rfl rfl rfl ?_
  refine to_fix (s := 15) (b' := true) rfl (rfl) ?_
  refine to_nil ?_
  refine tn_code ?_
  refine t_seq ?_
  refine t_ifT rfl ?_
  refine t_skip ?_
  refine tn_code ?_
  refine t_seq ?_
  refine t_blk ?_
  refine t_seq ?_
  refine t_reg ?_
  refine to_mv rfl rfl ?_
  refine to_as rfl rfl ?_
  refine to_nil ?_
  refine tn_code ?_
  refine t_reg ?_
  refine to_mv rfl rfl ?_
  refine to_nc rfl rfl ?_
  first | refine to_fa rfl rfl rfl (by simp only [Nat.reduceAdd]; rfl) rfl ?_ | refine to_fae rfl rfl rfl (by simp only [Nat.reduceAdd]; rfl) rfl ?_
  first | refine to_lds rfl rfl rfl ?_ | refine to_ldes rfl (by assumption) rfl rfl ?_
  refine to_mv rfl rfl ?_
  refine to_mv rfl rfl ?_
  refine to_bs rfl rfl ?_
  refine to_delmb rfl rfl ?_
  refine to_nil ?_
  refine tn_blk ?_
  refine tn_code ?_
  refine t_reg ?_
  refine to_add rfl rfl (by decide) rfl ?_
  refine to_fixv (s := 24) (v' := .int .i64 3) rfl rfl ?_
  refine to_mv rfl rfl ?_
  refine to_nil ?_
  refine tn_unroll ?_
  refine t_seq ?_
  refine t_reg ?_
  refine to_lss rfl rfl rfl ?_
  refine to_fix (s := 15) (b' := true) rfl (rfl) ?_
  refine to_nil ?_
  refine tn_code ?_
  refine t_seq ?_
  refine t_ifT rfl ?_
  refine t_skip ?_
  refine tn_code ?_
  refine t_seq ?_
  refine t_blk ?_
  refine t_seq ?_
  refine t_reg ?_
  refine to_mv rfl rfl ?_
  refine to_as rfl rfl ?_
  refine to_nil ?_
  refine tn_code ?_
  refine t_reg ?_
  refine to_mv rfl rfl ?_
  refine to_nc rfl rfl ?_
  first | refine to_fa rfl rfl rfl (by simp only [Nat.reduceAdd]; rfl) rfl ?_ | refine to_fae rfl rfl rfl (by simp only [Nat.reduceAdd]; rfl) rfl ?_
  first | refine to_lds rfl rfl rfl ?_ | refine to_ldes rfl (by assumption) rfl rfl ?_
  refine to_mv rfl rfl ?_
  refine to_mv rfl rfl ?_
  refine to_bs rfl rfl ?_
  refine to_delmb rfl rfl ?_
  refine to_nil ?_
  refine tn_blk ?_
  refine tn_code ?_
  refine t_reg ?_
  refine to_add rfl rfl (by decide) rfl ?_
  refine to_fixv (s := 24) (v' := .int .i64 4) rfl rfl ?_
  refine to_mv rfl rfl ?_
  refine to_nil ?_
  refine tn_unroll ?_
  refine t_seq ?_
  refine t_reg ?_
  refine to_lss rfl rfl rfl ?_
  refine to_fix (s := 15) (b' := false) rfl (rfl) ?_
  refine to_nil ?_
  refine tn_code ?_
  refine t_seq ?_
  refine t_ifF rfl ?_
  refine t_exit ?_
  refine tx_code ?_
  refine tx_inv ?_
  refine tx_blk ?_
  refine tn_code ?_
  refine t_seq ?_
  refine t_reg ?_
  refine to_mv rfl rfl ?_
  refine to_nc rfl rfl ?_
  first | refine to_fa rfl rfl rfl (by simp only [Nat.reduceAdd]; rfl) rfl ?_ | refine to_fae rfl rfl rfl (by simp only [Nat.reduceAdd]; rfl) rfl ?_
  first | refine to_lds rfl rfl rfl ?_ | refine to_ldes rfl (by assumption) rfl rfl ?_
  refine to_mv rfl rfl ?_
  refine to_mv rfl rfl ?_
  first | refine to_ix rfl rfl rfl (by first | omega | decide) (by first | omega | decide) rfl ?_ | refine to_ixi rfl rfl rfl (by omega) (by omega) (by omega) rfl ?_
  refine to_ste (row := [.int .i64 132]) rfl rfl rfl rfl rfl ?_
  refine to_nil ?_
  refine tn_code ?_
  refine t_reg ?_
  refine to_mv rfl rfl ?_
  refine to_nc rfl rfl ?_
  first | refine to_fa rfl rfl rfl (by simp only [Nat.reduceAdd]; rfl) rfl ?_ | refine to_fae rfl rfl rfl (by simp only [Nat.reduceAdd]; rfl) rfl ?_
  first | refine to_lds rfl rfl rfl ?_ | refine to_ldes rfl (by assumption) rfl rfl ?_
  refine to_mv rfl rfl ?_
  refine to_mv rfl rfl ?_
  first | refine to_ix rfl rfl rfl (by first | omega | decide) (by first | omega | decide) rfl ?_ | refine to_ixi rfl rfl rfl (by omega) (by omega) (by omega) rfl ?_
  refine to_ste (row := [.int .i64 (-1)]) rfl rfl rfl rfl rfl ?_
  refine to_nil ?_
  exact t_end0G rfl rfl (fun w' s => frR_of3 () s (.own bp (isC [.int .i64 4, .slice L.la 3 L.lc, .slice L.ga 3 L.gc, .slice na 3 nc, .slice sa 3 sc, .map (some r), .slice ha 3 hc, .slice xa xn xc] 131) :: .own r (isMb (delM 0 3 (delM 0 2 (delM 0 1 (delM 0 0 (ps)))))) :: .row na 3 nc 3 1 ((ints [132, 45, 7]).set 0 [.int .i64 123]) :: .row sa 3 sc 3 1 (ints st) :: .row ha 3 hc 3 1 ((ints [-1, -1, -1]).set 0 [.int .i64 1]) :: .row xa xn xc 150 2 (ms) :: .snap 0 B wB :: R) (by kernel_rfl))

set_option maxRecDepth 20000 in
theorem pf_mends (L : PgL) (na : Option Addr) (nc : Nat) (sa : Option Addr) (sc : Nat) (ha : Option Addr) (hc : Nat) (r bp B : Nat) (wB : World) (xa : Option Addr) (xn xc : Nat) (ms : List (List Value)) (hk : PgOk L wB 0 B) (R : List Seg) (w : World)  (hw : StL (.own bp (isC [.int .i64 4, .slice L.la 3 L.lc, .slice L.ga 3 L.gc, .slice na 3 nc, .slice sa 3 sc, .map (some r), .slice ha 3 hc, .slice xa xn xc] 131) :: .own r (isMb ([(0, 1), (0, 2), (1, 1), (1, 2), (2, 1), (2, 2)])) :: .row na 3 nc 3 1 (ints [132, 45, 7]) :: .row sa 3 sc 3 1 (ints [0, 1, 0]) :: .row ha 3 hc 3 1 (ints [-1, -1, -1]) :: .row xa xn xc 150 2 (ms) :: .snap 0 B wB :: R) w) : Calls Tryz.prog 70 #[(.pointer (some ⟨bp, 0, none⟩)), (.int .i64 1), .slice L.r1 3 L.c1] w (FrR (.tuple #[]) (fun _ : Unit => [.own bp (isC [.int .i64 4, .slice L.la 3 L.lc, .slice L.ga 3 L.gc, .slice na 3 nc, .slice sa 3 sc, .map (some r), .slice ha 3 hc, .slice xa xn xc] 131), .own r (isMb ([(1, 1), (1, 2), (2, 1), (2, 2)])), .row na 3 nc 3 1 (ints [123, 45, 7]), .row sa 3 sc 3 1 (ints [2, 1, 0]), .row ha 3 hc 3 1 (ints [1, -1, -1]), .row xa xn xc 150 2 (ms), .snap 0 B wB]) R w) := by
  have h1 := hk.n1
  have e0 : (ints [2, 0, 123])[0]? = some [.int .i64 2] := rfl
  have e1 : (ints [2, 0, 123])[1]? = some [.int .i64 0] := rfl
  have e2 : (ints [2, 0, 123])[2]? = some [.int .i64 123] := rfl
  refine calls_TG (av := [_, _, _]) Tryz.func70 rfl rfl rfl (hw.st (Ext.refl w)) ?_
  refine t_seq ?_
  refine t_regM [8] [.snap 0 B wB] rfl (by kernel_rfl) (by kernel_rfl) ?_
  refine tm_q ?e1 rfl ?q1 ?r1
  case q1 =>
    refine to_mv rfl rfl ?_
    exact tmq_end
  refine tm_q ?e2 rfl ?q2 ?r2
  case q2 =>
    refine to_mv rfl rfl ?_
    exact tmq_end
  refine tm_q ?e3 rfl ?q3 ?r3
  case q3 =>
    refine to_mv rfl rfl ?_
    exact tmq_end
  refine tm_q ?e4 rfl ?q4 ?r4
  case q4 =>
    first | refine to_ix rfl rfl rfl (by first | omega | decide) (by first | omega | decide) rfl ?_ | refine to_ixi rfl rfl rfl (by omega) (by omega) (by omega) rfl ?_
    exact tmq_end
  refine tm_q ?e5 rfl ?q5 ?r5
  case q5 =>
    first | refine to_lds rfl rfl rfl ?_ | refine to_ldes rfl (by assumption) rfl rfl ?_
    exact tmq_end
  refine tm_q ?e6 rfl ?q6 ?r6
  case q6 =>
    refine to_mv rfl rfl ?_
    exact tmq_end
  refine tm_q ?e7 rfl ?q7 ?r7
  case q7 =>
    first | refine to_ix rfl rfl rfl (by first | omega | decide) (by first | omega | decide) rfl ?_ | refine to_ixi rfl rfl rfl (by omega) (by omega) (by omega) rfl ?_
    exact tmq_end
  refine tm_q ?e8 rfl ?q8 ?r8
  case q8 =>
    first | refine to_lds rfl rfl rfl ?_ | refine to_ldes rfl (by assumption) rfl rfl ?_
    exact tmq_end
  refine tm_s rfl ?_ (fun _ h => by cases h) rfl
  refine to_callL [.own bp (isC [.int .i64 4, .slice L.la 3 L.lc, .slice L.ga 3 L.gc, .slice na 3 nc, .slice sa 3 sc, .map (some r), .slice ha 3 hc, .slice xa xn xc] 131), .own r (isMb ([(0, 1), (0, 2), (1, 1), (1, 2), (2, 1), (2, 2)])), .row na 3 nc 3 1 (ints [132, 45, 7]), .row sa 3 sc 3 1 (ints [0, 1, 0]), .row ha 3 hc 3 1 (ints [-1, -1, -1]), .row xa xn xc 150 2 (ms), .snap 0 B wB] (fun u : Unit => [.own bp (isC [.int .i64 4, .slice L.la 3 L.lc, .slice L.ga 3 L.gc, .slice na 3 nc, .slice sa 3 sc, .map (some r), .slice ha 3 hc, .slice xa xn xc] 131), .own r (isMb (delM 0 3 (delM 0 2 (delM 0 1 (delM 0 0 ([(0, 1), (0, 2), (1, 1), (1, 2), (2, 1), (2, 2)])))))), .row na 3 nc 3 1 (ints [123, 45, 7]), .row sa 3 sc 3 1 (ints [0, 1, 0]), .row ha 3 hc 3 1 (ints [1, -1, -1]), .row xa xn xc 150 2 (ms), .snap 0 B wB]) rfl rfl (fun R w9 hw => pf_change L na nc sa sc ha hc r bp B wB xa xn xc ms [0, 1, 0] [(0, 1), (0, 2), (1, 1), (1, 2), (2, 1), (2, 2)] hk R w9 hw) rfl (fun u => ?_)
  refine to_nrm (A := [.own bp (isC [.int .i64 4, .slice L.la 3 L.lc, .slice L.ga 3 L.gc, .slice na 3 nc, .slice sa 3 sc, .map (some r), .slice ha 3 hc, .slice xa xn xc] 131), .own r (isMb (delM 0 3 (delM 0 2 (delM 0 1 (delM 0 0 ([(0, 1), (0, 2), (1, 1), (1, 2), (2, 1), (2, 2)])))))), .row na 3 nc 3 1 (ints [123, 45, 7]), .row sa 3 sc 3 1 (ints [0, 1, 0]), .row ha 3 hc 3 1 (ints [1, -1, -1]), .row xa xn xc 150 2 (ms), .snap 0 B wB]) ?_
  · skip
    refine tm_se rfl ?_
    refine tm_nil ?_
    refine tn_code ?_
    refine t_regM [11] [.own bp (isC [.int .i64 4, .slice L.la 3 L.lc, .slice L.ga 3 L.gc, .slice na 3 nc, .slice sa 3 sc, .map (some r), .slice ha 3 hc, .slice xa xn xc] 131), .row sa 3 sc 3 1 (ints [0, 1, 0]), .snap 0 B wB] rfl (by kernel_rfl) (by kernel_rfl) ?_
    refine tm_q ?e9 rfl ?q9 ?r9
    case q9 =>
      refine to_mv rfl rfl ?_
      exact tmq_end
    refine tm_q ?e10 rfl ?q10 ?r10
    case q10 =>
      refine to_nc rfl rfl ?_
      exact tmq_end
    refine tm_q ?e11 rfl ?q11 ?r11
    case q11 =>
      first | refine to_fa rfl rfl rfl (by simp only [Nat.reduceAdd]; rfl) rfl ?_ | refine to_fae rfl rfl rfl (by simp only [Nat.reduceAdd]; rfl) rfl ?_
      exact tmq_end
    refine tm_q ?e12 rfl ?q12 ?r12
    case q12 =>
      first | refine to_lds rfl rfl rfl ?_ | refine to_ldes rfl (by assumption) rfl rfl ?_
      exact tmq_end
    refine tm_q ?e13 rfl ?q13 ?r13
    case q13 =>
      refine to_mv rfl rfl ?_
      exact tmq_end
    refine tm_q ?e14 rfl ?q14 ?r14
    case q14 =>
      first | refine to_ix rfl rfl rfl (by first | omega | decide) (by first | omega | decide) rfl ?_ | refine to_ixi rfl rfl rfl (by omega) (by omega) (by omega) rfl ?_
      exact tmq_end
    refine tm_q ?e15 rfl ?q15 ?r15
    case q15 =>
      first | refine to_lds rfl rfl rfl ?_ | refine to_ldes rfl (by assumption) rfl rfl ?_
      exact tmq_end
    refine tm_q ?e16 rfl ?q16 ?r16
    case q16 =>
      refine to_mv rfl rfl ?_
      exact tmq_end
    refine tm_q ?e17 rfl ?q17 ?r17
    case q17 =>
      first | refine to_ix rfl rfl rfl (by first | omega | decide) (by first | omega | decide) rfl ?_ | refine to_ixi rfl rfl rfl (by omega) (by omega) (by omega) rfl ?_
      exact tmq_end
    refine tm_q ?e18 rfl ?q18 ?r18
    case q18 =>
      first | refine to_lds rfl rfl rfl ?_ | refine to_ldes rfl (by assumption) rfl rfl ?_
      exact tmq_end
    refine tm_q ?e19 rfl ?q19 ?r19
    case q19 =>
      first | refine to_ix rfl rfl rfl (by first | omega | decide) (by first | omega | decide) rfl ?_ | refine to_ixi rfl rfl rfl (by omega) (by omega) (by omega) rfl ?_
      exact tmq_end
    refine tm_s rfl ?_ (fun _ h => by cases h) rfl
    refine to_ste (row := [.int .i64 0]) rfl rfl rfl rfl rfl ?_
    refine tm_sl (by kernel_rfl) rfl rfl ?_
    exact t_end0G rfl rfl (fun w' s => frR_of3 () s (.own bp (isC [.int .i64 4, .slice L.la 3 L.lc, .slice L.ga 3 L.gc, .slice na 3 nc, .slice sa 3 sc, .map (some r), .slice ha 3 hc, .slice xa xn xc] 131) :: .own r (isMb (delM 0 3 (delM 0 2 (delM 0 1 (delM 0 0 ([(0, 1), (0, 2), (1, 1), (1, 2), (2, 1), (2, 2)])))))) :: .row na 3 nc 3 1 (ints [123, 45, 7]) :: .row sa 3 sc 3 1 ((ints [0, 1, 0]).set 0 [.int .i64 2]) :: .row ha 3 hc 3 1 (ints [1, -1, -1]) :: .row xa xn xc 150 2 (ms) :: .snap 0 B wB :: R) (by kernel_rfl))

end Go.Proofs


namespace Go.Proofs
open Go Go.Sx Go.RowKit

set_option maxRecDepth 20000 in
theorem pf_reads0 (L : PgL) (na : Option Addr) (nc : Nat) (sa : Option Addr) (sc : Nat) (ha : Option Addr) (hc : Nat) (r bp B : Nat) (wB : World)  (hk : PgOk L wB 0 B) (R : List Seg) (w : World)  (hw : StL (.own bp (isC [.int .i64 4, .slice L.la 3 L.lc, .slice L.ga 3 L.gc, .slice na 3 nc, .slice sa 3 sc, .map (some r), .slice ha 3 hc, .slice none 0 0] 131) :: .own r (isMb ([])) :: .row na 3 nc 3 1 (ints [132, 45, 7]) :: .row sa 3 sc 3 1 (ints [0, 1, 0]) :: .row ha 3 hc 3 1 (ints [-1, -1, -1]) :: .row none 0 0 150 2 ([]) :: .snap 0 B wB :: R) w) : Calls Tryz.prog 69 #[(.pointer (some ⟨bp, 0, none⟩)), (.int .i64 0), .slice L.r0 4 L.c0] w (FrR (.tuple #[]) (fun z : Option Addr × Nat => [.own bp (isC [.int .i64 4, .slice L.la 3 L.lc, .slice L.ga 3 L.gc, .slice na 3 nc, .slice sa 3 sc, .map (some r), .slice ha 3 hc, .slice z.1 2 z.2] 131), .own r (isMb ([(0, 1), (0, 2), (1, 1), (1, 2), (2, 1), (2, 2)])), .row na 3 nc 3 1 (ints [132, 45, 7]), .row sa 3 sc 3 1 (ints [0, 1, 0]), .row ha 3 hc 3 1 (ints [-1, -1, -1]), .row z.1 2 z.2 150 2 ([[.int .i64 0, .int .i64 0], [.int .i64 0, .int .i64 2]]), .snap 0 B wB]) R w) := by
  have hn := hk.n0
  have hln := hk.ln
  have e0 : (ints [1, 2, 0, 2])[0]? = some [.int .i64 1] := rfl
  have e1 : (ints [1, 2, 0, 2])[1]? = some [.int .i64 2] := rfl
  have e2 : (ints [1, 2, 0, 2])[2]? = some [.int .i64 0] := rfl
  have e3 : (ints [1, 2, 0, 2])[3]? = some [.int .i64 2] := rfl
  refine calls_TG (av := [_, _, _]) Tryz.func69 rfl rfl rfl (hw.st (Ext.refl w)) ?_
  refine t_seq ?_
  refine t_reg ?_
  refine to_mv rfl rfl ?_
  first | refine to_ix rfl rfl rfl (by first | omega | decide) (by first | omega | decide) rfl ?_ | refine to_ixi rfl rfl rfl (by omega) (by omega) (by omega) rfl ?_
  first | refine to_lds rfl rfl rfl ?_ | refine to_ldes rfl (by assumption) rfl rfl ?_
  refine to_as rfl rfl ?_
  refine to_nil ?_
  refine tn_code ?_
  refine t_blk ?_
  refine t_unrollN 4 ?_
  refine t_seq ?_
  refine t_seq ?_
  refine t_reg ?_
  refine to_mv rfl rfl ?_
  refine to_mv rfl rfl ?_
  first | refine to_ix rfl rfl rfl (by first | omega | decide) (by first | omega | decide) rfl ?_ | refine to_ixi rfl rfl rfl (by omega) (by omega) (by omega) rfl ?_
  first | refine to_lds rfl rfl rfl ?_ | refine to_ldes rfl (by assumption) rfl rfl ?_
  refine to_leq rfl rfl rfl ?_
  refine to_fix (s := 14) (b' := true) rfl (rfl) ?_
  refine to_nil ?_
  refine tn_code ?_
  refine t_ifT rfl ?_
  refine t_skip ?_
  refine tn_code ?_
  refine t_seq ?_
  refine t_blk ?_
  refine t_seq ?_
  refine t_regM [9] [.own bp (isC [.int .i64 4, .slice L.la 3 L.lc, .slice L.ga 3 L.gc, .slice na 3 nc, .slice sa 3 sc, .map (some r), .slice ha 3 hc, .slice none 0 0] 131), .snap 0 B wB] rfl (by kernel_rfl) (by kernel_rfl) ?_
  refine tm_q ?e1 rfl ?q1 ?r1
  case q1 =>
    refine to_mv rfl rfl ?_
    exact tmq_end
  refine tm_q ?e2 rfl ?q2 ?r2
  case q2 =>
    refine to_nc rfl rfl ?_
    exact tmq_end
  refine tm_q ?e3 rfl ?q3 ?r3
  case q3 =>
    first | refine to_fa rfl rfl rfl (by simp only [Nat.reduceAdd]; rfl) rfl ?_ | refine to_fae rfl rfl rfl (by simp only [Nat.reduceAdd]; rfl) rfl ?_
    exact tmq_end
  refine tm_q ?e4 rfl ?q4 ?r4
  case q4 =>
    first | refine to_lds rfl rfl rfl ?_ | refine to_ldes rfl (by assumption) rfl rfl ?_
    exact tmq_end
  refine tm_q ?e5 rfl ?q5 ?r5
  case q5 =>
    refine to_mv rfl rfl ?_
    exact tmq_end
  refine tm_q ?e6 rfl ?q6 ?r6
  case q6 =>
    refine to_mv rfl rfl ?_
    exact tmq_end
  refine tm_q ?e7 rfl ?q7 ?r7
  case q7 =>
    first | refine to_ix rfl rfl rfl (by first | omega | decide) (by first | omega | decide) rfl ?_ | refine to_ixi rfl rfl rfl (by omega) (by omega) (by omega) rfl ?_
    exact tmq_end
  refine tm_q ?e8 rfl ?q8 ?r8
  case q8 =>
    first | refine to_lds rfl rfl rfl ?_ | refine to_ldes rfl (by assumption) rfl rfl ?_
    exact tmq_end
  refine tm_q ?e9 rfl ?q9 ?r9
  case q9 =>
    refine to_bs rfl rfl ?_
    exact tmq_end
  refine tm_s rfl ?_ (fun _ h => by cases h) rfl
  refine to_mupmb rfl rfl rfl ?_
  refine tm_sl (by kernel_rfl) rfl rfl ?_
  refine tn_code ?_
  refine t_seq ?_
  refine t_regM [9] [.own bp (isC [.int .i64 4, .slice L.la 3 L.lc, .slice L.ga 3 L.gc, .slice na 3 nc, .slice sa 3 sc, .map (some r), .slice ha 3 hc, .slice none 0 0] 131), .snap 0 B wB] rfl (by kernel_rfl) (by kernel_rfl) ?_
  refine tm_q ?e10 rfl ?q10 ?r10
  case q10 =>
    refine to_mv rfl rfl ?_
    exact tmq_end
  refine tm_q ?e11 rfl ?q11 ?r11
  case q11 =>
    refine to_nc rfl rfl ?_
    exact tmq_end
  refine tm_q ?e12 rfl ?q12 ?r12
  case q12 =>
    first | refine to_fa rfl rfl rfl (by simp only [Nat.reduceAdd]; rfl) rfl ?_ | refine to_fae rfl rfl rfl (by simp only [Nat.reduceAdd]; rfl) rfl ?_
    exact tmq_end
  refine tm_q ?e13 rfl ?q13 ?r13
  case q13 =>
    first | refine to_lds rfl rfl rfl ?_ | refine to_ldes rfl (by assumption) rfl rfl ?_
    exact tmq_end
  refine tm_q ?e14 rfl ?q14 ?r14
  case q14 =>
    refine to_mv rfl rfl ?_
    exact tmq_end
  refine tm_q ?e15 rfl ?q15 ?r15
  case q15 =>
    refine to_mv rfl rfl ?_
    exact tmq_end
  refine tm_q ?e16 rfl ?q16 ?r16
  case q16 =>
    first | refine to_ix rfl rfl rfl (by first | omega | decide) (by first | omega | decide) rfl ?_ | refine to_ixi rfl rfl rfl (by omega) (by omega) (by omega) rfl ?_
    exact tmq_end
  refine tm_q ?e17 rfl ?q17 ?r17
  case q17 =>
    first | refine to_lds rfl rfl rfl ?_ | refine to_ldes rfl (by assumption) rfl rfl ?_
    exact tmq_end
  refine tm_q ?e18 rfl ?q18 ?r18
  case q18 =>
    refine to_bs rfl rfl ?_
    exact tmq_end
  refine tm_s rfl ?_ (fun _ h => by cases h) rfl
  refine to_mupmb rfl rfl rfl ?_
  refine tm_sl (by kernel_rfl) rfl rfl ?_
  refine tn_code ?_
  refine t_seq ?_
  refine t_reg ?_
  refine to_mv rfl rfl ?_
  refine to_mv rfl rfl ?_
  refine to_call0 rfl rfl (fun w s => pf_differs L ⟨na, nc, sa, sc, r, ha, hc, none, 0, 0⟩ bp [132, 45, 7] 0 132 0 123 132 w (rbw s) (rdw s) (rdw s) rfl rfl (by decide)) rfl ?_
  refine to_fix (s := 37) (b' := true) rfl (rfl) ?_
  refine to_nil ?_
  refine tn_code ?_
  refine t_ifT rfl ?_
  refine t_reg ?_
  refine to_mv rfl rfl ?_
  refine to_mv rfl rfl ?_
  refine to_nc rfl rfl ?_
  first | refine to_fa rfl rfl rfl (by simp only [Nat.reduceAdd]; rfl) rfl ?_ | refine to_fae rfl rfl rfl (by simp only [Nat.reduceAdd]; rfl) rfl ?_
  first | refine to_lds rfl rfl rfl ?_ | refine to_ldes rfl (by assumption) rfl rfl ?_
  refine to_mv rfl rfl ?_
  refine to_mv rfl rfl ?_
  refine to_bs rfl rfl ?_
  refine to_bsl rfl rfl rfl rfl (fun a46 => ?_)
  refine to_app rfl rfl rfl (by simp [scals, scal]) (by decide) (by decide) (by decide) rfl (fun a47_0 c47_0 => ?_)
  refine to_nc rfl rfl ?_
  first | refine to_fa rfl rfl rfl (by simp only [Nat.reduceAdd]; rfl) rfl ?_ | refine to_fae rfl rfl rfl (by simp only [Nat.reduceAdd]; rfl) rfl ?_
  first | refine to_st rfl rfl rfl rfl ?_ | refine to_ste rfl rfl (by assumption) rfl rfl ?_
  refine to_nil ?_
  refine tn_blk ?_
  refine tn_code ?_
  refine t_reg ?_
  refine to_mv rfl rfl ?_
  refine to_add rfl rfl (by decide) rfl ?_
  refine to_fixv (s := 16) (v' := .int .i64 1) rfl rfl ?_
  refine to_as rfl rfl ?_
  refine to_nil ?_
  refine tn_unroll ?_
  refine t_seq ?_
  refine t_seq ?_
  refine t_reg ?_
  refine to_mv rfl rfl ?_
  refine to_mv rfl rfl ?_
  first | refine to_ix rfl rfl rfl (by first | omega | decide) (by first | omega | decide) rfl ?_ | refine to_ixi rfl rfl rfl (by omega) (by omega) (by omega) rfl ?_
  first | refine to_lds rfl rfl rfl ?_ | refine to_ldes rfl (by assumption) rfl rfl ?_
  refine to_leq rfl rfl rfl ?_
  refine to_fix (s := 14) (b' := true) rfl (rfl) ?_
  refine to_nil ?_
  refine tn_code ?_
  refine t_ifT rfl ?_
  refine t_skip ?_
  refine tn_code ?_
  refine t_seq ?_
  refine t_blk ?_
  refine t_seq ?_
  refine t_regM [9] [.own bp (isC [.int .i64 4, .slice L.la 3 L.lc, .slice L.ga 3 L.gc, .slice na 3 nc, .slice sa 3 sc, .map (some r), .slice ha 3 hc, .slice a47_0 (0 + 1) c47_0] 131), .snap 0 B wB] rfl (by kernel_rfl) (by kernel_rfl) ?_
  refine tm_q ?e19 rfl ?q19 ?r19
  case q19 =>
    refine to_mv rfl rfl ?_
    exact tmq_end
  refine tm_q ?e20 rfl ?q20 ?r20
  case q20 =>
    refine to_nc rfl rfl ?_
    exact tmq_end
  refine tm_q ?e21 rfl ?q21 ?r21
  case q21 =>
    first | refine to_fa rfl rfl rfl (by simp only [Nat.reduceAdd]; rfl) rfl ?_ | refine to_fae rfl rfl rfl (by simp only [Nat.reduceAdd]; rfl) rfl ?_
    exact tmq_end
  refine tm_q ?e22 rfl ?q22 ?r22
  case q22 =>
    first | refine to_lds rfl rfl rfl ?_ | refine to_ldes rfl (by assumption) rfl rfl ?_
    exact tmq_end
  refine tm_q ?e23 rfl ?q23 ?r23
  case q23 =>
    refine to_mv rfl rfl ?_
    exact tmq_end
  refine tm_q ?e24 rfl ?q24 ?r24
  case q24 =>
    refine to_mv rfl rfl ?_
    exact tmq_end
  refine tm_q ?e25 rfl ?q25 ?r25
  case q25 =>
    first | refine to_ix rfl rfl rfl (by first | omega | decide) (by first | omega | decide) rfl ?_ | refine to_ixi rfl rfl rfl (by omega) (by omega) (by omega) rfl ?_
    exact tmq_end
  refine tm_q ?e26 rfl ?q26 ?r26
  case q26 =>
    first | refine to_lds rfl rfl rfl ?_ | refine to_ldes rfl (by assumption) rfl rfl ?_
    exact tmq_end
  refine tm_q ?e27 rfl ?q27 ?r27
  case q27 =>
    refine to_bs rfl rfl ?_
    exact tmq_end
  refine tm_s rfl ?_ (fun _ h => by cases h) rfl
  refine to_mupmb rfl rfl rfl ?_
  refine tm_sl (by kernel_rfl) rfl rfl ?_
  refine tn_code ?_
  refine t_seq ?_
  refine t_regM [9] [.own bp (isC [.int .i64 4, .slice L.la 3 L.lc, .slice L.ga 3 L.gc, .slice na 3 nc, .slice sa 3 sc, .map (some r), .slice ha 3 hc, .slice a47_0 (0 + 1) c47_0] 131), .snap 0 B wB] rfl (by kernel_rfl) (by kernel_rfl) ?_
  refine tm_q ?e28 rfl ?q28 ?r28
  case q28 =>
    refine to_mv rfl rfl ?_
    exact tmq_end
  refine tm_q ?e29 rfl ?q29 ?r29
  case q29 =>
    refine to_nc rfl rfl ?_
    exact tmq_end
  refine tm_q ?e30 rfl ?q30 ?r30
  case q30 =>
    first | refine to_fa rfl rfl rfl (by simp only [Nat.reduceAdd]; rfl) rfl ?_ | refine to_fae rfl rfl rfl (by simp only [Nat.reduceAdd]; rfl) rfl ?_
    exact tmq_end
  refine tm_q ?e31 rfl ?q31 ?r31
  case q31 =>
    first | refine to_lds rfl rfl rfl ?_ | refine to_ldes rfl (by assumption) rfl rfl ?_
    exact tmq_end
  refine tm_q ?e32 rfl ?q32 ?r32
  case q32 =>
    refine to_mv rfl rfl ?_
    exact tmq_end
  refine tm_q ?e33 rfl ?q33 ?r33
  case q33 =>
    refine to_mv rfl rfl ?_
    exact tmq_end
  refine tm_q ?e34 rfl ?q34 ?r34
  case q34 =>
    first | refine to_ix rfl rfl rfl (by first | omega | decide) (by first | omega | decide) rfl ?_ | refine to_ixi rfl rfl rfl (by omega) (by omega) (by omega) rfl ?_
    exact tmq_end
  refine tm_q ?e35 rfl ?q35 ?r35
  case q35 =>
    first | refine to_lds rfl rfl rfl ?_ | refine to_ldes rfl (by assumption) rfl rfl ?_
    exact tmq_end
  refine tm_q ?e36 rfl ?q36 ?r36
  case q36 =>
    refine to_bs rfl rfl ?_
    exact tmq_end
  refine tm_s rfl ?_ (fun _ h => by cases h) rfl
  refine to_mupmb rfl rfl rfl ?_
  refine tm_sl (by kernel_rfl) rfl rfl ?_
  refine tn_code ?_
  refine t_seq ?_
  refine t_reg ?_
  refine to_mv rfl rfl ?_
  refine to_mv rfl rfl ?_
  refine to_call0 rfl rfl (fun w s => pf_differs L ⟨na, nc, sa, sc, r, ha, hc, a47_0, (0 + 1), c47_0⟩ bp [132, 45, 7] 1 45 1 45 45 w (rbw s) (rdw s) (rdw s) rfl rfl (by decide)) rfl ?_
  refine to_fix (s := 37) (b' := false) rfl (rfl) ?_
  refine to_nil ?_
  refine tn_code ?_
  refine t_ifF rfl ?_
  refine t_skip ?_
  refine tn_blk ?_
  refine tn_code ?_
  refine t_reg ?_
  refine to_mv rfl rfl ?_
  refine to_add rfl rfl (by decide) rfl ?_
  refine to_fixv (s := 16) (v' := .int .i64 2) rfl rfl ?_
  refine to_as rfl rfl ?_
  refine to_nil ?_
  refine tn_unroll ?_
  refine t_seq ?_
  refine t_seq ?_
  refine t_reg ?_
  refine to_mv rfl rfl ?_
  refine to_mv rfl rfl ?_
  first | refine to_ix rfl rfl rfl (by first | omega | decide) (by first | omega | decide) rfl ?_ | refine to_ixi rfl rfl rfl (by omega) (by omega) (by omega) rfl ?_
  first | refine to_lds rfl rfl rfl ?_ | refine to_ldes rfl (by assumption) rfl rfl ?_
  refine to_leq rfl rfl rfl ?_
  refine to_fix (s := 14) (b' := true) rfl (rfl) ?_
  refine to_nil ?_
  refine tn_code ?_
  refine t_ifT rfl ?_
  refine t_skip ?_
  refine tn_code ?_
  refine t_seq ?_
  refine t_blk ?_
  refine t_seq ?_
  refine t_regM [9] [.own bp (isC [.int .i64 4, .slice L.la 3 L.lc, .slice L.ga 3 L.gc, .slice na 3 nc, .slice sa 3 sc, .map (some r), .slice ha 3 hc, .slice a47_0 (0 + 1) c47_0] 131), .snap 0 B wB] rfl (by kernel_rfl) (by kernel_rfl) ?_
  refine tm_q ?e37 rfl ?q37 ?r37
  case q37 =>
    refine to_mv rfl rfl ?_
    exact tmq_end
  refine tm_q ?e38 rfl ?q38 ?r38
  case q38 =>
    refine to_nc rfl rfl ?_
    exact tmq_end
  refine tm_q ?e39 rfl ?q39 ?r39
  case q39 =>
    first | refine to_fa rfl rfl rfl (by simp only [Nat.reduceAdd]; rfl) rfl ?_ | refine to_fae rfl rfl rfl (by simp only [Nat.reduceAdd]; rfl) rfl ?_
    exact tmq_end
  refine tm_q ?e40 rfl ?q40 ?r40
  case q40 =>
    first | refine to_lds rfl rfl rfl ?_ | refine to_ldes rfl (by assumption) rfl rfl ?_
    exact tmq_end
  refine tm_q ?e41 rfl ?q41 ?r41
  case q41 =>
    refine to_mv rfl rfl ?_
    exact tmq_end
  refine tm_q ?e42 rfl ?q42 ?r42
  case q42 =>
    refine to_mv rfl rfl ?_
    exact tmq_end
  refine tm_q ?e43 rfl ?q43 ?r43
  case q43 =>
    first | refine to_ix rfl rfl rfl (by first | omega | decide) (by first | omega | decide) rfl ?_ | refine to_ixi rfl rfl rfl (by omega) (by omega) (by omega) rfl ?_
    exact tmq_end
  refine tm_q ?e44 rfl ?q44 ?r44
  case q44 =>
    first | refine to_lds rfl rfl rfl ?_ | refine to_ldes rfl (by assumption) rfl rfl ?_
    exact tmq_end
  refine tm_q ?e45 rfl ?q45 ?r45
  case q45 =>
    refine to_bs rfl rfl ?_
    exact tmq_end
  refine tm_s rfl ?_ (fun _ h => by cases h) rfl
  refine to_mupmb rfl rfl rfl ?_
  refine tm_sl (by kernel_rfl) rfl rfl ?_
  refine tn_code ?_
  refine t_seq ?_
  refine t_regM [9] [.own bp (isC [.int .i64 4, .slice L.la 3 L.lc, .slice L.ga 3 L.gc, .slice na 3 nc, .slice sa 3 sc, .map (some r), .slice ha 3 hc, .slice a47_0 (0 + 1) c47_0] 131), .snap 0 B wB] rfl (by kernel_rfl) (by kernel_rfl) ?_
  refine tm_q ?e46 rfl ?q46 ?r46
  case q46 =>
    refine to_mv rfl rfl ?_
    exact tmq_end
  refine tm_q ?e47 rfl ?q47 ?r47
  case q47 =>
    refine to_nc rfl rfl ?_
    exact tmq_end
  refine tm_q ?e48 rfl ?q48 ?r48
  case q48 =>
    first | refine to_fa rfl rfl rfl (by simp only [Nat.reduceAdd]; rfl) rfl ?_ | refine to_fae rfl rfl rfl (by simp only [Nat.reduceAdd]; rfl) rfl ?_
    exact tmq_end
  refine tm_q ?e49 rfl ?q49 ?r49
  case q49 =>
    first | refine to_lds rfl rfl rfl ?_ | refine to_ldes rfl (by assumption) rfl rfl ?_
    exact tmq_end
  refine tm_q ?e50 rfl ?q50 ?r50
  case q50 =>
    refine to_mv rfl rfl ?_
    exact tmq_end
  refine tm_q ?e51 rfl ?q51 ?r51
  case q51 =>
    refine to_mv rfl rfl ?_
    exact tmq_end
  refine tm_q ?e52 rfl ?q52 ?r52
  case q52 =>
    first | refine to_ix rfl rfl rfl (by first | omega | decide) (by first | omega | decide) rfl ?_ | refine to_ixi rfl rfl rfl (by omega) (by omega) (by omega) rfl ?_
    exact tmq_end
  refine tm_q ?e53 rfl ?q53 ?r53
  case q53 =>
    first | refine to_lds rfl rfl rfl ?_ | refine to_ldes rfl (by assumption) rfl rfl ?_
    exact tmq_end
  refine tm_q ?e54 rfl ?q54 ?r54
  case q54 =>
    refine to_bs rfl rfl ?_
    exact tmq_end
  refine tm_s rfl ?_ (fun _ h => by cases h) rfl
  refine to_mupmb rfl rfl rfl ?_
  refine tm_sl (by kernel_rfl) rfl rfl ?_
  refine tn_code ?_
  refine t_seq ?_
  refine t_reg ?_
  refine to_mv rfl rfl ?_
  refine to_mv rfl rfl ?_
  refine to_call0 rfl rfl (fun w s => pf_differs L ⟨na, nc, sa, sc, r, ha, hc, a47_0, (0 + 1), c47_0⟩ bp [132, 45, 7] 2 7 0 (-7) 7 w (rbw s) (rdw s) (rdw s) rfl rfl (by decide)) rfl ?_
  refine to_fix (s := 37) (b' := true) rfl (rfl) ?_
  refine to_nil ?_
  refine tn_code ?_
  refine t_ifT rfl ?_
  refine t_reg ?_
  refine to_mv rfl rfl ?_
  refine to_mv rfl rfl ?_
  refine to_nc rfl rfl ?_
  first | refine to_fa rfl rfl rfl (by simp only [Nat.reduceAdd]; rfl) rfl ?_ | refine to_fae rfl rfl rfl (by simp only [Nat.reduceAdd]; rfl) rfl ?_
  first | refine to_lds rfl rfl rfl ?_ | refine to_ldes rfl (by assumption) rfl rfl ?_
  refine to_mv rfl rfl ?_
  refine to_mv rfl rfl ?_
  refine to_bs rfl rfl ?_
  refine to_bsl rfl rfl rfl rfl (fun a46 => ?_)
  refine to_app rfl rfl rfl (by simp [scals, scal]) (by decide) (by decide) (by decide) rfl (fun a47_2 c47_2 => ?_)
  refine to_nc rfl rfl ?_
  first | refine to_fa rfl rfl rfl (by simp only [Nat.reduceAdd]; rfl) rfl ?_ | refine to_fae rfl rfl rfl (by simp only [Nat.reduceAdd]; rfl) rfl ?_
  first | refine to_st rfl rfl rfl rfl ?_ | refine to_ste rfl rfl (by assumption) rfl rfl ?_
  refine to_nil ?_
  refine tn_blk ?_
  refine tn_code ?_
  refine t_reg ?_
  refine to_mv rfl rfl ?_
  refine to_add rfl rfl (by decide) rfl ?_
  refine to_fixv (s := 16) (v' := .int .i64 3) rfl rfl ?_
  refine to_as rfl rfl ?_
  refine to_nil ?_
  refine tn_unroll ?_
  refine t_seq ?_
  refine t_seq ?_
  refine t_reg ?_
  refine to_mv rfl rfl ?_
  refine to_mv rfl rfl ?_
  first | refine to_ix rfl rfl rfl (by first | omega | decide) (by first | omega | decide) rfl ?_ | refine to_ixi rfl rfl rfl (by omega) (by omega) (by omega) rfl ?_
  first | refine to_lds rfl rfl rfl ?_ | refine to_ldes rfl (by assumption) rfl rfl ?_
  refine to_leq rfl rfl rfl ?_
  refine to_fix (s := 14) (b' := false) rfl (rfl) ?_
  refine to_nil ?_
  refine tn_code ?_
  refine t_ifF rfl ?_
  refine t_exit ?_
  refine tx_code ?_
  refine tx_inv ?_
  refine tx_blk ?_
  exact t_end0G rfl rfl (fun w' s => frR_of3 (a47_2, c47_2) s (.own bp (isC [.int .i64 4, .slice L.la 3 L.lc, .slice L.ga 3 L.gc, .slice na 3 nc, .slice sa 3 sc, .map (some r), .slice ha 3 hc, .slice a47_2 ((0 + 1) + 1) c47_2] 131) :: .own r (isMb (insM 2 2 (insM 2 1 (insM 1 2 (insM 1 1 (insM 0 2 (insM 0 1 ([])))))))) :: .row na 3 nc 3 1 (ints [132, 45, 7]) :: .row sa 3 sc 3 1 (ints [0, 1, 0]) :: .row ha 3 hc 3 1 (ints [-1, -1, -1]) :: .row a47_2 ((0 + 1) + 1) c47_2 150 2 ([] ++ [[.int .i64 0, .int .i64 0]] ++ [[.int .i64 0, .int .i64 2]]) :: .snap 0 B wB :: R) (by kernel_rfl))

set_option maxRecDepth 20000 in
theorem pf_reads2 (L : PgL) (na : Option Addr) (nc : Nat) (sa : Option Addr) (sc : Nat) (ha : Option Addr) (hc : Nat) (r bp B : Nat) (wB : World) (xa : Option Addr) (xn xc : Nat) (ms : List (List Value)) (hk : PgOk L wB 0 B) (R : List Seg) (w : World)  (hw : StL (.own bp (isC [.int .i64 4, .slice L.la 3 L.lc, .slice L.ga 3 L.gc, .slice na 3 nc, .slice sa 3 sc, .map (some r), .slice ha 3 hc, .slice xa xn xc] 131) :: .own r (isMb ([(1, 1), (1, 2), (2, 1), (2, 2)])) :: .row na 3 nc 3 1 (ints [123, 45, 7]) :: .row sa 3 sc 3 1 (ints [2, 1, 0]) :: .row ha 3 hc 3 1 (ints [1, -1, -1]) :: .row xa xn xc 150 2 (ms) :: .snap 0 B wB :: R) w) : Calls Tryz.prog 69 #[(.pointer (some ⟨bp, 0, none⟩)), (.int .i64 2), .slice L.r2 4 L.c2] w (FrR (.tuple #[]) (fun _ : Unit => [.own bp (isC [.int .i64 4, .slice L.la 3 L.lc, .slice L.ga 3 L.gc, .slice na 3 nc, .slice sa 3 sc, .map (some r), .slice ha 3 hc, .slice xa xn xc] 131), .own r (isMb (psF)), .row na 3 nc 3 1 (ints [123, 45, 7]), .row sa 3 sc 3 1 (ints [2, 1, 0]), .row ha 3 hc 3 1 (ints [1, -1, -1]), .row xa xn xc 150 2 (ms), .snap 0 B wB]) R w) := by
  have hn := hk.n2
  have hln := hk.ln
  have e0 : (ints [0, 3, 0, 1])[0]? = some [.int .i64 0] := rfl
  have e1 : (ints [0, 3, 0, 1])[1]? = some [.int .i64 3] := rfl
  have e2 : (ints [0, 3, 0, 1])[2]? = some [.int .i64 0] := rfl
  have e3 : (ints [0, 3, 0, 1])[3]? = some [.int .i64 1] := rfl
  refine calls_TG (av := [_, _, _]) Tryz.func69 rfl rfl rfl (hw.st (Ext.refl w)) ?_
  refine t_seq ?_
  refine t_reg ?_
  refine to_mv rfl rfl ?_
  first | refine to_ix rfl rfl rfl (by first | omega | decide) (by first | omega | decide) rfl ?_ | refine to_ixi rfl rfl rfl (by omega) (by omega) (by omega) rfl ?_
  first | refine to_lds rfl rfl rfl ?_ | refine to_ldes rfl (by assumption) rfl rfl ?_
  refine to_as rfl rfl ?_
  refine to_nil ?_
  refine tn_code ?_
  refine t_blk ?_
  refine t_unrollN 3 ?_
  refine t_seq ?_
  refine t_seq ?_
  refine t_reg ?_
  refine to_mv rfl rfl ?_
  refine to_mv rfl rfl ?_
  first | refine to_ix rfl rfl rfl (by first | omega | decide) (by first | omega | decide) rfl ?_ | refine to_ixi rfl rfl rfl (by omega) (by omega) (by omega) rfl ?_
  first | refine to_lds rfl rfl rfl ?_ | refine to_ldes rfl (by assumption) rfl rfl ?_
  refine to_leq rfl rfl rfl ?_
  refine to_fix (s := 14) (b' := true) rfl (rfl) ?_
  refine to_nil ?_
  refine tn_code ?_
  refine t_ifT rfl ?_
  refine t_skip ?_
  refine tn_code ?_
  refine t_seq ?_
  refine t_blk ?_
  refine t_seq ?_
  refine t_regM [9] [.own bp (isC [.int .i64 4, .slice L.la 3 L.lc, .slice L.ga 3 L.gc, .slice na 3 nc, .slice sa 3 sc, .map (some r), .slice ha 3 hc, .slice xa xn xc] 131), .snap 0 B wB] rfl (by kernel_rfl) (by kernel_rfl) ?_
  refine tm_q ?e1 rfl ?q1 ?r1
  case q1 =>
    refine to_mv rfl rfl ?_
    exact tmq_end
  refine tm_q ?e2 rfl ?q2 ?r2
  case q2 =>
    refine to_nc rfl rfl ?_
    exact tmq_end
  refine tm_q ?e3 rfl ?q3 ?r3
  case q3 =>
    first | refine to_fa rfl rfl rfl (by simp only [Nat.reduceAdd]; rfl) rfl ?_ | refine to_fae rfl rfl rfl (by simp only [Nat.reduceAdd]; rfl) rfl ?_
    exact tmq_end
  refine tm_q ?e4 rfl ?q4 ?r4
  case q4 =>
    first | refine to_lds rfl rfl rfl ?_ | refine to_ldes rfl (by assumption) rfl rfl ?_
    exact tmq_end
  refine tm_q ?e5 rfl ?q5 ?r5
  case q5 =>
    refine to_mv rfl rfl ?_
    exact tmq_end
  refine tm_q ?e6 rfl ?q6 ?r6
  case q6 =>
    refine to_mv rfl rfl ?_
    exact tmq_end
  refine tm_q ?e7 rfl ?q7 ?r7
  case q7 =>
    first | refine to_ix rfl rfl rfl (by first | omega | decide) (by first | omega | decide) rfl ?_ | refine to_ixi rfl rfl rfl (by omega) (by omega) (by omega) rfl ?_
    exact tmq_end
  refine tm_q ?e8 rfl ?q8 ?r8
  case q8 =>
    first | refine to_lds rfl rfl rfl ?_ | refine to_ldes rfl (by assumption) rfl rfl ?_
    exact tmq_end
  refine tm_q ?e9 rfl ?q9 ?r9
  case q9 =>
    refine to_bs rfl rfl ?_
    exact tmq_end
  refine tm_s rfl ?_ (fun _ h => by cases h) rfl
  refine to_mupmb rfl rfl rfl ?_
  refine tm_sl (by kernel_rfl) rfl rfl ?_
  refine tn_code ?_
  refine t_seq ?_
  refine t_regM [9] [.own bp (isC [.int .i64 4, .slice L.la 3 L.lc, .slice L.ga 3 L.gc, .slice na 3 nc, .slice sa 3 sc, .map (some r), .slice ha 3 hc, .slice xa xn xc] 131), .snap 0 B wB] rfl (by kernel_rfl) (by kernel_rfl) ?_
  refine tm_q ?e10 rfl ?q10 ?r10
  case q10 =>
    refine to_mv rfl rfl ?_
    exact tmq_end
  refine tm_q ?e11 rfl ?q11 ?r11
  case q11 =>
    refine to_nc rfl rfl ?_
    exact tmq_end
  refine tm_q ?e12 rfl ?q12 ?r12
  case q12 =>
    first | refine to_fa rfl rfl rfl (by simp only [Nat.reduceAdd]; rfl) rfl ?_ | refine to_fae rfl rfl rfl (by simp only [Nat.reduceAdd]; rfl) rfl ?_
    exact tmq_end
  refine tm_q ?e13 rfl ?q13 ?r13
  case q13 =>
    first | refine to_lds rfl rfl rfl ?_ | refine to_ldes rfl (by assumption) rfl rfl ?_
    exact tmq_end
  refine tm_q ?e14 rfl ?q14 ?r14
  case q14 =>
    refine to_mv rfl rfl ?_
    exact tmq_end
  refine tm_q ?e15 rfl ?q15 ?r15
  case q15 =>
    refine to_mv rfl rfl ?_
    exact tmq_end
  refine tm_q ?e16 rfl ?q16 ?r16
  case q16 =>
    first | refine to_ix rfl rfl rfl (by first | omega | decide) (by first | omega | decide) rfl ?_ | refine to_ixi rfl rfl rfl (by omega) (by omega) (by omega) rfl ?_
    exact tmq_end
  refine tm_q ?e17 rfl ?q17 ?r17
  case q17 =>
    first | refine to_lds rfl rfl rfl ?_ | refine to_ldes rfl (by assumption) rfl rfl ?_
    exact tmq_end
  refine tm_q ?e18 rfl ?q18 ?r18
  case q18 =>
    refine to_bs rfl rfl ?_
    exact tmq_end
  refine tm_s rfl ?_ (fun _ h => by cases h) rfl
  refine to_mupmb rfl rfl rfl ?_
  refine tm_sl (by kernel_rfl) rfl rfl ?_
  refine tn_code ?_
  refine t_seq ?_
  refine t_reg ?_
  refine to_mv rfl rfl ?_
  refine to_mv rfl rfl ?_
  refine to_call0 rfl rfl (fun w s => pf_differs L ⟨na, nc, sa, sc, r, ha, hc, xa, xn, xc⟩ bp [123, 45, 7] 0 123 0 123 132 w (rbw s) (rdw s) (rdw s) rfl rfl (by decide)) rfl ?_
  refine to_fix (s := 37) (b' := false) rfl (rfl) ?_
  refine to_nil ?_
  refine tn_code ?_
  refine t_ifF rfl ?_
  refine t_skip ?_
  refine tn_blk ?_
  refine tn_code ?_
  refine t_reg ?_
  refine to_mv rfl rfl ?_
  refine to_add rfl rfl (by decide) rfl ?_
  refine to_fixv (s := 16) (v' := .int .i64 1) rfl rfl ?_
  refine to_as rfl rfl ?_
  refine to_nil ?_
  refine tn_unroll ?_
  refine t_seq ?_
  refine t_seq ?_
  refine t_reg ?_
  refine to_mv rfl rfl ?_
  refine to_mv rfl rfl ?_
  first | refine to_ix rfl rfl rfl (by first | omega | decide) (by first | omega | decide) rfl ?_ | refine to_ixi rfl rfl rfl (by omega) (by omega) (by omega) rfl ?_
  first | refine to_lds rfl rfl rfl ?_ | refine to_ldes rfl (by assumption) rfl rfl ?_
  refine to_leq rfl rfl rfl ?_
  refine to_fix (s := 14) (b' := true) rfl (rfl) ?_
  refine to_nil ?_
  refine tn_code ?_
  refine t_ifT rfl ?_
  refine t_skip ?_
  refine tn_code ?_
  refine t_seq ?_
  refine t_blk ?_
  refine t_seq ?_
  refine t_regM [9] [.own bp (isC [.int .i64 4, .slice L.la 3 L.lc, .slice L.ga 3 L.gc, .slice na 3 nc, .slice sa 3 sc, .map (some r), .slice ha 3 hc, .slice xa xn xc] 131), .snap 0 B wB] rfl (by kernel_rfl) (by kernel_rfl) ?_
  refine tm_q ?e19 rfl ?q19 ?r19
  case q19 =>
    refine to_mv rfl rfl ?_
    exact tmq_end
  refine tm_q ?e20 rfl ?q20 ?r20
  case q20 =>
    refine to_nc rfl rfl ?_
    exact tmq_end
  refine tm_q ?e21 rfl ?q21 ?r21
  case q21 =>
    first | refine to_fa rfl rfl rfl (by simp only [Nat.reduceAdd]; rfl) rfl ?_ | refine to_fae rfl rfl rfl (by simp only [Nat.reduceAdd]; rfl) rfl ?_
    exact tmq_end
  refine tm_q ?e22 rfl ?q22 ?r22
  case q22 =>
    first | refine to_lds rfl rfl rfl ?_ | refine to_ldes rfl (by assumption) rfl rfl ?_
    exact tmq_end
  refine tm_q ?e23 rfl ?q23 ?r23
  case q23 =>
    refine to_mv rfl rfl ?_
    exact tmq_end
  refine tm_q ?e24 rfl ?q24 ?r24
  case q24 =>
    refine to_mv rfl rfl ?_
    exact tmq_end
  refine tm_q ?e25 rfl ?q25 ?r25
  case q25 =>
    first | refine to_ix rfl rfl rfl (by first | omega | decide) (by first | omega | decide) rfl ?_ | refine to_ixi rfl rfl rfl (by omega) (by omega) (by omega) rfl ?_
    exact tmq_end
  refine tm_q ?e26 rfl ?q26 ?r26
  case q26 =>
    first | refine to_lds rfl rfl rfl ?_ | refine to_ldes rfl (by assumption) rfl rfl ?_
    exact tmq_end
  refine tm_q ?e27 rfl ?q27 ?r27
  case q27 =>
    refine to_bs rfl rfl ?_
    exact tmq_end
  refine tm_s rfl ?_ (fun _ h => by cases h) rfl
  refine to_mupmb rfl rfl rfl ?_
  refine tm_sl (by kernel_rfl) rfl rfl ?_
  refine tn_code ?_
  refine t_seq ?_
  refine t_regM [9] [.own bp (isC [.int .i64 4, .slice L.la 3 L.lc, .slice L.ga 3 L.gc, .slice na 3 nc, .slice sa 3 sc, .map (some r), .slice ha 3 hc, .slice xa xn xc] 131), .snap 0 B wB] rfl (by kernel_rfl) (by kernel_rfl) ?_
  refine tm_q ?e28 rfl ?q28 ?r28
  case q28 =>
    refine to_mv rfl rfl ?_
    exact tmq_end
  refine tm_q ?e29 rfl ?q29 ?r29
  case q29 =>
    refine to_nc rfl rfl ?_
    exact tmq_end
  refine tm_q ?e30 rfl ?q30 ?r30
  case q30 =>
    first | refine to_fa rfl rfl rfl (by simp only [Nat.reduceAdd]; rfl) rfl ?_ | refine to_fae rfl rfl rfl (by simp only [Nat.reduceAdd]; rfl) rfl ?_
    exact tmq_end
  refine tm_q ?e31 rfl ?q31 ?r31
  case q31 =>
    first | refine to_lds rfl rfl rfl ?_ | refine to_ldes rfl (by assumption) rfl rfl ?_
    exact tmq_end
  refine tm_q ?e32 rfl ?q32 ?r32
  case q32 =>
    refine to_mv rfl rfl ?_
    exact tmq_end
  refine tm_q ?e33 rfl ?q33 ?r33
  case q33 =>
    refine to_mv rfl rfl ?_
    exact tmq_end
  refine tm_q ?e34 rfl ?q34 ?r34
  case q34 =>
    first | refine to_ix rfl rfl rfl (by first | omega | decide) (by first | omega | decide) rfl ?_ | refine to_ixi rfl rfl rfl (by omega) (by omega) (by omega) rfl ?_
    exact tmq_end
  refine tm_q ?e35 rfl ?q35 ?r35
  case q35 =>
    first | refine to_lds rfl rfl rfl ?_ | refine to_ldes rfl (by assumption) rfl rfl ?_
    exact tmq_end
  refine tm_q ?e36 rfl ?q36 ?r36
  case q36 =>
    refine to_bs rfl rfl ?_
    exact tmq_end
  refine tm_s rfl ?_ (fun _ h => by cases h) rfl
  refine to_mupmb rfl rfl rfl ?_
  refine tm_sl (by kernel_rfl) rfl rfl ?_
  refine tn_code ?_
  refine t_seq ?_
  refine t_reg ?_
  refine to_mv rfl rfl ?_
  refine to_mv rfl rfl ?_
  refine to_call0 rfl rfl (fun w s => pf_differs L ⟨na, nc, sa, sc, r, ha, hc, xa, xn, xc⟩ bp [123, 45, 7] 1 45 1 45 45 w (rbw s) (rdw s) (rdw s) rfl rfl (by decide)) rfl ?_
  refine to_fix (s := 37) (b' := false) rfl (rfl) ?_
  refine to_nil ?_
  refine tn_code ?_
  refine t_ifF rfl ?_
  refine t_skip ?_
  refine tn_blk ?_
  refine tn_code ?_
  refine t_reg ?_
  refine to_mv rfl rfl ?_
  refine to_add rfl rfl (by decide) rfl ?_
  refine to_fixv (s := 16) (v' := .int .i64 2) rfl rfl ?_
  refine to_as rfl rfl ?_
  refine to_nil ?_
  refine tn_unroll ?_
  refine t_seq ?_
  refine t_seq ?_
  refine t_reg ?_
  refine to_mv rfl rfl ?_
  refine to_mv rfl rfl ?_
  first | refine to_ix rfl rfl rfl (by first | omega | decide) (by first | omega | decide) rfl ?_ | refine to_ixi rfl rfl rfl (by omega) (by omega) (by omega) rfl ?_
  first | refine to_lds rfl rfl rfl ?_ | refine to_ldes rfl (by assumption) rfl rfl ?_
  refine to_leq rfl rfl rfl ?_
  refine to_fix (s := 14) (b' := false) rfl (rfl) ?_
  refine to_nil ?_
  refine tn_code ?_
  refine t_ifF rfl ?_
  refine t_exit ?_
  refine tx_code ?_
  refine tx_inv ?_
  refine tx_blk ?_
  exact t_end0G rfl rfl (fun w' s => frR_of3 () s (.own bp (isC [.int .i64 4, .slice L.la 3 L.lc, .slice L.ga 3 L.gc, .slice na 3 nc, .slice sa 3 sc, .map (some r), .slice ha 3 hc, .slice xa xn xc] 131) :: .own r (isMb (insM 1 3 (insM 1 0 (insM 0 3 (insM 0 0 ([(1, 1), (1, 2), (2, 1), (2, 2)])))))) :: .row na 3 nc 3 1 (ints [123, 45, 7]) :: .row sa 3 sc 3 1 (ints [2, 1, 0]) :: .row ha 3 hc 3 1 (ints [1, -1, -1]) :: .row xa xn xc 150 2 (ms) :: .snap 0 B wB :: R) (by kernel_rfl))

end Go.Proofs

