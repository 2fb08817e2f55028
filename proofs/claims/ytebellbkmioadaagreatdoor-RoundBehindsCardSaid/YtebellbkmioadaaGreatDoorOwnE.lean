/- Contracts on shares and on texts that are written. No condition beyond each theorem's own. -/
import Derived.Test.YtebellbkmioadaaGreatDoorOwnD
import Derived.Test.YtebellbkmioadaaGreatDoorOwnC
import Derived.Lib.ItoaNum
import Derived.Lib.LaidTab
import Derived.Shelf.LaysM
import Derived.Shelf.Strconv.Itoa3
import Derived.Shelf.Strings.Split
import Derived.Test.YtebellbkmioadaaGreatDoorProg
set_option linter.unusedVariables false
set_option linter.unusedSimpArgs false
namespace Go.Proofs
open Go Go.Sx Go.RowKit

set_option maxRecDepth 20000 in
theorem c_att_ok (w0 : World) (H : List Seg) (b2 b3 : Nat) (w : World) (hs : St w0 (.own b2 (isC [.slice none 0 0] 30) :: .own b3 (isC [.int .i64 5] 23) :: H) w) : CallsD Tryz.prog 109 #[(.pointer (some ⟨b2, 0, none⟩)), (.pointer (some ⟨b3, 0, none⟩))] (Out2.mode 108 128 .ok) w (fun e u' w' => e = .returned (.tuple #[]) ∧ settle u' = .returning ∧ St w0 (.own b2 (isC [.slice none 0 0] 30) :: .own b3 (isC [.int .i64 5] 23) :: H) w') := by
  refine callsD_rec (av := [_, _]) Tryz.func109 rfl rfl rfl rfl hs (.inl ⟨rfl, rfl, rfl⟩) ?_
  refine t_blk ?_
  refine t_seq ?_
  refine t_reg ?_
  refine to_eqiN rfl rfl ?_
  refine to_nil ?_
  refine tn_code ?_
  refine t_ifT rfl ?_
  refine t_reg ?_
  refine to_as rfl rfl ?_
  refine to_nil ?_
  refine tn_blk ?_
  exact t_endQ rfl rfl (fun w' s => ⟨rfl, rfl, s.sub⟩)

set_option maxRecDepth 20000 in
theorem c_att_fd (a : Option Addr) (n c : Nat) (w0 : World) (H : List Seg) (b2 b3 : Nat) (w : World) (hs : St w0 (.own b2 (isC [.slice none 0 0] 30) :: .own b3 (isC [.int .i64 0] 23) :: H) w) : CallsD Tryz.prog 109 #[(.pointer (some ⟨b2, 0, none⟩)), (.pointer (some ⟨b3, 0, none⟩))] (Out2.mode 108 128 (.fd a n c)) w (fun e u' w' => e = .returned (.tuple #[]) ∧ settle u' = .returning ∧ St w0 (.own b2 (isC [.slice a n c] 30) :: .own b3 (isC [.int .i64 0] 23) :: H) w') := by
  refine callsD_rec (av := [_, _]) Tryz.func109 rfl rfl rfl rfl hs (.inr ⟨_, _, rfl, rfl, rfl⟩) ?_
  refine t_blk ?_
  refine t_seq ?_
  refine t_reg ?_
  refine to_eqiF rfl rfl ?_
  refine to_nil ?_
  refine tn_code ?_
  refine t_ifF rfl ?_
  refine t_seq ?_
  refine t_reg ?_
  refine to_taT rfl rfl rfl ?_
  refine to_ex rfl rfl rfl ?_
  refine to_ex rfl rfl rfl ?_
  refine to_nil ?_
  refine tn_code ?_
  refine t_ifT rfl ?_
  refine t_seq ?_
  refine t_reg ?_
  refine to_alloc rfl (fun b3 => ?_)
  first | refine to_st rfl rfl rfl rfl ?_ | refine to_ste rfl rfl (by assumption) rfl rfl ?_
  refine to_nil ?_
  refine tn_code ?_
  refine t_reg ?_
  first | refine to_fa rfl rfl rfl (by simp only [Nat.reduceAdd]; rfl) rfl ?_ | refine to_fae rfl rfl rfl (by simp only [Nat.reduceAdd]; rfl) rfl ?_
  first | refine to_lds rfl rfl rfl ?_ | refine to_ldes rfl (by assumption) rfl rfl ?_
  first | refine to_st rfl rfl rfl rfl ?_ | refine to_ste rfl rfl (by assumption) rfl rfl ?_
  first | refine to_st rfl rfl rfl rfl ?_ | refine to_ste rfl rfl (by assumption) rfl rfl ?_
  refine to_nil ?_
  refine tn_blk ?_
  exact t_endQ rfl rfl (fun w' s => ⟨rfl, rfl, s.sub⟩)

set_option maxRecDepth 20000 in
theorem c_att_no (z : ByteArray) (w0 : World) (H : List Seg) (b2 b3 : Nat) (w : World) (hs : St w0 (.own b2 (isC [.slice none 0 0] 30) :: .own b3 (isC [.int .i64 0] 23) :: H) w) : CallsD Tryz.prog 109 #[(.pointer (some ⟨b2, 0, none⟩)), (.pointer (some ⟨b3, 0, none⟩))] (Out2.mode 108 128 (.no z)) w (fun e u' w' => e = .returned (.tuple #[]) ∧ settle u' = .returning ∧ St w0 (.own b2 (isC [.slice none 0 0] 30) :: .own b3 (isC [.int .i64 4] 23) :: H) w') := by
  refine callsD_rec (av := [_, _]) Tryz.func109 rfl rfl rfl rfl hs (.inr ⟨_, _, rfl, rfl, rfl⟩) ?_
  refine t_blk ?_
  refine t_seq ?_
  refine t_reg ?_
  refine to_eqiF rfl rfl ?_
  refine to_nil ?_
  refine tn_code ?_
  refine t_ifF rfl ?_
  refine t_seq ?_
  refine t_reg ?_
  refine to_taF rfl rfl rfl rfl rfl ?_
  refine to_ex rfl rfl rfl ?_
  refine to_ex rfl rfl rfl ?_
  refine to_nil ?_
  refine tn_code ?_
  refine t_ifF rfl ?_
  refine t_seq ?_
  refine t_reg ?_
  refine to_taT rfl rfl rfl ?_
  refine to_ex rfl rfl rfl ?_
  refine to_ex rfl rfl rfl ?_
  refine to_nil ?_
  refine tn_code ?_
  refine t_ifT rfl ?_
  refine t_seq ?_
  refine t_reg ?_
  refine to_alloc rfl (fun b4 => ?_)
  first | refine to_st rfl rfl rfl rfl ?_ | refine to_ste rfl rfl (by assumption) rfl rfl ?_
  refine to_nil ?_
  refine tn_code ?_
  refine t_reg ?_
  first | refine to_st rfl rfl rfl rfl ?_ | refine to_ste rfl rfl (by assumption) rfl rfl ?_
  refine to_nil ?_
  refine tn_blk ?_
  exact t_endQ rfl rfl (fun w' s => ⟨rfl, rfl, s.sub⟩)

theorem c_att (o : Out2) (w0 : World) (H : List Seg) (b2 b3 : Nat) (w : World) (hs : St w0 (.own b2 (isC [.slice none 0 0] 30) :: .own b3 (isC [.int .i64 (Out2.e0 o)] 23) :: H) w) : CallsD Tryz.prog 109 #[(.pointer (some ⟨b2, 0, none⟩)), (.pointer (some ⟨b3, 0, none⟩))] (Out2.mode 108 128 o) w (fun e u' w' => e = .returned (.tuple #[]) ∧ settle u' = .returning ∧ St w0 (.own b2 (isC [Out2.sl o] 30) :: .own b3 (isC [.int .i64 (Out2.er o)] 23) :: H) w') := by
  cases o with
  | ok => exact c_att_ok w0 H b2 b3 w hs
  | fd a n c => exact c_att_fd a n c w0 H b2 b3 w hs
  | no z => exact c_att_no z w0 H b2 b3 w hs

theorem att_leave (o : Out2) (w w3 : World) (b2 b3 : Nat) (p : Out2 → World → Prop) (hc : Cong w.heap.size (p o)) (s3 : St w [.own b2 (isC [.slice none 0 0] 30), .own b3 (isC [.int .i64 (Out2.e0 o)] 23), .reg 0 w.heap.size (p o), .snap w.heap.size w.heap.size w] w3) (m : List (Nat × Value)) (a : Act) (ea : Env.ok ⟨Tryz.f87.ntmps, m, [{ target := .fn (.func 109) [(.pointer (some ⟨b2, 0, none⟩)), (.pointer (some ⟨b3, 0, none⟩))].toArray, args := #[] }]⟩ a) (hm : lk m 2 = some (.pointer (some ⟨b2, 0, none⟩))) (hm2 : lk m 3 = some (.pointer (some ⟨b3, 0, none⟩))) :
    Leaves Tryz.prog Tryz.f87 a.tmps (AttPost2 w.heap.size p w) a.defers (Out2.mode 108 128 o) w3 := by
  refine leave1 ea.ds (by cases o <;> simp [Out2.mode]) (c_att o w _ b2 b3 w3 s3) ?_
  rintro e u' w' ⟨rfl, h2, h3⟩
  refine ⟨rfl, h2, .tuple #[o.sl, .int .i64 o.er], ?_, o, rfl, keep_of h3, h3.regp hc⟩
  have hsl : ∃ a n c, o.sl = .slice a n c := by cases o <;> exact ⟨_, _, _, rfl⟩
  obtain ⟨sa, sn, sc, hsl⟩ := hsl
  rw [hsl] at h3 ⊢
  have hres : ResOk Tryz.prog w ⟨Tryz.f87.ntmps, m, [{ target := .fn (.func 109) [(.pointer (some ⟨b2, 0, none⟩)), (.pointer (some ⟨b3, 0, none⟩))].toArray, args := #[] }]⟩ [.own b2 (isC [.slice sa sn sc] 30), .own b3 (isC [.int .i64 o.er] 23), .reg 0 w.heap.size (p o), .snap w.heap.size w.heap.size w] (.cell 2 30) (.slice sa sn sc) := res_cellS (ht := Tryz.ty30) hm rfl
  have hres2 : ResOk Tryz.prog w ⟨Tryz.f87.ntmps, m, [{ target := .fn (.func 109) [(.pointer (some ⟨b2, 0, none⟩)), (.pointer (some ⟨b3, 0, none⟩))].toArray, args := #[] }]⟩ [.own b2 (isC [.slice sa sn sc] 30), .own b3 (isC [.int .i64 o.er] 23), .reg 0 w.heap.size (p o), .snap w.heap.size w.heap.size w] (.cell 3 23) (.int .i64 o.er) := res_cellS (ht := Tryz.ty23) hm2 rfl
  exact run_results (l := [.cell 2 30, .cell 3 23]) (vs := [.slice sa sn sc, .int .i64 o.er]) rfl rfl (fun i r v h h' => by
    match i with
    | 0 => cases h; cases h'; exact hres a w' ea h3
    | 1 => cases h; cases h'; exact hres2 a w' ea h3
    | i + 2 => simp at h)

set_option maxRecDepth 20000 in
theorem c_attempt (q : Nat) (cp : List Value) (w : World) (p : Out2 → World → Prop) (I : World → Prop) (hIc : Cong w.heap.size I) (hpc : ∀ o, Cong w.heap.size (p o)) [hfq : FnOk Tryz.prog q] (hI : I w) (hdo : ∀ w', I w' → w.heap.size ≤ w'.heap.size → Calls Tryz.prog q ([] ++ ([] ++ cp)).toArray w' (DoPost2 108 128 w.heap.size p w')) : Calls Tryz.prog 87 #[.func (.func q) ([] : List Value).toArray cp.toArray] w (AttPost2 w.heap.size p w) := by
  refine calls_TD (av := [_]) Tryz.func87 rfl rfl rfl (St.startB (Nat.le_refl _) hI) ?_
  refine t_seq ?_
  refine t_reg ?_
  refine to_alloc rfl (fun b2 => ?_)
  refine to_alloc rfl (fun b3 => ?_)
  refine to_nil ?_
  refine tn_code ?_
  refine t_seq ?_
  refine t_reg ?_
  refine to_mf rfl rfl rfl ?_
  refine to_defer rfl rfl ?_
  refine to_nil ?_
  refine tn_code ?_
  refine t_seq ?_
  refine t_reg ?_
  refine to_mv rfl rfl ?_
  refine to_callP (R := DoPost2 108 128 w.heap.size p) rfl rfl (fun w2 s => hdo w2 (s.regp hIc) s.ge) rfl (fun w2 s e w3 hd => ?_)
  obtain ⟨o, ho, hk, hp⟩ := hd
  rcases o with _ | ⟨fa, fn, fc⟩ | z
  rotate_left
  · exact .inr ⟨_, ho, fun a ea => att_leave (.fd fa fn fc) w w3 b2 b3 p (hpc _) (show St w [.own b2 (isC [.slice none 0 0] 30), .own b3 (isC [.int .i64 0] 23), .reg 0 w.heap.size (p (.fd fa fn fc)), .snap w.heap.size w.heap.size w] w3 from ((s.sub (H' := [.reg 0 w.heap.size I, .own b2 (isC [.slice none 0 0] 30), .own b3 (isC [.int .i64 0] 23), .snap w.heap.size w.heap.size w])).turn hk hp).sub) _ a ea rfl rfl⟩
  · exact .inr ⟨_, ho, fun a ea => att_leave (.no z) w w3 b2 b3 p (hpc _) (show St w [.own b2 (isC [.slice none 0 0] 30), .own b3 (isC [.int .i64 0] 23), .reg 0 w.heap.size (p (.no z)), .snap w.heap.size w.heap.size w] w3 from ((s.sub (H' := [.reg 0 w.heap.size I, .own b2 (isC [.slice none 0 0] 30), .own b3 (isC [.int .i64 0] 23), .snap w.heap.size w.heap.size w])).turn hk hp).sub) _ a ea rfl rfl⟩
  refine .inl ⟨_, _, ho, (show St w [.own b2 (isC [.slice none 0 0] 30), .own b3 (isC [.int .i64 0] 23), .reg 0 w.heap.size (p .ok), .snap w.heap.size w.heap.size w] w3 from ((s.sub (H' := [.reg 0 w.heap.size I, .own b2 (isC [.slice none 0 0] 30), .own b3 (isC [.int .i64 0] 23), .snap w.heap.size w.heap.size w])).turn hk hp).sub), ?_⟩
  · skip
    refine to_nil ?_
    refine tn_code ?_
    refine t_seq ?_
    refine t_reg ?_
    first | refine to_st rfl rfl rfl rfl ?_ | refine to_ste rfl rfl (by assumption) rfl rfl ?_
    first | refine to_st rfl rfl rfl rfl ?_ | refine to_ste rfl rfl (by assumption) rfl rfl ?_
    refine to_nil ?_
    refine tn_code ?_
    exact t_ret (fun a w' ea s => att_leave .ok w w' b2 b3 p (hpc _) (show St w [.own b2 (isC [.slice none 0 0] 30), .own b3 (isC [.int .i64 5] 23), .reg 0 w.heap.size (p .ok), .snap w.heap.size w.heap.size w] w' from s.sub) _ a ea rfl rfl)

end Go.Proofs


namespace Go.Proofs
open Go Go.Sx Go.RowKit

def firF (sh : Sh) (e : Int) (now : List Int) : Option (List Int) := ((truR e (sh.rows.drop now.length)).map (now ++ ·)).find? (failT sh)
theorem firF_step {sh : Sh} {e r : Int} {now : List Int} (hr : sh.rows[now.length]? = some r) : firF sh e now = (exL e r).findSome? fun n => firF sh e (now ++ [n]) := by
  have hlt := (List.getElem?_eq_some_iff.1 hr).1
  have hd : sh.rows.drop now.length = r :: sh.rows.drop (now.length + 1) := by
    rw [List.drop_eq_getElem_cons hlt]
    congr 1
    rw [List.getElem?_eq_getElem hlt] at hr
    exact Option.some.inj hr
  simp only [firF, hd, truR, List.map_flatMap, List.find?_flatMap, List.length_append, List.length_singleton, List.map_map, Function.comp_def, List.append_assoc, List.singleton_append]
theorem firF_some {sh : Sh} {e r : Int} {now : List Int} {n : Int} {C t : List Int} (hr : sh.rows[now.length]? = some r) (hs : n :: C <:+ exL e r) (hall : ∀ m ∈ pfxL (exL e r) (n :: C), firF sh e (now ++ [m]) = none) (h : firF sh e (now ++ [n]) = some t) : firF sh e now = some t := by
  rw [firF_step hr]
  obtain ⟨p, hp⟩ := hs
  have hpf : pfxL (exL e r) (n :: C) = p := by
    rw [pfxL, ← hp]; simp
  rw [hpf] at hall
  rw [← hp, List.findSome?_append, List.findSome?_eq_none_iff.2 hall]
  simp [h]
theorem firF_none {sh : Sh} {e r : Int} {now : List Int} (hr : sh.rows[now.length]? = some r) (hall : ∀ m ∈ pfxL (exL e r) [], firF sh e (now ++ [m]) = none) : firF sh e now = none := by
  rw [firF_step hr, List.findSome?_eq_none_iff]
  rw [pfxL_nil] at hall; exact hall
theorem firF_f {sh : Sh} {e : Int} {now : List Int} (h : failB sh e now.length now = false) : firF sh e now = none := by
  rw [firF, List.find?_eq_none]
  intro t ht
  obtain ⟨u, hu, rfl⟩ := List.mem_map.1 ht
  have := List.any_eq_false.1 h u hu
  simpa using this
theorem firF_end {sh : Sh} {e : Int} {now : List Int} (hl : now.length = sh.rows.length) (h : failB sh e now.length now = true) : firF sh e now = some now := by
  have hd : sh.rows.drop now.length = [] := by rw [hl]; simp
  simp only [failB, hd, truR, List.any_cons, List.any_nil, List.append_nil, Bool.or_false] at h
  simp [firF, hd, truR, h]
/-- What the search holds on to. -/
structure FE (sh : Sh) (pt : Pt) (k : Nat) (e : Int) (b1 b2 b3 b4 : Nat) (ra : Option Addr) (rc : Nat) (Ms : List Nat) (w : World) : Prop where
  t : Rb w 0 w.heap.size b1 (tbC sh pt (k : Int))
  m : Rb w 0 w.heap.size b2 [.slice ra Ms.length rc]
  s : Rb w 0 w.heap.size b3 (shC sh pt)
  f : Rb w 0 w.heap.size b4 [.func (.func 89) #[] #[(.pointer (some ⟨b1, 0, none⟩)), (.pointer (some ⟨b2, 0, none⟩)), (.pointer (some ⟨b3, 0, none⟩)), (.pointer (some ⟨b4, 0, none⟩))]]
  er : Ro w 0 w.heap.size pt.ea sh.errs.length pt.ec 1 (ints sh.errs)
  rr : Ro w 0 w.heap.size pt.ra sh.rows.length pt.rc 1 (ints sh.rows)
  mr : Ro w 0 w.heap.size ra Ms.length rc 1 (Ms.map fun x => [.map (some x)])
  maps : ∀ i, i ≤ sh.rows.length → ∃ x l c, Ms[i]? = some x ∧ NB w 0 w.heap.size x l c ∧ OkN l c (sumO (fig sh) e (sh.rows.drop i))
theorem FE.snap {sh : Sh} {pt : Pt} {k : Nat} {e : Int} {b1 b2 b3 b4 : Nat} {ra : Option Addr} {rc : Nat} {Ms : List Nat} {w0 w w2 : World} {H : List Seg} (s : St w0 H w2) [hs : SnapAt w H 0 w.heap.size] (h : FE sh pt k e b1 b2 b3 b4 ra rc Ms w) : FE sh pt k e b1 b2 b3 b4 ra rc Ms w2 := by
  have h1 := h.t; have h2 := h.m; have h3 := h.s; have h4 := h.f; have h5 := h.er; have h6 := h.rr; have h7 := h.mr
  refine ⟨rb_snap s, rb_snap s, rb_snap s, rb_snap s, ro_snapB s, ro_snapB s, ro_snapB s, fun i hi => ?_⟩
  obtain ⟨x, l, c, q1, q2, q3⟩ := h.maps i hi
  exact ⟨x, l, c, q1, q2.mono (Nat.zero_le _) (s.le _ hs.mem) (fun k h1 h2 => s.ok _ hs.mem k h1 h2), q3⟩
def FrPost (sh : Sh) (e : Int) (B0 : Nat) (now : List Int) (w : World) : Ending → World → Prop := fun en w' => Below w.heap.size w w' ∧ (match firF sh e now with
  | none => en = .returned (.tuple #[])
  | some t => ∃ a n c, en = .panicked (pan 108 (.agg [.slice a n c].toArray)) ∧ n = t.length ∧ Ro w' B0 w'.heap.size a n c 1 (ints t))
theorem frp_none {sh : Sh} {e : Int} {B0 : Nat} {now : List Int} {w w' : World} (h : firF sh e now = none) (hb : Below w.heap.size w w') : FrPost sh e B0 now w (.returned (.tuple #[])) w' := by
  refine ⟨hb, ?_⟩; rw [h]
theorem frp_some {sh : Sh} {e : Int} {B0 : Nat} {now t : List Int} {w w' : World} {a : Option Addr} {n c : Nat} (h : firF sh e now = some t) (hb : Below w.heap.size w w') (hn : n = t.length) (hr : Ro w' B0 w'.heap.size a n c 1 (ints t)) : FrPost sh e B0 now w (.panicked (pan 108 (.agg [.slice a n c].toArray))) w' := by
  refine ⟨hb, ?_⟩; rw [h]; exact ⟨a, n, c, rfl, hn, hr⟩

theorem snap_le {w0 w w2 : World} {H : List Seg} (s : St w0 H w2) [hs : SnapAt w H 0 w.heap.size] : w.heap.size ≤ w2.heap.size := s.le _ hs.mem
theorem ro_row2 {w0 w w' : World} {H H2 : List Seg} {a : Option Addr} {n cap t sz : Nat} {xs : List (List Value)} (s : St w0 H w') [h : RowAt a H n cap t sz xs H2] [h0 : SnapAt w H2 0 w.heap.size] : Ro w' w.heap.size w'.heap.size a n cap sz xs := by
  have s2 := s.perm h.perm
  have hro := RowOk.ro (s2.ok _ (List.mem_cons_self ..))
  refine ⟨hro.len, hro.each, hro.le, ?_⟩
  rcases hro.here with h1 | ⟨ad, h1, h2, h3, h4, h5⟩
  · exact .inl h1
  · refine .inr ⟨ad, h1, h2, ?_, h4, h5⟩
    have := (List.pairwise_cons.1 s2.apart).1 _ h0.mem
    subst h1
    rcases this with h6 | h6
    · simp [Seg.hi, Seg.lo] at h6
    · simpa [Seg.hi, Seg.lo] using h6
theorem nb_up {w0 w w2 : World} {H : List Seg} {r c : Nat} {l : List En} (s : St w0 H w2) [hs : SnapAt w H 0 w.heap.size] (h : NB w 0 w.heap.size r l c) : NB w2 0 w2.heap.size r l c := h.mono (Nat.zero_le _) (s.le _ hs.mem) (fun k h1 h2 => s.ok _ hs.mem k h1 h2)

set_option maxRecDepth 20000 in
theorem fr_from (sh : Sh) (pt : Pt) (k : Nat) (e : Int) (b1 b2 b3 b4 : Nat) (ra : Option Addr) (rc : Nat) (Ms : List Nat) (B0 : Nat) (hs : isSh sh = true) (he : sh.errs[k]? = some e) : ∀ (rem : Nat) (now : List Int) (na : Option Addr) (nc : Nat) (w : World), now.length + rem = sh.rows.length → FE sh pt k e b1 b2 b3 b4 ra rc Ms w → B0 ≤ w.heap.size → Ro w B0 w.heap.size na now.length nc 1 (ints now) → (∀ x ∈ now, -100008 ≤ x ∧ x ≤ 100008) → Calls Tryz.prog 89 #[.slice na now.length nc, (.pointer (some ⟨b1, 0, none⟩)), (.pointer (some ⟨b2, 0, none⟩)), (.pointer (some ⟨b3, 0, none⟩)), (.pointer (some ⟨b4, 0, none⟩))] w (FrPost sh e B0 now w) := by
  intro rem
  induction rem using Nat.strongRecOn with
  | _ rem ih =>
  intro now na nc w hlen hFE hB0 hrnB hnb
  have hrn := hrnB.mono (lo' := 0) (Nat.zero_le _) (Nat.le_refl _) (fun _ _ _ => rfl)
  have heb := errs_b (isSh_e hs) e (List.mem_of_getElem? he)
  have hbb := isSh_b hs
  have hxe := map_get (f := intC) he
  have hke := (List.getElem?_eq_some_iff.1 he).1
  have hx1 := hFE.t
  have hx2 := hFE.m
  have hx3 := hFE.s
  have hx4 := hFE.f
  have hx5 := hFE.er
  have hx6 := hFE.rr
  have hx7 := hFE.mr
  have hple := hrn.le
  obtain ⟨mx, ml, mc, hm1, hm2, hm3⟩ := hFE.maps now.length (by omega)
  have hml := (List.getElem?_eq_some_iff.1 hm1).1
  have hxm : (Ms.map fun x => ([.map (some x)] : List Value))[now.length]? = some [.map (some mx)] := map_get (f := fun x => ([.map (some x)] : List Value)) hm1
  refine calls_TK (av := [_, _, _, _, _]) Tryz.func89 rfl rfl rfl (St.start w) ?_
  refine tk_seq ?_
  refine t_reg ?_
  refine to_box rfl rfl (fun b5 => ?_)
  refine to_nil ?_
  refine tx_k ?_
  refine tk_seq ?_
  refine t_seq ?_
  refine t_regD rfl (by kernel_rfl) (by kernel_rfl) ?_
  first | refine to_lda rfl rfl rfl ?_ | refine to_ldea rfl (by assumption) rfl rfl ?_
  first | refine to_lds rfl rfl rfl ?_ | refine to_ldes rfl (by assumption) rfl rfl ?_
  first | refine to_lds rfl rfl rfl ?_ | refine to_ldes rfl (by assumption) rfl rfl ?_
  first | refine to_lds rfl rfl rfl ?_ | refine to_ldes rfl (by assumption) rfl rfl ?_
  refine to_lenS rfl rfl ?_
  first | refine to_ix rfl rfl rfl (by first | omega | decide) (by first | omega | decide) rfl ?_ | refine to_ixi rfl rfl rfl (by omega) (by omega) (by omega) rfl ?_
  first | refine to_lds rfl rfl rfl ?_ | refine to_ldes rfl (by assumption) rfl rfl ?_
  refine to_call0 rfl rfl (fun w s => r_fails sh pt k e now na nc now.length mx mc ml w (rdw s) (rdw s) hs he (rdw s) (by omega) hnb (by omega) (nb_up s hm2) hm3) rfl ?_
  refine to_not rfl rfl ?_
  refine to_nil ?_
  refine tn_code ?_
  refine t_if rfl (fun h1 => ?_) (fun h1 => ?_)
  · try simp only [decide_eq_true_eq, decide_eq_false_iff_not, Bool.not_eq_true', Bool.not_eq_false', Int.not_lt, Int.not_le, ne_eq, Decidable.not_not] at h1
    try have h1b := inB_iff.1 h1
    exact t_ret (fun a w' ea s => leave_ret0M rfl ea rfl (frp_none (firF_f h1) (below_of s)))
  · try simp only [decide_eq_true_eq, decide_eq_false_iff_not, Bool.not_eq_true', Bool.not_eq_false', Int.not_lt, Int.not_le, ne_eq, Decidable.not_not] at h1
    try have h1b := inB_iff.1 h1
    refine t_skip ?_
    refine tx_k ?_
    refine tk_seq ?_
    refine t_seq ?_
    refine t_reg ?_
    first | refine to_lds rfl rfl rfl ?_ | refine to_ldes rfl (by assumption) rfl rfl ?_
    refine to_lenS rfl rfl ?_
    first | refine to_fa rfl rfl rfl (by simp only [Nat.reduceAdd]; rfl) rfl ?_ | refine to_fae rfl rfl rfl (by simp only [Nat.reduceAdd]; rfl) rfl ?_
    first | refine to_lds rfl rfl rfl ?_ | refine to_ldes rfl (by assumption) rfl rfl ?_
    refine to_lenS rfl rfl ?_
    refine to_eql rfl rfl rfl ?_
    refine to_nil ?_
    refine tn_code ?_
    refine t_if rfl (fun h2 => ?_) (fun h2 => ?_)
    · try simp only [decide_eq_true_eq, decide_eq_false_iff_not, Bool.not_eq_true', Bool.not_eq_false', Int.not_lt, Int.not_le, ne_eq, Decidable.not_not] at h2
      try have h2b := inB_iff.1 h2
      refine t_reg ?_
      first | refine to_lds rfl rfl rfl ?_ | refine to_ldes rfl (by assumption) rfl rfl ?_
      refine to_bs rfl rfl ?_
      refine to_mi rfl rfl rfl ?_
      exact to_panic rfl (fun a w' ea s => leave_pan0 ea rfl (frp_some (firF_end (by omega) h1) (below_of s) rfl (hrnB.mono (Nat.le_refl _) (below_of s).size (fun k _ hk => (below_of s).block k hk))))
    · try simp only [decide_eq_true_eq, decide_eq_false_iff_not, Bool.not_eq_true', Bool.not_eq_false', Int.not_lt, Int.not_le, ne_eq, Decidable.not_not] at h2
      try have h2b := inB_iff.1 h2
      obtain ⟨r, hr⟩ := some_get (xs := sh.rows) (k := now.length) (by omega)
      have hrb := isSh_r hs (List.mem_of_getElem? hr)
      refine t_skip ?_
      refine tx_k ?_
      refine tk_seq ?_
      refine t_reg ?_
      first | refine to_lda rfl rfl rfl ?_ | refine to_ldea rfl (by assumption) rfl rfl ?_
      first | refine to_lds rfl rfl rfl ?_ | refine to_ldes rfl (by assumption) rfl rfl ?_
      refine to_lenS rfl rfl ?_
      refine to_callR rfl rfl (fun w s => r_exact sh pt _ _ w) rfl (fun v28 lo28 w28 hlo28 hR28 => ?_)
      obtain ⟨bb28, bi28, rfl, hrb28, hri28⟩ := hR28
      refine to_nil ?_
      refine tx_k ?_
      refine tk_block ?_
      refine tk_fact (p := ∀ m ∈ pfxL (exL e r) (exL e r), firF sh e (now ++ [m]) = none) (by rw [pfxL_all]; intro m hm; cases hm) ?_
      refine tk_rf rfl (fun L => [.reg 0 0 (fun _ => ∀ m ∈ pfxL (exL e r) L, firF sh e (now ++ [m]) = none), .own b5 (isC [.slice na now.length nc] 30), .snap lo28 w28.heap.size w28, .snap 0 w.heap.size w]) (exL e r) (H0 := [.reg 0 0 (fun _ => ∀ m ∈ pfxL (exL e r) (exL e r), firF sh e (now ++ [m]) = none), .own b5 (isC [.slice na now.length nc] 30), .snap lo28 w28.heap.size w28, .snap 0 w.heap.size w]) rfl (fun K l D B ch w3 => ∃ t a n c, firF sh e now = some t ∧ ch = pan 108 (.agg [.slice a n c].toArray) ∧ n = t.length ∧ Ro w3 B0 w3.heap.size a n c 1 (ints t) ∧ w3.heap[D]? = some (.deferred (some [])) ∧ w.heap.size ≤ w3.heap.size ∧ ∀ k, k < w.heap.size → (w3.putObj D (.deferred none)).heap[k]? = w.heap[k]?) ?_ ?_ ?_
      · intro K l D w₂ hK s₂
        refine ex_seq sh pt k now.length e r bb28 bi28 l w₂ (fun L => StB w₂.heap.size (.own l (isLpF 89 K .ready none) :: .own D isDf :: [.reg 0 0 (fun _ => ∀ m ∈ pfxL (exL e r) L, firF sh e (now ++ [m]) = none), .own b5 (isC [.slice na now.length nc] 30), .snap lo28 w28.heap.size w28, .snap 0 w.heap.size w])) ((fun K l D B ch w3 => ∃ t a n c, firF sh e now = some t ∧ ch = pan 108 (.agg [.slice a n c].toArray) ∧ n = t.length ∧ Ro w3 B0 w3.heap.size a n c 1 (ints t) ∧ w3.heap[D]? = some (.deferred (some [])) ∧ w.heap.size ≤ w3.heap.size ∧ ∀ k, k < w.heap.size → (w3.putObj D (.deferred none)).heap[k]? = w.heap[k]?) K l D w₂.heap.size) (fun L => stB_cong) (fun L => ⟨fun w' h => stb_rb h⟩) (fun L => ⟨fun w' h => stb_rb h⟩) (fun L => ⟨fun w' h => stb_ro h⟩) (fun L => ⟨fun w' h => stb_ro h⟩) hs he hr ?_ s₂.stB
        intro n C wr hsuf hI hB
        have hall : ∀ m ∈ pfxL (exL e r) (n :: C), firF sh e (now ++ [m]) = none := stb_fact hI (by simp)
        have hnx := (mem_exL heb.1).1 (sfx_mem hsuf)
        refine yc_roundP Tryz.func89 hK hI hB rfl ?_
        refine t_reg ?_
        refine to_as rfl rfl ?_
        refine to_nil ?_
        refine t_beginP ?_
        refine t_blk ?_
        refine t_regMR [8, 9, 10] [.own b5 (isC [.slice na now.length nc] 30), .snap 0 w.heap.size w] (by kernel_rfl) (by kernel_rfl) ?_
        refine tmr_q ?e1 rfl ?q1 ?r1
        case q1 =>
          first | refine to_lds rfl rfl rfl ?_ | refine to_ldes rfl (by assumption) rfl rfl ?_
          exact tmrq_end
        refine tmr_q ?e2 rfl ?q2 ?r2
        case q2 =>
          first | refine to_lds rfl rfl rfl ?_ | refine to_ldes rfl (by assumption) rfl rfl ?_
          exact tmrq_end
        refine tmr_q ?e3 rfl ?q3 ?r3
        case q3 =>
          first | refine to_lds rfl rfl rfl ?_ | refine to_ldes rfl (by assumption) rfl rfl ?_
          exact tmrq_end
        refine tmr_q ?e4 rfl ?q4 ?r4
        case q4 =>
          refine to_lenS rfl rfl ?_
          exact tmrq_end
        refine tmr_q ?e5 rfl ?q5 ?r5
        case q5 =>
          first | refine to_lds rfl rfl rfl ?_ | refine to_ldes rfl (by assumption) rfl rfl ?_
          exact tmrq_end
        refine tmr_q ?e6 rfl ?q6 ?r6
        case q6 =>
          refine to_lenS rfl rfl ?_
          exact tmrq_end
        refine tmr_q ?e7 rfl ?q7 ?r7
        case q7 =>
          refine to_slM rfl rfl rfl (by omega) (by omega) rfl ?_
          exact tmrq_end
        refine tmr_q ?e8 rfl ?q8 ?r8
        case q8 =>
          refine to_mv rfl rfl ?_
          exact tmrq_end
        refine tmr_s rfl ?_ (fun _ h => by cases h) rfl
        refine to_bsl rfl rfl rfl rfl (fun a38 => ?_)
        refine tmr_se rfl ?_
        refine tmr_s rfl ?_ (fun _ h => by cases h) rfl
        refine to_appF rfl rfl rfl rfl (by decide) (by decide) (by omega) (by decide) rfl (fun a39 c39 => ?_)
        refine tmr_se rfl ?_
        refine tmr_s rfl ?_ (fun _ h => by cases h) rfl
        refine to_callP (R := fun w2 => FrPost sh e B0 (now ++ [n]) w2) rfl rfl (fun w2 s => ?_) rfl (fun w2 s en w3 hd => ?_)
        · have hF2 := hFE.snap s
          have hq := ih (rem - 1) (by omega) (now ++ [n]) a39 c39 w2 (by rw [List.length_append, List.length_singleton]; omega) hF2 (Nat.le_trans hB0 (snap_le s)) (by rw [List.length_append, List.length_singleton, ints_snoc]; exact (ro_row2 s (a := a39)).mono hB0 (Nat.le_refl _) (fun _ _ _ => rfl)) (fun x hx => by
            rcases List.mem_append.1 hx with hx | hx
            · exact hnb x hx
            · rw [List.mem_singleton.1 hx]; omega)
          rw [List.length_append, List.length_singleton] at hq
          exact hq
        obtain ⟨hbl, hm⟩ := hd
        have s3 := s.below hbl
        rcases hq : firF sh e (now ++ [n]) with _ | t
        rotate_left
        · rw [hq] at hm
          obtain ⟨fa, fn, fc, rfl, hfn, hro⟩ := hm
          refine .inr ⟨_, rfl, fun a ea a' ha' => ?_⟩
          exact ⟨ha'.trans ea.ds, keep_of s3, .inr ⟨_, rfl, t, fa, fn, fc, firF_some hr hsuf hall hq, rfl, hfn, hro, own_df s3, put_old s3⟩⟩
        rw [hq] at hm
        subst hm
        refine .inl ⟨_, _, rfl, s3, ?_⟩
        · skip
          refine tmr_se rfl ?_
          refine tmr_nil ?_
          refine tn_blk ?_
          refine tx_fact (p := ∀ m ∈ pfxL (exL e r) C, firF sh e (now ++ [m]) = none) (by rw [pfxL_cons hsuf]; intro m hm; rcases List.mem_append.1 hm with hm | hm; exact hall m hm; rw [List.mem_singleton.1 hm]; exact hq) ?_
          exact t_rendP (.own D isDf :: [.reg 0 0 (fun _ => ∀ m ∈ pfxL (exL e r) C, firF sh e (now ++ [m]) = none), .own b5 (isC [.slice na now.length nc] 30), .snap lo28 w28.heap.size w28, .snap 0 w.heap.size w]) rfl (hi_of_rng (H := .own D isDf :: [.reg 0 0 (fun _ => ∀ m ∈ pfxL (exL e r) (exL e r), firF sh e (now ++ [m]) = none), .own b5 (isC [.slice na now.length nc] 30), .snap lo28 w28.heap.size w28, .snap 0 w.heap.size w]) rfl (fun s hs => s₂.le s (List.mem_cons_of_mem _ hs))) (s₂.le (.own l (isLpF 89 K .ready none)) (List.mem_cons_self ..))
      · intro D a w' ea s
        exact leave_endM rfl ea (own_df s) (frp_none (firF_none hr (s.fact_of (p := ∀ m ∈ pfxL (exL e r) [], firF sh e (now ++ [m]) = none) (by simp))) (below_put ⟨s.os, s.tape, s.output⟩ (put_old s)))
      · intro K l D B ch w₃ a hF hB1 hB2 hos ea
        obtain ⟨t, fa, fn, fc, h1, rfl, h3, h4, h5, h6⟩ := hF
        exact leave_panM ea h5 (frp_some h1 (below_put hos h6) h3 (by rw [World.putObj_size]; exact h4.put h5))

end Go.Proofs


namespace Go.Proofs
open Go Go.Sx Go.RowKit

def AttP3 (pq : Out2 → Nat → World → Prop) (w : World) : Ending → World → Prop := fun e w' => ∃ o lo w3, e = .returned (.tuple #[Out2.sl o, .int .i64 (Out2.er o)]) ∧ Below w.heap.size w w' ∧ w.heap.size ≤ lo ∧ pq o lo w3 ∧ w3.heap.size ≤ w'.heap.size ∧ ∀ j, lo ≤ j → j < w3.heap.size → w'.heap[j]? = w3.heap[j]?
theorem att_leave2 (o : Out2) (w w3 w4 : World) (lo b2 b3 : Nat) (pq : Out2 → Nat → World → Prop) (hlo : w.heap.size ≤ lo) (hp : pq o lo w3) (s3 : St w [.own b2 (isC [.slice none 0 0] 30), .own b3 (isC [.int .i64 (Out2.e0 o)] 23), .snap lo w3.heap.size w3, .snap 0 w.heap.size w] w4) (m : List (Nat × Value)) (a : Act) (ea : Env.ok ⟨Tryz.f87.ntmps, m, [{ target := .fn (.func 109) [(.pointer (some ⟨b2, 0, none⟩)), (.pointer (some ⟨b3, 0, none⟩))].toArray, args := #[] }]⟩ a) (hm : lk m 2 = some (.pointer (some ⟨b2, 0, none⟩))) (hm2 : lk m 3 = some (.pointer (some ⟨b3, 0, none⟩))) :
    Leaves Tryz.prog Tryz.f87 a.tmps (AttP3 pq w) a.defers (Out2.mode 108 128 o) w4 := by
  refine leave1 ea.ds (by cases o <;> simp [Out2.mode]) (c_att o w _ b2 b3 w4 s3) ?_
  rintro e u' w' ⟨rfl, h2, h3⟩
  have hb := below_of h3
  have hsn : w3.heap.size ≤ w'.heap.size := h3.le (.snap lo w3.heap.size w3) (by simp)
  have hsk : ∀ j, lo ≤ j → j < w3.heap.size → w'.heap[j]? = w3.heap[j]? := h3.ok (.snap lo w3.heap.size w3) (by simp)
  refine ⟨rfl, h2, .tuple #[o.sl, .int .i64 o.er], ?_, o, lo, w3, rfl, hb, hlo, hp, hsn, hsk⟩
  have hsl : ∃ a n c, o.sl = .slice a n c := by cases o <;> exact ⟨_, _, _, rfl⟩
  obtain ⟨sa, sn, sc, hsl⟩ := hsl
  rw [hsl] at h3 ⊢
  have hres : ResOk Tryz.prog w ⟨Tryz.f87.ntmps, m, [{ target := .fn (.func 109) [(.pointer (some ⟨b2, 0, none⟩)), (.pointer (some ⟨b3, 0, none⟩))].toArray, args := #[] }]⟩ [.own b2 (isC [.slice sa sn sc] 30), .own b3 (isC [.int .i64 o.er] 23), .snap lo w3.heap.size w3, .snap 0 w.heap.size w] (.cell 2 30) (.slice sa sn sc) := res_cellS (ht := Tryz.ty30) hm rfl
  have hres2 : ResOk Tryz.prog w ⟨Tryz.f87.ntmps, m, [{ target := .fn (.func 109) [(.pointer (some ⟨b2, 0, none⟩)), (.pointer (some ⟨b3, 0, none⟩))].toArray, args := #[] }]⟩ [.own b2 (isC [.slice sa sn sc] 30), .own b3 (isC [.int .i64 o.er] 23), .snap lo w3.heap.size w3, .snap 0 w.heap.size w] (.cell 3 23) (.int .i64 o.er) := res_cellS (ht := Tryz.ty23) hm2 rfl
  exact run_results (l := [.cell 2 30, .cell 3 23]) (vs := [.slice sa sn sc, .int .i64 o.er]) rfl rfl (fun i r v h h' => by
    match i with
    | 0 => cases h; cases h'; exact hres a w' ea h3
    | 1 => cases h; cases h'; exact hres2 a w' ea h3
    | i + 2 => simp at h)

set_option maxRecDepth 20000 in
theorem c_attempt2 (q : Nat) (cp : List Value) (w : World) (pq : Out2 → Nat → World → Prop) [hfq : FnOk Tryz.prog q] (hdo : ∀ w', Below w.heap.size w w' → Calls Tryz.prog q ([] ++ ([] ++ cp)).toArray w' (fun e w3 => Below w'.heap.size w' w3 ∧ ∃ o, outE2 108 128 o e ∧ pq o w'.heap.size w3)) : Calls Tryz.prog 87 #[.func (.func q) ([] : List Value).toArray cp.toArray] w (AttP3 pq w) := by
  refine calls_TD (av := [_]) Tryz.func87 rfl rfl rfl (St.start w) ?_
  refine t_seq ?_
  refine t_reg ?_
  refine to_alloc rfl (fun b2 => ?_)
  refine to_alloc rfl (fun b3 => ?_)
  refine to_nil ?_
  refine tn_code ?_
  refine t_seq ?_
  refine t_reg ?_
  refine to_mf rfl rfl rfl ?_
  refine to_defer rfl rfl ?_
  refine to_nil ?_
  refine tn_code ?_
  refine t_seq ?_
  refine t_reg ?_
  refine to_mv rfl rfl ?_
  refine to_callP (R := fun w2 e w3 => Below w2.heap.size w2 w3 ∧ ∃ o, outE2 108 128 o e ∧ pq o w2.heap.size w3) rfl rfl (fun w2 s => hdo w2 (below_of s)) rfl (fun w2 s e w3 hd => ?_)
  obtain ⟨hbl, o, ho, hp⟩ := hd
  have hlo2 := snap_le (w := w) s
  rcases o with _ | ⟨fa, fn, fc⟩ | z
  rotate_left
  · exact .inr ⟨_, ho, fun a ea => att_leave2 (.fd fa fn fc) w w3 w3 w2.heap.size b2 b3 pq hlo2 hp (show St w [.own b2 (isC [.slice none 0 0] 30), .own b3 (isC [.int .i64 0] 23), .snap w2.heap.size w3.heap.size w3, .snap 0 w.heap.size w] w3 from (s.snap hbl).sub) _ a ea rfl rfl⟩
  · exact .inr ⟨_, ho, fun a ea => att_leave2 (.no z) w w3 w3 w2.heap.size b2 b3 pq hlo2 hp (show St w [.own b2 (isC [.slice none 0 0] 30), .own b3 (isC [.int .i64 0] 23), .snap w2.heap.size w3.heap.size w3, .snap 0 w.heap.size w] w3 from (s.snap hbl).sub) _ a ea rfl rfl⟩
  refine .inl ⟨_, _, ho, (show St w [.own b2 (isC [.slice none 0 0] 30), .own b3 (isC [.int .i64 0] 23), .snap w2.heap.size w3.heap.size w3, .snap 0 w.heap.size w] w3 from (s.snap hbl).sub), ?_⟩
  · skip
    refine to_nil ?_
    refine tn_code ?_
    refine t_seq ?_
    refine t_reg ?_
    first | refine to_st rfl rfl rfl rfl ?_ | refine to_ste rfl rfl (by assumption) rfl rfl ?_
    first | refine to_st rfl rfl rfl rfl ?_ | refine to_ste rfl rfl (by assumption) rfl rfl ?_
    refine to_nil ?_
    refine tn_code ?_
    exact t_ret (fun a w' ea s => att_leave2 .ok w w3 w' w2.heap.size b2 b3 pq hlo2 hp (show St w [.own b2 (isC [.slice none 0 0] 30), .own b3 (isC [.int .i64 5] 23), .snap w2.heap.size w3.heap.size w3, .snap 0 w.heap.size w] w' from s.sub) _ a ea rfl rfl)

structure FE0 (sh : Sh) (pt : Pt) (k : Nat) (e : Int) (b1 b2 b3 : Nat) (ra : Option Addr) (rc : Nat) (Ms : List Nat) (w : World) : Prop where
  t : Rb w 0 w.heap.size b1 (tbC sh pt (k : Int))
  m : Rb w 0 w.heap.size b2 [.slice ra Ms.length rc]
  s : Rb w 0 w.heap.size b3 (shC sh pt)
  er : Ro w 0 w.heap.size pt.ea sh.errs.length pt.ec 1 (ints sh.errs)
  rr : Ro w 0 w.heap.size pt.ra sh.rows.length pt.rc 1 (ints sh.rows)
  mr : Ro w 0 w.heap.size ra Ms.length rc 1 (Ms.map fun x => [.map (some x)])
  maps : ∀ i, i ≤ sh.rows.length → ∃ x l c, Ms[i]? = some x ∧ NB w 0 w.heap.size x l c ∧ OkN l c (sumO (fig sh) e (sh.rows.drop i))
theorem FE0.snap {sh : Sh} {pt : Pt} {k : Nat} {e : Int} {b1 b2 b3 : Nat} {ra : Option Addr} {rc : Nat} {Ms : List Nat} {w0 w w2 : World} {H : List Seg} (s : St w0 H w2) [hs : SnapAt w H 0 w.heap.size] (h : FE0 sh pt k e b1 b2 b3 ra rc Ms w) : FE0 sh pt k e b1 b2 b3 ra rc Ms w2 := by
  have h1 := h.t; have h2 := h.m; have h3 := h.s; have h5 := h.er; have h6 := h.rr; have h7 := h.mr
  refine ⟨rb_snap s, rb_snap s, rb_snap s, ro_snapB s, ro_snapB s, ro_snapB s, fun i hi => ?_⟩
  obtain ⟨x, l, c, q1, q2, q3⟩ := h.maps i hi
  exact ⟨x, l, c, q1, q2.mono (Nat.zero_le _) (s.le _ hs.mem) (fun k h1 h2 => s.ok _ hs.mem k h1 h2), q3⟩
theorem fe0_below {sh : Sh} {pt : Pt} {k : Nat} {e : Int} {b1 b2 b3 : Nat} {ra : Option Addr} {rc : Nat} {Ms : List Nat} {w w2 : World} (h : FE0 sh pt k e b1 b2 b3 ra rc Ms w) (hb : Below w.heap.size w w2) : FE0 sh pt k e b1 b2 b3 ra rc Ms w2 := h.snap ((St.start w).below hb)

set_option maxRecDepth 20000 in
theorem c_Proof1 (sh : Sh) (pt : Pt) (k : Nat) (e : Int) (c1 c2 c3 : Nat) (ra : Option Addr) (rc : Nat) (Ms : List Nat) (w : World) (hs : isSh sh = true) (he : sh.errs[k]? = some e) (h0 : FE0 sh pt k e c1 c2 c3 ra rc Ms w) : Calls Tryz.prog 88 #[(.pointer (some ⟨c1, 0, none⟩)), (.pointer (some ⟨c2, 0, none⟩)), (.pointer (some ⟨c3, 0, none⟩))] w (FrPost sh e w.heap.size [] w) := by
  refine calls_TG (av := [_, _, _]) Tryz.func88 rfl rfl rfl (St.start w) ?_
  refine t_seq ?_
  refine t_reg ?_
  refine to_alloc rfl (fun b3 => ?_)
  refine to_nil ?_
  refine tn_code ?_
  refine t_seq ?_
  refine t_reg ?_
  refine to_mf rfl rfl rfl ?_
  first | refine to_st rfl rfl rfl rfl ?_ | refine to_ste rfl rfl (by assumption) rfl rfl ?_
  refine to_nil ?_
  refine tn_code ?_
  refine t_reg ?_
  first | refine to_lds rfl rfl rfl ?_ | refine to_ldes rfl (by assumption) rfl rfl ?_
  refine to_callP (R := fun w2 => FrPost sh e w.heap.size [] w2) rfl rfl (fun w2 s => ?_) rfl (fun w2 s en w3 hd => ?_)
  · have hq := h0.snap s
    exact fr_from sh pt k e c1 c2 c3 b3 ra rc Ms w.heap.size hs he sh.rows.length [] none 0 w2 (by simp) ⟨hq.t, hq.m, hq.s, rbw s, hq.er, hq.rr, hq.mr, hq.maps⟩ (snap_le s) (Ro.nil _ _ _ _) (fun x hx => by cases hx)
  obtain ⟨hbl, hm⟩ := hd
  have s3 := s.below hbl
  rcases hq : firF sh e [] with _ | t
  rotate_left
  · rw [hq] at hm
    obtain ⟨fa, fn, fc, rfl, hfn, hro⟩ := hm
    exact .inr ⟨_, rfl, fun a ea => ⟨ea.ds, frp_some hq (below_of s3) hfn hro⟩⟩
  rw [hq] at hm
  subst hm
  refine .inl ⟨_, _, rfl, s3, ?_⟩
  · skip
    refine to_nil ?_
    exact t_end0G rfl rfl (fun w' s => frp_none hq (below_of s))

theorem c_att_Proof (sh : Sh) (pt : Pt) (k : Nat) (e : Int) (c1 c2 c3 : Nat) (ra : Option Addr) (rc : Nat) (Ms : List Nat) (w : World) (hs : isSh sh = true) (he : sh.errs[k]? = some e) (h0 : FE0 sh pt k e c1 c2 c3 ra rc Ms w) : Calls Tryz.prog 87 #[.func (.func 88) #[] #[(.pointer (some ⟨c1, 0, none⟩)), (.pointer (some ⟨c2, 0, none⟩)), (.pointer (some ⟨c3, 0, none⟩))]] w (Ret w (RSlE ((firF sh e []).getD []) (if (firF sh e []).isSome then 0 else 5))) := by
  refine (c_attempt2 88 [(.pointer (some ⟨c1, 0, none⟩)), (.pointer (some ⟨c2, 0, none⟩)), (.pointer (some ⟨c3, 0, none⟩))] w (fun o lo w3 => match o with | .ok => firF sh e [] = none | .fd a n c => ∃ t, firF sh e [] = some t ∧ n = t.length ∧ Ro w3 lo w3.heap.size a n c 1 (ints t) | .no _ => False) ?_).mono ?_
  · intro w' hb
    refine (c_Proof1 sh pt k e c1 c2 c3 ra rc Ms w' hs he (fe0_below h0 hb)).mono ?_
    rintro en w3 ⟨hbl, hm⟩
    refine ⟨hbl, ?_⟩
    rcases hq : firF sh e [] with _ | t
    · rw [hq] at hm; exact ⟨.ok, hm, rfl⟩
    · rw [hq] at hm
      obtain ⟨fa, fn, fc, rfl, hfn, hro⟩ := hm
      exact ⟨.fd fa fn fc, rfl, t, rfl, hfn, hro⟩
  · rintro en w' ⟨o, lo, w3, rfl, hb, hlo, hp, hsz, hsk⟩
    refine ⟨_, rfl, hb, ?_⟩
    cases o with
    | ok =>
      simp only at hp
      rw [hp]; exact ⟨none, 0, rfl, Ro.nil _ _ _ _⟩
    | fd a n c =>
      obtain ⟨t, h1, h2, h3⟩ := hp
      rw [h1]
      exact rsle_of h2.symm (h3.mono hlo hsz hsk)
    | no z => exact hp.elim

abbrev MEn := Nat × List En × Nat
def mapsS (Ms : List MEn) : List Seg := Ms.map fun x => .own x.1 (isNE x.2.1 x.2.2)
def mapsV (Ms : List MEn) : List (List Value) := Ms.reverse.map fun x => [.map (some x.1)]
theorem mapsV_cons (x : MEn) (Ms : List MEn) : mapsV (x :: Ms) = mapsV Ms ++ [[.map (some x.1)]] := by simp [mapsV]
def MsOk (sh : Sh) (e : Int) (Ms : List MEn) : Prop := ∀ i x, Ms.reverse[i]? = some x → OkN x.2.1 x.2.2 (sumO (fig sh) e (sh.rows.drop i))
theorem msOk_cons {sh : Sh} {e : Int} {Ms : List MEn} {x : MEn} (h : MsOk sh e Ms) (hx : OkN x.2.1 x.2.2 (sumO (fig sh) e (sh.rows.drop Ms.length))) : MsOk sh e (x :: Ms) := by
  intro i y hy
  rw [List.reverse_cons] at hy
  rcases Nat.lt_trichotomy i Ms.length with h1 | h1 | h1
  · rw [List.getElem?_append_left (by simpa using h1)] at hy; exact h i y hy
  · subst h1
    rw [List.getElem?_append_right (by simp)] at hy
    simp at hy; subst hy; exact hx
  · rw [List.getElem?_eq_none (by simp; omega)] at hy; cases hy
theorem maps_nb {w0 w : World} {H : List Seg} {Ms : List MEn} (s : St w0 H w) [ht : TailH (mapsS Ms) H] {x : MEn} (hx : x ∈ Ms) : NB w 0 w.heap.size x.1 x.2.1 x.2.2 := by
  obtain ⟨R, hp⟩ := ht.sub
  have hm : .own x.1 (isNE x.2.1 x.2.2) ∈ H := hp.mem_iff.2 (List.mem_append_left _ (List.mem_map.2 ⟨x, hx, rfl⟩))
  obtain ⟨o, h1, h2⟩ := s.ok _ hm
  refine ⟨Nat.zero_le _, (Array.getElem?_eq_some_iff.1 h1).1, ?_⟩
  rw [h1, h2]
def prfR (sh : Sh) (e : Int) : List Int × Int := ((firF sh e []).getD [], if (firF sh e []).isSome then 0 else 5)

theorem fe0_of {sh : Sh} {pt : Pt} {k : Nat} {e : Int} {b2 b6 b8 j c' : Nat} {a' : Option Addr} {Ms : List MEn} {w w2 : World} (s : St w (.row a' j c' 102 1 (mapsV Ms) :: .own b8 (isC [.slice a' j c'] 101) :: .own b6 (isC (tbC sh pt (k : Int)) 86) :: .own b2 (isC (shC sh pt) 33) :: .snap 0 w.heap.size w :: mapsS Ms) w2) [hre : Ro w 0 w.heap.size pt.ea sh.errs.length pt.ec 1 (ints sh.errs)] [hrr : Ro w 0 w.heap.size pt.ra sh.rows.length pt.rc 1 (ints sh.rows)] (hl : Ms.length = j) (hm : MsOk sh e Ms) (hj : sh.rows.length < j) :
    FE0 sh pt k e b6 b8 b2 a' c' (Ms.reverse.map (·.1)) w2 := by
  have h1 : (Ms.reverse.map (·.1)).length = j := by simp [hl]
  refine ⟨rbw s, ?_, rbw s, ro_snapB s, ro_snapB s, ?_, fun i hi => ?_⟩
  · rw [h1]; exact rbw s
  · rw [h1]
    have h2 : (Ms.reverse.map (·.1)).map (fun x => ([.map (some x)] : List Value)) = mapsV Ms := by simp [mapsV, Function.comp_def]
    rw [h2]; exact rdw s
  · obtain ⟨x, hx⟩ := some_get (xs := Ms.reverse) (k := i) (by simp; omega)
    refine ⟨x.1, x.2.1, x.2.2, by rw [List.getElem?_map, hx]; rfl, maps_nb s (List.mem_reverse.1 (List.mem_of_getElem? hx)), hm i x hx⟩

set_option maxRecDepth 20000 in
theorem r_Proof_t (sh : Sh) (pt : Pt) (k : Nat) (e : Int) (w : World) (hre : Ro w 0 w.heap.size pt.ea sh.errs.length pt.ec 1 (ints sh.errs)) (hrr : Ro w 0 w.heap.size pt.ra sh.rows.length pt.rc 1 (ints sh.rows)) (hs : isSh sh = true) (he : sh.errs[k]? = some e) : Calls Tryz.prog 49 #[shV sh pt, (.int .i64 (k : Int))] w (Ret w (RSlE (prfR sh e).1 (prfR sh e).2)) := by
  have heb := errs_b (isSh_e hs) e (List.mem_of_getElem? he)
  have hbb := isSh_b hs
  have hxe := map_get (f := intC) he
  have hke := (List.getElem?_eq_some_iff.1 he).1
  refine calls_T (av := [_, _]) Tryz.func49 rfl rfl rfl ?_
  refine t_seq ?_
  refine t_reg ?_
  refine to_box rfl rfl (fun b2 => ?_)
  refine to_as rfl rfl ?_
  refine to_as rfl rfl ?_
  refine to_nil ?_
  refine tn_code ?_
  refine t_seq ?_
  refine t_reg ?_
  first | refine to_lda rfl rfl rfl ?_ | refine to_ldea rfl (by assumption) rfl rfl ?_
  refine to_mv rfl rfl ?_
  refine to_call0 rfl rfl (fun w s => r_open_t sh pt k e w (rdw s) (rdw s) hs he) rfl ?_
  refine to_mv rfl rfl ?_
  refine to_ex rfl rfl rfl ?_
  refine to_ex rfl rfl rfl ?_
  refine to_alloc rfl (fun b6 => ?_)
  first | refine to_st rfl rfl rfl rfl ?_ | refine to_ste rfl rfl (by assumption) rfl rfl ?_
  refine to_as rfl rfl ?_
  refine to_nil ?_
  refine tn_code ?_
  refine t_seq ?_
  refine t_seq ?_
  refine t_reg ?_
  refine to_mv rfl rfl ?_
  refine to_neq rfl rfl rfl ?_
  refine to_fix (s := 17) (b' := false) rfl (rfl) ?_
  refine to_nil ?_
  refine tn_code ?_
  refine t_ifF rfl ?_
  refine t_skip ?_
  refine tn_code ?_
  refine t_seq ?_
  refine t_reg ?_
  refine to_alloc rfl (fun b8 => ?_)
  refine to_nil ?_
  refine tn_code ?_
  refine t_seq ?_
  refine t_seq ?_
  refine t_reg ?_
  first | refine to_fa rfl rfl rfl (by simp only [Nat.reduceAdd]; rfl) rfl ?_ | refine to_fae rfl rfl rfl (by simp only [Nat.reduceAdd]; rfl) rfl ?_
  first | refine to_lds rfl rfl rfl ?_ | refine to_ldes rfl (by assumption) rfl rfl ?_
  refine to_lenS rfl rfl ?_
  refine to_add rfl rfl (by omega) rfl ?_
  refine to_mv rfl rfl ?_
  refine to_nil ?_
  refine tn_code ?_
  refine t_blk ?_
  refine t_nilrow 102 1 ?_
  refine t_loop2 (ι := Nat × Option Addr × Nat × List MEn) (fun ((j, a', c', Ms) : Nat × Option Addr × Nat × List MEn) => Ms.length = j ∧ MsOk sh e Ms) (fun ((j, a', c', Ms) : Nat × Option Addr × Nat × List MEn) => [(2, (.pointer (some ⟨b2, 0, none⟩))), (6, (.pointer (some ⟨b6, 0, none⟩))), (8, (.pointer (some ⟨b8, 0, none⟩))), (22, (.int .i64 ((sh.rows.length : Int) + 1))), (23, (.int .i64 (j : Int)))]) (fun ((j, a', c', Ms) : Nat × Option Addr × Nat × List MEn) => (.row a' j c' 102 1 (mapsV Ms) :: .own b8 (isC [.slice a' j c'] 101) :: .own b6 (isC (tbC sh pt (k : Int)) 86) :: .own b2 (isC (shC sh pt) 33) :: .snap 0 w.heap.size w :: mapsS Ms)) (fun ((j, a', c', Ms) : Nat × Option Addr × Nat × List MEn) => sh.rows.length + 1 - j) ((0, none, 0, [])) (.row none 0 0 102 1 [] :: .own b8 (isC [.slice none 0 0] 101) :: .own b6 (isC (tbC sh pt (k : Int)) 86) :: .own b2 (isC (shC sh pt) 33) :: .snap 0 w.heap.size w :: []) (rfl) (⟨rfl, fun i x hx => by simp at hx⟩) (⟨rfl, rfl, rfl, rfl, rfl, trivial⟩) ?_
  rintro ⟨j, a', c', Ms⟩ hk
  try dsimp only at hk
  show T _ _ _ ⟨_, [(2, (.pointer (some ⟨b2, 0, none⟩))), (6, (.pointer (some ⟨b6, 0, none⟩))), (8, (.pointer (some ⟨b8, 0, none⟩))), (22, (.int .i64 ((sh.rows.length : Int) + 1))), (23, (.int .i64 (j : Int)))], _⟩ (.row a' j c' 102 1 (mapsV Ms) :: .own b8 (isC [.slice a' j c'] 101) :: .own b6 (isC (tbC sh pt (k : Int)) 86) :: .own b2 (isC (shC sh pt) 33) :: .snap 0 w.heap.size w :: mapsS Ms)
  refine t_seq ?_
  refine t_reg ?_
  refine to_lss rfl rfl rfl ?_
  refine to_nil ?_
  refine tn_code ?_
  refine t_seq ?_
  refine t_if rfl (fun h1 => ?_) (fun h1 => ?_)
  · try simp only [decide_eq_true_eq, decide_eq_false_iff_not, Bool.not_eq_true', Bool.not_eq_false', Int.not_lt, Int.not_le, ne_eq, Decidable.not_not] at h1
    try have h1b := inB_iff.1 h1
    have hjl : j ≤ sh.rows.length := by omega
    refine t_skip ?_
    refine tn_code ?_
    refine t_seq ?_
    refine t_blk ?_
    refine t_seq ?_
    refine t_reg ?_
    refine to_mv rfl rfl ?_
    refine to_as rfl rfl ?_
    refine to_nil ?_
    refine tn_code ?_
    refine t_regM [3, 4, 5, 6] [.own b6 (isC (tbC sh pt (k : Int)) 86), .own b8 (isC [.slice a' j c'] 101), .snap 0 w.heap.size w] rfl (by kernel_rfl) (by kernel_rfl) ?_
    refine tm_q ?e1 rfl ?q1 ?r1
    case q1 =>
      first | refine to_lds rfl rfl rfl ?_ | refine to_ldes rfl (by assumption) rfl rfl ?_
      exact tmq_end
    refine tm_q ?e2 rfl ?q2 ?r2
    case q2 =>
      first | refine to_lda rfl rfl rfl ?_ | refine to_ldea rfl (by assumption) rfl rfl ?_
      exact tmq_end
    refine tm_q ?e3 rfl ?q3 ?r3
    case q3 =>
      refine to_mv rfl rfl ?_
      exact tmq_end
    refine tm_s rfl ?_ (fun _ h => by cases h) rfl
    refine to_callR rfl rfl (fun w s => r_sums sh pt k e j w (rdw s) (rdw s) hs he (by omega)) rfl (fun v29 lo29 w29 hlo29 hR29 => ?_)
    obtain ⟨rm29, lm29, cm29, rfl, hnb29, hok29⟩ := hR29
    refine tm_se rfl ?_
    refine tm_s rfl ?_ (fun _ h => by cases h) rfl
    refine to_bsl rfl rfl rfl rfl (fun a30 => ?_)
    refine tm_se rfl ?_
    refine tm_s rfl ?_ (fun _ h => by cases h) rfl
    refine to_app rfl rfl rfl (by simp [scals, scal]) (by decide) (by omega) (by decide) rfl (fun a31 c31 => ?_)
    refine tm_se rfl ?_
    refine tm_s rfl ?_ (fun _ h => by cases h) rfl
    first | refine to_st rfl rfl rfl rfl ?_ | refine to_ste rfl rfl (by assumption) rfl rfl ?_
    refine tm_sl (by kernel_rfl) rfl rfl ?_
    refine tn_blk ?_
    refine tn_code ?_
    refine t_reg ?_
    refine to_add rfl rfl (by omega) rfl ?_
    refine to_mv rfl rfl ?_
    refine to_nil ?_
    refine tx_snapN hnb29 ?_
    exact tn_loop2 ((j + 1, a31, c31, (rm29, lm29, cm29) :: Ms)) (.row a31 (j + 1) c31 102 1 (mapsV Ms ++ [[Value.map (some rm29)]]) :: .own b8 (isC [.slice a31 (j + 1) c31] 101) :: .own b6 (isC (tbC sh pt (k : Int)) 86) :: .own b2 (isC (shC sh pt) 33) :: .snap 0 w.heap.size w :: .own rm29 (isNE lm29 cm29) :: mapsS Ms) (by dsimp only; rw [mapsV_cons]; rfl) (⟨by simp; exact hk.1, msOk_cons hk.2 (by rw [hk.1]; exact hok29)⟩) (by dsimp only; omega) (⟨rfl, rfl, rfl, rfl, rfl, trivial⟩)
  · try simp only [decide_eq_true_eq, decide_eq_false_iff_not, Bool.not_eq_true', Bool.not_eq_false', Int.not_lt, Int.not_le, ne_eq, Decidable.not_not] at h1
    try have h1b := inB_iff.1 h1
    have hjl : sh.rows.length < j := by omega
    refine t_exit ?_
    refine tx_code ?_
    refine tx_inv ?_
    refine tx_blk ?_
    refine tn_code ?_
    refine t_seq ?_
    refine t_reg ?_
    refine to_mf rfl rfl rfl ?_
    refine to_callR rfl rfl (fun w s => c_att_Proof sh pt k e b6 b8 b2 a' c' (Ms.reverse.map (·.1)) w hs he (fe0_of s hk.1 hk.2 (by omega))) rfl (fun v34 lo34 w34 hlo34 hR34 => ?_)
    obtain ⟨pa34, pc34, rfl, hro34⟩ := hR34
    refine to_ex rfl rfl rfl ?_
    refine to_ex rfl rfl rfl ?_
    refine to_as rfl rfl ?_
    refine to_as rfl rfl ?_
    refine to_nil ?_
    refine tn_code ?_
    refine t_ret2 rfl rfl (res_tmp rfl) (res_tmp rfl) (fun w' s => ?_)
    exact rsle_of rfl (ro_snap s (by assumption))

set_option maxRecDepth 20000 in
theorem r_Proof_f (sh : Sh) (pt : Pt) (gd : Int) (w : World) (hre : Ro w 0 w.heap.size pt.ea sh.errs.length pt.ec 1 (ints sh.errs)) (hrr : Ro w 0 w.heap.size pt.ra sh.rows.length pt.rc 1 (ints sh.rows)) (hl : sh.errs.length ≤ 1000000) (ho : okG sh gd = false) : Calls Tryz.prog 49 #[shV sh pt, (.int .i64 gd)] w (Ret w (RSlE [] 2)) := by
  refine calls_T (av := [_, _]) Tryz.func49 rfl rfl rfl ?_
  refine t_seq ?_
  refine t_reg ?_
  refine to_box rfl rfl (fun b2 => ?_)
  refine to_as rfl rfl ?_
  refine to_as rfl rfl ?_
  refine to_nil ?_
  refine tn_code ?_
  refine t_seq ?_
  refine t_reg ?_
  first | refine to_lda rfl rfl rfl ?_ | refine to_ldea rfl (by assumption) rfl rfl ?_
  refine to_mv rfl rfl ?_
  refine to_call0 rfl rfl (fun w s => r_open_f sh pt gd w (rdw s) (rdw s) hl ho) rfl ?_
  refine to_mv rfl rfl ?_
  refine to_ex rfl rfl rfl ?_
  refine to_ex rfl rfl rfl ?_
  refine to_alloc rfl (fun b6 => ?_)
  first | refine to_st rfl rfl rfl rfl ?_ | refine to_ste rfl rfl (by assumption) rfl rfl ?_
  refine to_as rfl rfl ?_
  refine to_nil ?_
  refine tn_code ?_
  refine t_seq ?_
  refine t_seq ?_
  refine t_reg ?_
  refine to_mv rfl rfl ?_
  refine to_neq rfl rfl rfl ?_
  refine to_fix (s := 17) (b' := true) rfl (rfl) ?_
  refine to_nil ?_
  refine tn_code ?_
  refine t_ifT rfl ?_
  refine t_seq ?_
  refine t_reg ?_
  refine to_mv rfl rfl ?_
  refine to_as rfl rfl ?_
  refine to_as rfl rfl ?_
  refine to_nil ?_
  refine tn_code ?_
  refine t_ret2 rfl rfl (res_tmp rfl) (res_tmp rfl) (fun w' s => ?_)
  exact ⟨_, _, rfl, Ro.nil _ _ _ _⟩

end Go.Proofs


namespace Go.Proofs
open Go Go.Sx Go.RowKit

set_option maxRecDepth 20000 in
theorem ex_seqL {β : Type} (sh : Sh) (pt : Pt) (k i : Nat) (e r : Int) (bb b2 y : Nat) (w : World) (S : List Int → β → List Seg) (x0 : β) (hre : Ro w 0 w.heap.size pt.ea sh.errs.length pt.ec 1 (ints sh.errs)) (hrr : Ro w 0 w.heap.size pt.ra sh.rows.length pt.rc 1 (ints sh.rows)) (hs : isSh sh = true) (he : sh.errs[k]? = some e) (hr : sh.rows[i]? = some r) (hbb : Rb w 0 w.heap.size bb (tbC sh pt (k : Int))) (hbi : Rb w 0 w.heap.size b2 [.int .i64 (i : Int)]) (hY : ∀ n C x R w', n :: C <:+ exL e r → StL (S (n :: C) x ++ R) w' → YC Tryz.prog y #[.int .i64 n] w' (fun en w2 => en = .returned (.bool true) ∧ Ext w' w2 ∧ ∃ x', StL (S C x' ++ R) w2)) (hS0 : StL (S (exL e r) x0) w) : Calls Tryz.prog 111 #[.func (.yield y) #[] #[], (.pointer (some ⟨bb, 0, none⟩)), (.pointer (some ⟨b2, 0, none⟩))] w (fun en w' => en = .returned (.tuple #[]) ∧ Ext w w' ∧ ∃ x, StL (S [] x) w') := by
  have heb := errs_b (isSh_e hs) e (List.mem_of_getElem? he)
  have hbb := isSh_b hs
  have hxe := map_get (f := intC) he
  have hke := (List.getElem?_eq_some_iff.1 he).1
  have hrb := isSh_r hs (List.mem_of_getElem? hr)
  have hxr := map_get (f := intC) hr
  have hir := (List.getElem?_eq_some_iff.1 hr).1
  refine calls_TG (av := [_, _, _]) Tryz.func111 rfl rfl rfl (St.start w) ?_
  refine t_seq ?_
  refine t_reg ?_
  first | refine to_lda rfl rfl rfl ?_ | refine to_ldea rfl (by assumption) rfl rfl ?_
  first | refine to_lds rfl rfl rfl ?_ | refine to_ldes rfl (by assumption) rfl rfl ?_
  refine to_call0 rfl rfl (fun w s => r_bounds sh pt k e i r w (rdw s) (rdw s) hs he hr) rfl ?_
  refine to_alloc rfl (fun b4 => ?_)
  first | refine to_st rfl rfl rfl rfl ?_ | refine to_ste rfl rfl (by assumption) rfl rfl ?_
  refine to_nil ?_
  refine tn_code ?_
  refine t_seq ?_
  refine t_reg ?_
  first | refine to_fa rfl rfl rfl (by simp only [Nat.reduceAdd]; rfl) rfl ?_ | refine to_fae rfl rfl rfl (by simp only [Nat.reduceAdd]; rfl) rfl ?_
  first | refine to_lds rfl rfl rfl ?_ | refine to_ldes rfl (by assumption) rfl rfl ?_
  refine to_as rfl rfl ?_
  refine to_nil ?_
  refine tn_code ?_
  refine t_blk ?_
  refine t_unsnap hS0 (.own b4 (isC [.int .i64 (r - e), .int .i64 (r + e)] 53) :: S (exL e r) x0) (by exact List.Perm.refl _) ?_
  refine t_loop2 (ι := Nat × β) (fun ((j, x) : Nat × β) => j ≤ (2 * e + 1).toNat) (fun ((j, x) : Nat × β) => [(0, .func (.yield y) #[] #[]), (4, (.pointer (some ⟨b4, 0, none⟩))), (5, .int .i64 (r - e + (j : Int)))]) (fun ((j, x) : Nat × β) => (.own b4 (isC [.int .i64 (r - e), .int .i64 (r + e)] 53) :: S (rngN (r - e + (j : Nat)) ((2 * e + 1).toNat - (j))) x)) (fun ((j, x) : Nat × β) => (2 * e + 1).toNat - j) ((0, x0)) (.own b4 (isC [.int .i64 (r - e), .int .i64 (r + e)] 53) :: S (exL e r) x0) (by simp [exL]) (Nat.zero_le _) (⟨rfl, rfl, congrArg (fun z => some (Value.int .i64 z)) (Int.add_zero (r - e)).symm, trivial⟩) ?_
  rintro ⟨j, x⟩ hk
  try dsimp only at hk
  show T _ _ _ ⟨_, [(0, .func (.yield y) #[] #[]), (4, (.pointer (some ⟨b4, 0, none⟩))), (5, .int .i64 (r - e + (j : Int)))], _⟩ (.own b4 (isC [.int .i64 (r - e), .int .i64 (r + e)] 53) :: S (rngN (r - e + (j : Nat)) ((2 * e + 1).toNat - (j))) x)
  refine t_seq ?_
  refine t_seq ?_
  refine t_reg ?_
  refine to_mv rfl rfl ?_
  first | refine to_fa rfl rfl rfl (by simp only [Nat.reduceAdd]; rfl) rfl ?_ | refine to_fae rfl rfl rfl (by simp only [Nat.reduceAdd]; rfl) rfl ?_
  first | refine to_lds rfl rfl rfl ?_ | refine to_ldes rfl (by assumption) rfl rfl ?_
  refine to_leq rfl rfl rfl ?_
  refine to_nil ?_
  refine tn_code ?_
  refine t_if rfl (fun h1 => ?_) (fun h1 => ?_)
  · try simp only [decide_eq_true_eq, decide_eq_false_iff_not, Bool.not_eq_true', Bool.not_eq_false', Int.not_lt, Int.not_le, ne_eq, Decidable.not_not] at h1
    try have h1b := inB_iff.1 h1
    have hjN : j < (2 * e + 1).toNat := by omega
    refine t_skip ?_
    refine tn_code ?_
    refine t_seq ?_
    refine t_blk ?_
    refine t_seq ?_
    refine t_reg ?_
    refine to_mv rfl rfl ?_
    refine to_mv rfl rfl ?_
    rw [rng_cons hjN]
    refine to_callYL (fun z => S (rngN (r - e + (j + 1 : Nat)) ((2 * e + 1).toNat - (j + 1))) z) (fun z => (.own b4 (isC [.int .i64 (r - e), .int .i64 (r + e)] 53) :: S (rngN (r - e + (j + 1 : Nat)) ((2 * e + 1).toNat - (j + 1))) z)) rfl rfl rfl (fun z => rfl) (fun R w2 hw => hY _ _ x R w2 (by rw [← rng_cons hjN]; exact rng_sfx _ _ _) hw) rfl (fun x' => ?_)
    refine to_not rfl rfl ?_
    refine to_nil ?_
    refine tn_code ?_
    refine t_ifF rfl ?_
    refine t_skip ?_
    refine tn_blk ?_
    refine tn_code ?_
    refine t_reg ?_
    refine to_mv rfl rfl ?_
    refine to_add rfl rfl (by omega) rfl ?_
    refine to_as rfl rfl ?_
    refine to_nil ?_
    exact tn_loop2 ((j + 1, x')) (.own b4 (isC [.int .i64 (r - e), .int .i64 (r + e)] 53) :: S (rngN (r - e + (j + 1 : Nat)) ((2 * e + 1).toNat - (j + 1))) x') (rfl) (by dsimp only; omega) (by dsimp only; omega) (⟨rfl, rfl, congrArg (fun z => some (Value.int .i64 z)) (Int.add_assoc (r - e) j 1), trivial⟩)
  · try simp only [decide_eq_true_eq, decide_eq_false_iff_not, Bool.not_eq_true', Bool.not_eq_false', Int.not_lt, Int.not_le, ne_eq, Decidable.not_not] at h1
    try have h1b := inB_iff.1 h1
    have hjN : (2 * e + 1).toNat ≤ j := by omega
    refine t_exit ?_
    refine tx_code ?_
    refine tx_inv ?_
    refine tx_blk ?_
    exact t_end0G rfl rfl (fun w' s => ⟨rfl, s.ext, x, by have := s.tail.stL; rwa [rng_nil hjN] at this⟩)

def prnL (sh : Sh) (e r fg : Int) (L : List Int) : List Int := (pfxL (exL e r) L).filter fun n => decide (fig sh n = fg)
theorem prnL_t {sh : Sh} {e r fg n : Int} {C : List Int} (h : n :: C <:+ exL e r) (hf : fig sh n = fg) : prnL sh e r fg C = prnL sh e r fg (n :: C) ++ [n] := by
  rw [prnL, pfxL_cons h, List.filter_append]; simp [prnL, hf]
theorem prnL_f {sh : Sh} {e r fg n : Int} {C : List Int} (h : n :: C <:+ exL e r) (hf : ¬ fig sh n = fg) : prnL sh e r fg C = prnL sh e r fg (n :: C) := by
  rw [prnL, pfxL_cons h, List.filter_append]; simp [prnL, hf]
theorem prnL_all (sh : Sh) (e r fg : Int) : prnL sh e r fg (exL e r) = [] := by simp [prnL, pfxL_all]
def prnE (sh : Sh) (e r fg : Int) : List Int := (exL e r).filter fun n => decide (fig sh n = fg)
theorem prnL_nil (sh : Sh) (e r fg : Int) : prnL sh e r fg [] = prnE sh e r fg := by simp [prnL, prnE, pfxL_nil]
def ownJ (sh : Sh) (e : Int) (fs : List Int) : Nat → List Sp
  | 0 => []
  | j + 1 => match sh.rows[j]?, fs[j]? with
    | some r, some fg => ownJ sh e fs j ++ [(endsI (prnE sh e r fg)).getD (0, 0)]
    | _, _ => ownJ sh e fs j
theorem ownJ_succ {sh : Sh} {e r fg : Int} {fs : List Int} {j : Nat} (h1 : sh.rows[j]? = some r) (h2 : fs[j]? = some fg) : ownJ sh e fs (j + 1) = ownJ sh e fs j ++ [(endsI (prnE sh e r fg)).getD (0, 0)] := by simp [ownJ, h1, h2]
theorem ownJ_len {sh : Sh} {e : Int} {fs : List Int} (hl : fs.length = sh.rows.length) : ∀ j, j ≤ fs.length → (ownJ sh e fs j).length = j
  | 0, _ => rfl
  | j + 1, h => by
    obtain ⟨r, hr⟩ := some_get (xs := sh.rows) (k := j) (by omega)
    obtain ⟨fg, hf⟩ := some_get (xs := fs) (k := j) (by omega)
    rw [ownJ_succ hr hf, List.length_append, ownJ_len hl j (by omega)]; rfl
/-- Has each row an exact number with its figure? -/
def hasJ (sh : Sh) (e : Int) (fs : List Int) (j : Nat) : Prop := ∀ i, i < j → ∀ r fg, sh.rows[i]? = some r → fs[i]? = some fg → prnE sh e r fg ≠ []
theorem ends_ne {l : List Int} (h : l ≠ []) : IsE (fun x => x ∈ l) (some ((endsI l).getD (0, 0))) := by
  have h1 := isE_ends l
  cases hq : endsI l with
  | none =>
    rw [hq] at h1
    cases l with
    | nil => exact absurd rfl h
    | cons a l => exact absurd (List.mem_cons_self ..) (h1 a)
  | some v => rw [hq] at h1; exact h1
theorem prnE_bd {sh : Sh} {e r fg x : Int} (he : 0 ≤ e ∧ e ≤ 8) (hr : -100000 ≤ r ∧ r ≤ 100000) (hx : x ∈ prnE sh e r fg) : -100008 ≤ x ∧ x ≤ 100008 := by
  have := (mem_exL he.1).1 (List.mem_filter.1 hx).1
  omega
theorem ownJ_bd {sh : Sh} {e : Int} {fs : List Int} (hs : isSh sh = true) (he : 0 ≤ e ∧ e ≤ 8) : ∀ j, hasJ sh e fs j → ∀ x ∈ ownJ sh e fs j, (-100008 ≤ x.1 ∧ x.1 ≤ 100008) ∧ (-100008 ≤ x.2 ∧ x.2 ≤ 100008)
  | 0, _, x, hx => by simp [ownJ] at hx
  | j + 1, hh, x, hx => by
    have ih := ownJ_bd hs he j (fun i hi => hh i (by omega))
    simp only [ownJ] at hx
    split at hx
    · rename_i r fg h1 h2
      rcases List.mem_append.1 hx with hx | hx
      · exact ih x hx
      · rw [List.mem_singleton.1 hx]
        have h3 := ends_ne (hh j (by omega) r fg h1 h2)
        have hr := isSh_r hs (List.mem_of_getElem? h1)
        exact ⟨prnE_bd he hr h3.1, prnE_bd he hr h3.2.1⟩
    · exact ih x hx
def loK (own : List Sp) (k : Nat) : Int := sumI ((own.take k).map (·.1))
def hiK (own : List Sp) (k : Nat) : Int := sumI ((own.take k).map (·.2))
theorem loK_succ {own : List Sp} {k : Nat} {v : Sp} (h : own[k]? = some v) : loK own (k + 1) = loK own k + v.1 := by rw [loK, take_snoc h, List.map_append, sumI_app]; simp [loK, sumI_cons, sumI_nil]
theorem hiK_succ {own : List Sp} {k : Nat} {v : Sp} (h : own[k]? = some v) : hiK own (k + 1) = hiK own k + v.2 := by rw [hiK, take_snoc h, List.map_append, sumI_app]; simp [hiK, sumI_cons, sumI_nil]
theorem loK_bd {own : List Sp} (hl : own.length ≤ 5) (hb : ∀ x ∈ own, (-100008 ≤ x.1 ∧ x.1 ≤ 100008) ∧ (-100008 ≤ x.2 ∧ x.2 ≤ 100008)) (k : Nat) : (-500045 ≤ loK own k ∧ loK own k ≤ 500045) ∧ (-500045 ≤ hiK own k ∧ hiK own k ≤ 500045) := by
  have h3 : (own.take k).length ≤ 5 := by simp; omega
  have h1 := sum_bd (B := 100008) (by decide) (xs := (own.take k).map (·.1)) (fun x hx => by
    obtain ⟨y, hy, rfl⟩ := List.mem_map.1 hx
    exact (hb y (List.mem_of_mem_take hy)).1)
  have h2 := sum_bd (B := 100008) (by decide) (xs := (own.take k).map (·.2)) (fun x hx => by
    obtain ⟨y, hy, rfl⟩ := List.mem_map.1 hx
    exact (hb y (List.mem_of_mem_take hy)).2)
  rw [List.length_map] at h1 h2
  simp only [loK, hiK]
  omega
def totL (sh : Sh) (lo total : Int) (i : Nat) : List Int := (rngN lo i).filter fun n => decide (fig sh n = total)
theorem rng_snoc : ∀ (i : Nat) (lo : Int), rngN lo (i + 1) = rngN lo i ++ [lo + i]
  | 0, lo => by simp [rngN]
  | i + 1, lo => by
    rw [rngN, rng_snoc i (lo + 1)]
    show _ = lo :: rngN (lo + 1) i ++ _
    rw [show lo + 1 + (i : Int) = lo + ((i + 1 : Nat) : Int) by omega]; rfl
theorem totL_t {sh : Sh} {lo total : Int} {i : Nat} (h : fig sh (lo + i) = total) : totL sh lo total (i + 1) = totL sh lo total i ++ [lo + i] := by
  rw [totL, rng_snoc, List.filter_append]; simp [totL, h]
theorem totL_f {sh : Sh} {lo total : Int} {i : Nat} (h : ¬ fig sh (lo + i) = total) : totL sh lo total (i + 1) = totL sh lo total i := by
  rw [totL, rng_snoc, List.filter_append]; simp [totL, h]
theorem totL_len (sh : Sh) (lo total : Int) (i : Nat) : (totL sh lo total i).length ≤ i := by
  refine Nat.le_trans (List.length_filter_le _ _) ?_
  have h2 : ∀ (n : Nat) (lo : Int), (rngN lo n).length = n := by
    intro n
    induction n with
    | zero => intro lo; rfl
    | succ n ih => intro lo; simp [rngN, ih]
  rw [h2]; exact Nat.le_refl _
theorem totL_bd {sh : Sh} {lo total x : Int} {i : Nat} (h : x ∈ totL sh lo total i) : lo ≤ x ∧ x < lo + i := mem_rngN.1 (List.mem_filter.1 h).1
def bhV (low high : Int) (all x : Sp) : Sp := (max x.1 (all.1 - (high - x.2)), min x.2 (all.2 - (low - x.1)))
def bhR (sh : Sh) (e : Int) (fs : List Int) (total : Int) : List Sp × Int :=
  let own := ownJ sh e fs sh.rows.length
  let low := loK own sh.rows.length
  let high := hiK own sh.rows.length
  if (List.range sh.rows.length).all (fun i => match sh.rows[i]?, fs[i]? with | some r, some fg => !(prnE sh e r fg).isEmpty | _, _ => true) then
    if totL sh low total (high - low + 1).toNat = [] then ([], 5)
    else (own.map (bhV low high ((endsI (totL sh low total (high - low + 1).toNat)).getD (0, 0))), 0)
  else ([], 5)
theorem bhR_no {sh : Sh} {e total r fg : Int} {fs : List Int} {j : Nat} (h1 : sh.rows[j]? = some r) (h2 : fs[j]? = some fg) (h : prnE sh e r fg = []) : bhR sh e fs total = ([], 5) := by
  have : (List.range sh.rows.length).all (fun i => match sh.rows[i]?, fs[i]? with | some r, some fg => !(prnE sh e r fg).isEmpty | _, _ => true) = false := by
    rw [List.all_eq_false]
    refine ⟨j, List.mem_range.2 (List.getElem?_eq_some_iff.1 h1).1, ?_⟩
    simp [h1, h2, h]
  simp [bhR, this]
theorem bhR_has {sh : Sh} {e total : Int} {fs : List Int} (h : hasJ sh e fs sh.rows.length) : bhR sh e fs total = if totL sh (loK (ownJ sh e fs sh.rows.length) sh.rows.length) total (hiK (ownJ sh e fs sh.rows.length) sh.rows.length - loK (ownJ sh e fs sh.rows.length) sh.rows.length + 1).toNat = [] then ([], 5)
    else ((ownJ sh e fs sh.rows.length).map (bhV (loK (ownJ sh e fs sh.rows.length) sh.rows.length) (hiK (ownJ sh e fs sh.rows.length) sh.rows.length) ((endsI (totL sh (loK (ownJ sh e fs sh.rows.length) sh.rows.length) total (hiK (ownJ sh e fs sh.rows.length) sh.rows.length - loK (ownJ sh e fs sh.rows.length) sh.rows.length + 1).toNat)).getD (0, 0))), 0) := by
  have : (List.range sh.rows.length).all (fun i => match sh.rows[i]?, fs[i]? with | some r, some fg => !(prnE sh e r fg).isEmpty | _, _ => true) = true := by
    rw [List.all_eq_true]
    intro i hi
    obtain ⟨r, hr⟩ := some_get (xs := sh.rows) (k := i) (List.mem_range.1 hi)
    cases hf : fs[i]? with
    | none => simp [hr]
    | some fg =>
      have := h i (List.mem_range.1 hi) r fg hr hf
      simp [hr, this]
  simp only [bhR, this, if_true]

end Go.Proofs


namespace Go.Proofs
open Go Go.Sx Go.RowKit

theorem spans_snoc (xs : List Sp) (v : Sp) : spans (xs ++ [v]) = spans xs ++ [spanC v] := by simp
theorem rng_len : ∀ (n : Nat) (lo : Int), (rngN lo n).length = n
  | 0, _ => rfl
  | n + 1, lo => by simp [rngN, rng_len n]
theorem prnE_len {sh : Sh} {e r fg : Int} (he : 0 ≤ e ∧ e ≤ 8) : (prnE sh e r fg).length ≤ 17 := by
  refine Nat.le_trans (List.length_filter_le _ _) ?_
  rw [exL, rng_len]; omega
theorem prnL_len {sh : Sh} {e r fg : Int} {L : List Int} (he : 0 ≤ e ∧ e ≤ 8) : (prnL sh e r fg L).length ≤ 17 := by
  refine Nat.le_trans (List.length_filter_le _ _) ?_
  refine Nat.le_trans (List.length_take_le _ _) ?_
  have : (exL e r).length ≤ 17 := by rw [exL, rng_len]; omega
  omega
theorem bhk_succ {F : Sp → Sp} {xs : List Sp} {k : Nat} {y : Sp} (h : xs[k]? = some y) : spans ((xs.take (k + 1)).map F) = spans ((xs.take k).map F) ++ [spanC (F y)] := by rw [take_snoc h]; simp
theorem hasJ_succ {sh : Sh} {e r fg : Int} {fs : List Int} {j : Nat} (h : hasJ sh e fs j) (hr : sh.rows[j]? = some r) (hf : fs[j]? = some fg) (hE : prnE sh e r fg ≠ []) : hasJ sh e fs (j + 1) := fun i hi r' f' h1 h2 => by
  by_cases hij : i = j
  · subst hij; rw [hr] at h1; rw [hf] at h2; cases h1; cases h2; exact hE
  · exact h i (by omega) r' f' h1 h2

set_option maxRecDepth 20000 in
theorem r_Behind_t (sh : Sh) (pt : Pt) (k : Nat) (e : Int) (fs : List Int) (fa : Option Addr) (fc : Nat) (total : Int) (w : World) (hre : Ro w 0 w.heap.size pt.ea sh.errs.length pt.ec 1 (ints sh.errs)) (hrr : Ro w 0 w.heap.size pt.ra sh.rows.length pt.rc 1 (ints sh.rows)) (hs : isSh sh = true) (he : sh.errs[k]? = some e) (hrf : Ro w 0 w.heap.size fa fs.length fc 1 (ints fs)) (hfl : fs.length = sh.rows.length) : Calls Tryz.prog 54 #[shV sh pt, (.int .i64 (k : Int)), .slice fa fs.length fc, (.int .i64 total)] w (Ret w (RSpE (bhR sh e fs total).1 (bhR sh e fs total).2)) := by
  have heb := errs_b (isSh_e hs) e (List.mem_of_getElem? he)
  have hbb := isSh_b hs
  have hxe := map_get (f := intC) he
  have hke := (List.getElem?_eq_some_iff.1 he).1
  refine calls_TM (av := [_, _, _, _]) Tryz.func54 rfl rfl rfl ?_
  refine t_seq ?_
  refine t_reg ?_
  refine to_box rfl rfl (fun b4 => ?_)
  refine to_as rfl rfl ?_
  refine to_as rfl rfl ?_
  refine to_nil ?_
  refine tn_code ?_
  refine t_scope rfl ?_
  refine t_seq ?_
  refine t_reg ?_
  first | refine to_lda rfl rfl rfl ?_ | refine to_ldea rfl (by assumption) rfl rfl ?_
  refine to_mv rfl rfl ?_
  refine to_call0 rfl rfl (fun w s => r_open_t sh pt k e w (rdw s) (rdw s) hs he) rfl ?_
  refine to_mv rfl rfl ?_
  refine to_ex rfl rfl rfl ?_
  refine to_ex rfl rfl rfl ?_
  refine to_alloc rfl (fun b10 => ?_)
  first | refine to_st rfl rfl rfl rfl ?_ | refine to_ste rfl rfl (by assumption) rfl rfl ?_
  refine to_as rfl rfl ?_
  refine to_nil ?_
  refine tn_code ?_
  refine t_seq ?_
  refine t_seq ?_
  refine t_reg ?_
  refine to_mv rfl rfl ?_
  refine to_neq rfl rfl rfl ?_
  refine to_fix (s := 34) (b' := false) rfl (rfl) ?_
  refine to_mv rfl rfl ?_
  refine to_gt rfl rfl ?_
  refine to_mv rfl rfl ?_
  refine to_gt rfl rfl ?_
  refine to_lenS rfl rfl ?_
  refine to_gt rfl rfl ?_
  first | refine to_fa rfl rfl rfl (by simp only [Nat.reduceAdd]; rfl) rfl ?_ | refine to_fae rfl rfl rfl (by simp only [Nat.reduceAdd]; rfl) rfl ?_
  refine to_gt rfl rfl ?_
  first | refine to_lds rfl rfl rfl ?_ | refine to_ldes rfl (by assumption) rfl rfl ?_
  refine to_gt rfl rfl ?_
  refine to_lenS rfl rfl ?_
  refine to_gt rfl rfl ?_
  refine to_neq rfl rfl rfl ?_
  refine to_fix (s := 41) (b' := false) rfl (by simp [hfl]) ?_
  refine to_pkF rfl rfl rfl ?_
  refine to_nil ?_
  refine tn_code ?_
  refine t_ifF rfl ?_
  refine t_skip ?_
  refine tn_code ?_
  refine t_seq ?_
  refine t_reg ?_
  refine to_as rfl rfl ?_
  refine to_nil ?_
  refine tn_code ?_
  refine t_seq ?_
  refine t_label ?_
  refine tn_code ?_
  refine t_seq ?_
  refine t_seq ?_
  refine t_reg ?_
  refine to_mv rfl rfl ?_
  refine to_lenS rfl rfl ?_
  refine to_mv rfl rfl ?_
  refine to_nil ?_
  refine tn_code ?_
  refine t_blk ?_
  refine t_nilrow 53 2 ?_
  refine t_loopD (ι := Nat × Option Addr × Nat × List Nat) (fun ((j, a', c', Ds) : Nat × Option Addr × Nat × List Nat) => marks Ds) (fun ((j, a', c', Ds) : Nat × Option Addr × Nat × List Nat) => j ≤ fs.length ∧ hasJ sh e fs j) (fun ((j, a', c', Ds) : Nat × Option Addr × Nat × List Nat) => [(2, .slice fa fs.length fc), (3, (.int .i64 total)), (10, (.pointer (some ⟨b10, 0, none⟩))), (4, (.pointer (some ⟨b4, 0, none⟩))), (12, .slice a' j c'), (43, .slice fa fs.length fc), (44, (.int .i64 (fs.length : Int))), (45, (.int .i64 (j : Int)))]) (fun ((j, a', c', Ds) : Nat × Option Addr × Nat × List Nat) => (.row a' j c' 53 2 (spans (ownJ sh e fs j)) :: .own b10 (isC (tbC sh pt (k : Int)) 86) :: .own b4 (isC (shC sh pt) 33) :: .snap 0 w.heap.size w :: dfs Ds)) (fun ((j, a', c', Ds) : Nat × Option Addr × Nat × List Nat) => fs.length - j) ((0, none, 0, [])) (.row none 0 0 53 2 [] :: .own b10 (isC (tbC sh pt (k : Int)) 86) :: .own b4 (isC (shC sh pt) 33) :: .snap 0 w.heap.size w :: []) (rfl) (⟨Nat.zero_le _, fun i hi => absurd hi (Nat.not_lt_zero _)⟩) (rfl) ⟨rfl, rfl, rfl, rfl, rfl, rfl, rfl, rfl, trivial⟩ ?_
  rintro ⟨j, a', c', Ds⟩ ⟨hk, hhas⟩
  try dsimp only at hk hhas
  try dsimp only at hk
  show T _ _ _ ⟨_, [(2, .slice fa fs.length fc), (3, (.int .i64 total)), (10, (.pointer (some ⟨b10, 0, none⟩))), (4, (.pointer (some ⟨b4, 0, none⟩))), (12, .slice a' j c'), (43, .slice fa fs.length fc), (44, (.int .i64 (fs.length : Int))), (45, (.int .i64 (j : Int)))], marks Ds⟩ (.row a' j c' 53 2 (spans (ownJ sh e fs j)) :: .own b10 (isC (tbC sh pt (k : Int)) 86) :: .own b4 (isC (shC sh pt) 33) :: .snap 0 w.heap.size w :: dfs Ds)
  refine t_seq ?_
  refine t_reg ?_
  refine to_lss rfl rfl rfl ?_
  refine to_nil ?_
  refine tn_code ?_
  refine t_seq ?_
  refine t_if rfl (fun h1 => ?_) (fun h1 => ?_)
  · try simp only [decide_eq_true_eq, decide_eq_false_iff_not, Bool.not_eq_true', Bool.not_eq_false', Int.not_lt, Int.not_le, ne_eq, Decidable.not_not] at h1
    try have h1b := inB_iff.1 h1
    obtain ⟨r, hr⟩ := some_get (xs := sh.rows) (k := j) (by omega)
    obtain ⟨fg, hfg⟩ := some_get (xs := fs) (k := j) (by omega)
    have hrb := isSh_r hs (List.mem_of_getElem? hr)
    have hxf := map_get (f := intC) hfg
    refine t_skip ?_
    refine tn_code ?_
    refine t_seq ?_
    refine t_blk ?_
    refine t_seq ?_
    refine t_reg ?_
    refine to_mv rfl rfl ?_
    first | refine to_ix rfl rfl rfl (by first | omega | decide) (by first | omega | decide) rfl ?_ | refine to_ixi rfl rfl rfl (by omega) (by omega) (by omega) rfl ?_
    first | refine to_lds rfl rfl rfl ?_ | refine to_ldes rfl (by assumption) rfl rfl ?_
    refine to_alloc rfl (fun b14 => ?_)
    refine to_as rfl rfl ?_
    first | refine to_st rfl rfl rfl rfl ?_ | refine to_ste rfl rfl (by assumption) rfl rfl ?_
    refine to_nil ?_
    refine tn_code ?_
    refine t_seq ?_
    refine t_reg ?_
    refine to_alloc rfl (fun b15 => ?_)
    refine to_nil ?_
    refine tn_code ?_
    refine t_seq ?_
    refine t_seq ?_
    refine t_reg ?_
    first | refine to_lda rfl rfl rfl ?_ | refine to_ldea rfl (by assumption) rfl rfl ?_
    refine to_mv rfl rfl ?_
    refine to_callR rfl rfl (fun w s => r_exact sh pt _ _ w) rfl (fun v52 lo52 w52 hlo52 hR52 => ?_)
    obtain ⟨bb52, bi52, rfl, hrb52, hri52⟩ := hR52
    refine to_nil ?_
    refine tn_code ?_
    refine t_blk ?_
    refine t_nilrow 3 1 ?_
    refine t_rfL (β := Option Addr × Nat) (.row none 0 0 3 1 [] :: .own b15 (isC [.slice none 0 0] 30) :: .own b14 (isC [.int .i64 fg] 3) :: .row a' j c' 53 2 (spans (ownJ sh e fs j)) :: .own b10 (isC (tbC sh pt (k : Int)) 86) :: .own b4 (isC (shC sh pt) 33) :: .snap lo52 w52.heap.size w52 :: .snap 0 w.heap.size w :: dfs Ds) rfl rfl (fun z => (.row z.1 (prnL sh e r fg []).length z.2 3 1 (ints (prnL sh e r fg [])) :: .own b15 (isC [.slice z.1 (prnL sh e r fg []).length z.2] 30) :: .own b14 (isC [.int .i64 fg] 3) :: .row a' j c' 53 2 (spans (ownJ sh e fs j)) :: .own b10 (isC (tbC sh pt (k : Int)) 86) :: .own b4 (isC (shC sh pt) 33) :: .snap lo52 w52.heap.size w52 :: .snap 0 w.heap.size w :: dfs Ds)) ?_ ?_
    · intro K l D w₂ hK s₂
      refine ex_seqL (β := Option Addr × Nat) sh pt k j e r bb52 bi52 l w₂ (fun L z => .own l (isLp K .ready none) :: .own D isDf :: (.row z.1 (prnL sh e r fg L).length z.2 3 1 (ints (prnL sh e r fg L)) :: .own b15 (isC [.slice z.1 (prnL sh e r fg L).length z.2] 30) :: .own b14 (isC [.int .i64 fg] 3) :: .row a' j c' 53 2 (spans (ownJ sh e fs j)) :: .own b10 (isC (tbC sh pt (k : Int)) 86) :: .own b4 (isC (shC sh pt) 33) :: .snap lo52 w52.heap.size w52 :: .snap 0 w.heap.size w :: dfs Ds)) (none, 0) (rdw s₂) (rdw s₂) hs he hr (rb_lo (rb_snap s₂)) (rb_lo (rb_snap s₂)) ?_ (by first | (rw [prnL_all]; exact s₂.stL) | (dsimp only; rw [prnL_all]; exact s₂.stL))
      rintro n C ⟨al, cl⟩ R wr hsuf hI
      have hnx := (mem_exL heb.1).1 (sfx_mem hsuf)
      have hpl := prnL_len (sh := sh) (r := r) (fg := fg) (L := n :: C) heb
      obtain ⟨TT, hTT⟩ : ∃ TT, TT = dfs Ds ++ R := ⟨_, rfl⟩
      have hI2 : StL (.own l (isLp K .ready none) :: .own D isDf :: (.row al (prnL sh e r fg (n :: C)).length cl 3 1 (ints (prnL sh e r fg (n :: C))) :: .own b15 (isC [.slice al (prnL sh e r fg (n :: C)).length cl] 30) :: .own b14 (isC [.int .i64 fg] 3) :: .row a' j c' 53 2 (spans (ownJ sh e fs j)) :: .own b10 (isC (tbC sh pt (k : Int)) 86) :: .own b4 (isC (shC sh pt) 33) :: .snap lo52 w52.heap.size w52 :: .snap 0 w.heap.size w :: TT)) wr := by rw [hTT]; exact hI
      refine yc_roundL hK hI2 rfl ?_
      refine t_reg ?_
      refine to_as rfl rfl ?_
      refine to_nil ?_
      refine t_begin ?_
      refine t_blk ?_
      refine t_seq ?_
      refine t_regDR (by kernel_rfl) (by kernel_rfl) ?_
      first | refine to_lda rfl rfl rfl ?_ | refine to_ldea rfl (by assumption) rfl rfl ?_
      refine to_mv rfl rfl ?_
      refine to_call0 rfl rfl (fun w s => r_figure sh pt _ _ w hs (by omega)) rfl ?_
      first | refine to_lds rfl rfl rfl ?_ | refine to_ldes rfl (by assumption) rfl rfl ?_
      refine to_eql rfl rfl rfl ?_
      refine to_nil ?_
      refine tn_code ?_
      refine t_if rfl (fun h2 => ?_) (fun h2 => ?_)
      · try simp only [decide_eq_true_eq, decide_eq_false_iff_not, Bool.not_eq_true', Bool.not_eq_false', Int.not_lt, Int.not_le, ne_eq, Decidable.not_not] at h2
        try have h2b := inB_iff.1 h2
        refine t_reg ?_
        first | refine to_lds rfl rfl rfl ?_ | refine to_ldes rfl (by assumption) rfl rfl ?_
        refine to_mv rfl rfl ?_
        refine to_bsl rfl rfl rfl rfl (fun a61 => ?_)
        refine to_app rfl rfl rfl (by simp [scals, scal]) (by decide) (by omega) (by decide) rfl (fun a62 c62 => ?_)
        first | refine to_st rfl rfl rfl rfl ?_ | refine to_ste rfl rfl (by assumption) rfl rfl ?_
        refine to_nil ?_
        refine tn_blk ?_
        exact t_rendL (K := K) (l := l) (G := fun z => (.own l (isLp K .ready none) :: .own D isDf :: (.row z.1 (prnL sh e r fg C).length z.2 3 1 (ints (prnL sh e r fg C)) :: .own b15 (isC [.slice z.1 (prnL sh e r fg C).length z.2] 30) :: .own b14 (isC [.int .i64 fg] 3) :: .row a' j c' 53 2 (spans (ownJ sh e fs j)) :: .own b10 (isC (tbC sh pt (k : Int)) 86) :: .own b4 (isC (shC sh pt) 33) :: .snap lo52 w52.heap.size w52 :: .snap 0 w.heap.size w :: dfs Ds)) ++ R) (a62, c62) (.own D isDf :: .row a62 ((prnL sh e r fg (n :: C)).length + 1) c62 3 1 (ints (prnL sh e r fg (n :: C)) ++ [[Value.int .i64 n]]) :: .own b15 (isC [.slice a62 ((prnL sh e r fg (n :: C)).length + 1) c62] 30) :: .own b14 (isC [.int .i64 fg] 3) :: .row a' j c' 53 2 (spans (ownJ sh e fs j)) :: .own b10 (isC (tbC sh pt (k : Int)) 86) :: .own b4 (isC (shC sh pt) 33) :: .snap lo52 w52.heap.size w52 :: .snap 0 w.heap.size w :: TT) (by dsimp only; rw [prnL_t hsuf (by assumption), List.length_append, ints_snoc, hTT]; rfl)
      · try simp only [decide_eq_true_eq, decide_eq_false_iff_not, Bool.not_eq_true', Bool.not_eq_false', Int.not_lt, Int.not_le, ne_eq, Decidable.not_not] at h2
        try have h2b := inB_iff.1 h2
        refine t_skip ?_
        refine tn_blk ?_
        show TX _ _ _ _ (.own l (isLp K .busy none) :: (.own D isDf :: .row al (prnL sh e r fg (n :: C)).length cl 3 1 (ints (prnL sh e r fg (n :: C))) :: .own b15 (isC [.slice al (prnL sh e r fg (n :: C)).length cl] 30) :: .own b14 (isC [.int .i64 fg] 3) :: .row a' j c' 53 2 (spans (ownJ sh e fs j)) :: .own b10 (isC (tbC sh pt (k : Int)) 86) :: .own b4 (isC (shC sh pt) 33) :: .snap lo52 w52.heap.size w52 :: .snap 0 w.heap.size w :: TT))
        exact t_rendL (K := K) (l := l) (H := (.own l (isLp K .busy none) :: (.own D isDf :: .row al (prnL sh e r fg (n :: C)).length cl 3 1 (ints (prnL sh e r fg (n :: C))) :: .own b15 (isC [.slice al (prnL sh e r fg (n :: C)).length cl] 30) :: .own b14 (isC [.int .i64 fg] 3) :: .row a' j c' 53 2 (spans (ownJ sh e fs j)) :: .own b10 (isC (tbC sh pt (k : Int)) 86) :: .own b4 (isC (shC sh pt) 33) :: .snap lo52 w52.heap.size w52 :: .snap 0 w.heap.size w :: TT))) (H2 := (.own D isDf :: .row al (prnL sh e r fg (n :: C)).length cl 3 1 (ints (prnL sh e r fg (n :: C))) :: .own b15 (isC [.slice al (prnL sh e r fg (n :: C)).length cl] 30) :: .own b14 (isC [.int .i64 fg] 3) :: .row a' j c' 53 2 (spans (ownJ sh e fs j)) :: .own b10 (isC (tbC sh pt (k : Int)) 86) :: .own b4 (isC (shC sh pt) 33) :: .snap lo52 w52.heap.size w52 :: .snap 0 w.heap.size w :: TT)) (G := fun z => (.own l (isLp K .ready none) :: .own D isDf :: (.row z.1 (prnL sh e r fg C).length z.2 3 1 (ints (prnL sh e r fg C)) :: .own b15 (isC [.slice z.1 (prnL sh e r fg C).length z.2] 30) :: .own b14 (isC [.int .i64 fg] 3) :: .row a' j c' 53 2 (spans (ownJ sh e fs j)) :: .own b10 (isC (tbC sh pt (k : Int)) 86) :: .own b4 (isC (shC sh pt) 33) :: .snap lo52 w52.heap.size w52 :: .snap 0 w.heap.size w :: dfs Ds)) ++ R) (al, cl) (.own D isDf :: .row al (prnL sh e r fg (n :: C)).length cl 3 1 (ints (prnL sh e r fg (n :: C))) :: .own b15 (isC [.slice al (prnL sh e r fg (n :: C)).length cl] 30) :: .own b14 (isC [.int .i64 fg] 3) :: .row a' j c' 53 2 (spans (ownJ sh e fs j)) :: .own b10 (isC (tbC sh pt (k : Int)) 86) :: .own b4 (isC (shC sh pt) 33) :: .snap lo52 w52.heap.size w52 :: .snap 0 w.heap.size w :: TT) (by dsimp only; rw [prnL_f hsuf (by assumption), hTT]; rfl)
    · rintro D ⟨al, cl⟩
      show TX _ _ _ _ (.own D isDf :: (.row al (prnL sh e r fg []).length cl 3 1 (ints (prnL sh e r fg [])) :: .own b15 (isC [.slice al (prnL sh e r fg []).length cl] 30) :: .own b14 (isC [.int .i64 fg] 3) :: .row a' j c' 53 2 (spans (ownJ sh e fs j)) :: .own b10 (isC (tbC sh pt (k : Int)) 86) :: .own b4 (isC (shC sh pt) 33) :: .snap lo52 w52.heap.size w52 :: .snap 0 w.heap.size w :: dfs Ds))
      rw [prnL_nil]
      have hpl := prnE_len (sh := sh) (r := r) (fg := fg) heb
      refine tn_blk ?_
      refine tn_code ?_
      refine t_seq ?_
      refine t_seq ?_
      refine t_reg ?_
      first | refine to_lds rfl rfl rfl ?_ | refine to_ldes rfl (by assumption) rfl rfl ?_
      refine to_lenS rfl rfl ?_
      refine to_eql rfl rfl rfl ?_
      refine to_nil ?_
      refine tn_code ?_
      refine t_if rfl (fun h3 => ?_) (fun h3 => ?_)
      · try simp only [decide_eq_true_eq, decide_eq_false_iff_not, Bool.not_eq_true', Bool.not_eq_false', Int.not_lt, Int.not_le, ne_eq, Decidable.not_not] at h3
        try have h3b := inB_iff.1 h3
        have hE : prnE sh e r fg = [] := List.eq_nil_of_length_eq_zero (by omega)
        refine t_exit ?_
        refine tx_code ?_
        refine tx_blk_ne rfl ?_
        refine tx_code ?_
        refine tx_inv ?_
        refine tx_blk ?_
        refine tn_code ?_
        refine t_seq ?_
        refine t_seq ?_
        refine t_reg ?_
        refine to_mv rfl rfl ?_
        refine to_lenS rfl rfl ?_
        refine to_mv rfl rfl ?_
        refine to_lenS rfl rfl ?_
        refine to_lss rfl rfl rfl ?_
        refine to_fix (s := 76) (b' := true) rfl (decide_eq_true (by omega)) ?_
        refine to_nil ?_
        refine tn_code ?_
        refine t_ifT rfl ?_
        refine t_seq ?_
        refine t_reg ?_
        refine to_as rfl rfl ?_
        refine to_as rfl rfl ?_
        refine to_nil ?_
        refine tn_code ?_
        refine t_ret2Ms (Ds := D :: Ds) rfl (res_tmp rfl) (res_tmp rfl) (fun w' s => ?_)
        rw [bhR_no hr hfg hE]; exact ⟨_, _, rfl, Ro.nil _ _ _ _⟩
      · try simp only [decide_eq_true_eq, decide_eq_false_iff_not, Bool.not_eq_true', Bool.not_eq_false', Int.not_lt, Int.not_le, ne_eq, Decidable.not_not] at h3
        try have h3b := inB_iff.1 h3
        have hE : prnE sh e r fg ≠ [] := fun hh => by rw [hh] at h3; simp at h3
        refine t_skip ?_
        refine tn_code ?_
        refine t_reg ?_
        refine to_mv rfl rfl ?_
        first | refine to_lds rfl rfl rfl ?_ | refine to_ldes rfl (by assumption) rfl rfl ?_
        refine to_call0 rfl rfl (fun w s => r_ends (prnE sh e r fg) _ _ _ w (rdw s) ⟨List.length_pos_iff.2 hE, by have := prnE_len (sh := sh) (r := r) (fg := fg) heb; omega⟩ (ends_ne hE)) rfl ?_
        refine to_bsl rfl rfl rfl rfl (fun a69 => ?_)
        refine to_app rfl rfl rfl (by simp [scals, scal]) (by decide) (by omega) (by decide) rfl (fun a70 c70 => ?_)
        refine to_as rfl rfl ?_
        refine to_nil ?_
        refine tn_blk ?_
        refine tn_code ?_
        refine t_reg ?_
        refine to_add rfl rfl (by omega) rfl ?_
        refine to_mv rfl rfl ?_
        refine to_nil ?_
        exact tn_loopD ((j + 1, a70, c70, D :: Ds)) (.row a70 (j + 1) c70 53 2 (spans (ownJ sh e fs j) ++ [[Value.int .i64 ((endsI (prnE sh e r fg)).getD (0, 0)).1, Value.int .i64 ((endsI (prnE sh e r fg)).getD (0, 0)).2]]) :: .own b10 (isC (tbC sh pt (k : Int)) 86) :: .own b4 (isC (shC sh pt) 33) :: .snap 0 w.heap.size w :: .own D isDf :: dfs Ds) (by dsimp only; rw [ownJ_succ hr hfg, spans_snoc]; rfl) (⟨by first | omega | (dsimp only; omega), hasJ_succ hhas hr hfg hE⟩) (by dsimp only; omega) rfl (⟨rfl, rfl, rfl, rfl, rfl, rfl, rfl, rfl, trivial⟩)
  · try simp only [decide_eq_true_eq, decide_eq_false_iff_not, Bool.not_eq_true', Bool.not_eq_false', Int.not_lt, Int.not_le, ne_eq, Decidable.not_not] at h1
    try have h1b := inB_iff.1 h1
    obtain rfl : j = sh.rows.length := by omega
    have hol := ownJ_len (e := e) hfl sh.rows.length (by omega)
    have hob := ownJ_bd hs heb _ hhas
    have hlk := loK_bd (by omega) hob
    refine t_exit ?_
    refine tx_code ?_
    refine tx_inv ?_
    refine tx_blk ?_
    refine tn_code ?_
    refine t_seq ?_
    refine t_seq ?_
    refine t_reg ?_
    refine to_mv rfl rfl ?_
    refine to_lenS rfl rfl ?_
    refine to_mv rfl rfl ?_
    refine to_lenS rfl rfl ?_
    refine to_lss rfl rfl rfl ?_
    refine to_fix (s := 76) (b' := false) rfl (decide_eq_false (by omega)) ?_
    refine to_nil ?_
    refine tn_code ?_
    refine t_ifF rfl ?_
    refine t_skip ?_
    refine tn_code ?_
    refine t_seq ?_
    refine t_reg ?_
    refine to_as rfl rfl ?_
    refine to_as rfl rfl ?_
    refine to_nil ?_
    refine tn_code ?_
    refine t_seq ?_
    refine t_seq ?_
    refine t_reg ?_
    refine to_mv rfl rfl ?_
    refine to_lenS rfl rfl ?_
    refine to_mv rfl rfl ?_
    refine to_nil ?_
    refine tn_code ?_
    refine t_blk ?_
    refine t_loop2 (ι := Nat) (fun i => i ≤ sh.rows.length) (fun i => [(2, .slice fa fs.length fc), (3, (.int .i64 total)), (10, (.pointer (some ⟨b10, 0, none⟩))), (12, .slice a' sh.rows.length c'), (17, (.int .i64 (loK (ownJ sh e fs sh.rows.length) i))), (18, (.int .i64 (hiK (ownJ sh e fs sh.rows.length) i))), (77, .slice a' sh.rows.length c'), (78, (.int .i64 (sh.rows.length : Int))), (79, (.int .i64 (i : Int)))]) (fun i => (.row a' sh.rows.length c' 53 2 (spans (ownJ sh e fs sh.rows.length)) :: .own b10 (isC (tbC sh pt (k : Int)) 86) :: .snap 0 w.heap.size w :: dfs Ds)) (fun i => sh.rows.length - i) (0) (.row a' sh.rows.length c' 53 2 (spans (ownJ sh e fs sh.rows.length)) :: .own b10 (isC (tbC sh pt (k : Int)) 86) :: .snap 0 w.heap.size w :: dfs Ds) (rfl) (Nat.zero_le _) (⟨rfl, rfl, rfl, rfl, rfl, rfl, rfl, rfl, rfl, trivial⟩) ?_
    rintro i hk
    show T _ _ _ ⟨_, [(2, .slice fa fs.length fc), (3, (.int .i64 total)), (10, (.pointer (some ⟨b10, 0, none⟩))), (12, .slice a' sh.rows.length c'), (17, (.int .i64 (loK (ownJ sh e fs sh.rows.length) i))), (18, (.int .i64 (hiK (ownJ sh e fs sh.rows.length) i))), (77, .slice a' sh.rows.length c'), (78, (.int .i64 (sh.rows.length : Int))), (79, (.int .i64 (i : Int)))], _⟩ (.row a' sh.rows.length c' 53 2 (spans (ownJ sh e fs sh.rows.length)) :: .own b10 (isC (tbC sh pt (k : Int)) 86) :: .snap 0 w.heap.size w :: dfs Ds)
    refine t_seq ?_
    refine t_reg ?_
    refine to_lss rfl rfl rfl ?_
    refine to_nil ?_
    refine tn_code ?_
    refine t_seq ?_
    refine t_if rfl (fun h4 => ?_) (fun h4 => ?_)
    · try simp only [decide_eq_true_eq, decide_eq_false_iff_not, Bool.not_eq_true', Bool.not_eq_false', Int.not_lt, Int.not_le, ne_eq, Decidable.not_not] at h4
      try have h4b := inB_iff.1 h4
      obtain ⟨v, hov⟩ := some_get (xs := (ownJ sh e fs sh.rows.length)) (k := i) (by omega)
      have hxo := map_get (f := spanC) hov
      have hvb := hob v (List.mem_of_getElem? hov)
      have hli := hlk i
      refine t_skip ?_
      refine tn_code ?_
      refine t_seq ?_
      refine t_blk ?_
      refine t_seq ?_
      refine t_reg ?_
      first | refine to_ix rfl rfl rfl (by first | omega | decide) (by first | omega | decide) rfl ?_ | refine to_ixi rfl rfl rfl (by omega) (by omega) (by omega) rfl ?_
      first | refine to_lda rfl rfl rfl ?_ | refine to_ldea rfl (by assumption) rfl rfl ?_
      refine to_alloc rfl (fun b20 => ?_)
      first | refine to_st rfl rfl rfl rfl ?_ | refine to_ste rfl rfl (by assumption) rfl rfl ?_
      refine to_nil ?_
      refine tn_code ?_
      refine t_regD rfl (by kernel_rfl) (by kernel_rfl) ?_
      refine to_mv rfl rfl ?_
      first | refine to_fa rfl rfl rfl (by simp only [Nat.reduceAdd]; rfl) rfl ?_ | refine to_fae rfl rfl rfl (by simp only [Nat.reduceAdd]; rfl) rfl ?_
      first | refine to_lds rfl rfl rfl ?_ | refine to_ldes rfl (by assumption) rfl rfl ?_
      refine to_add rfl rfl (by omega) rfl ?_
      refine to_mv rfl rfl ?_
      first | refine to_fa rfl rfl rfl (by simp only [Nat.reduceAdd]; rfl) rfl ?_ | refine to_fae rfl rfl rfl (by simp only [Nat.reduceAdd]; rfl) rfl ?_
      first | refine to_lds rfl rfl rfl ?_ | refine to_ldes rfl (by assumption) rfl rfl ?_
      refine to_add rfl rfl (by omega) rfl ?_
      refine to_as rfl rfl ?_
      refine to_as rfl rfl ?_
      refine to_nil ?_
      refine tn_blk ?_
      refine tn_code ?_
      refine t_reg ?_
      refine to_add rfl rfl (by omega) rfl ?_
      refine to_mv rfl rfl ?_
      refine to_nil ?_
      exact tn_loop2 (i + 1) (.row a' sh.rows.length c' 53 2 (spans (ownJ sh e fs sh.rows.length)) :: .own b10 (isC (tbC sh pt (k : Int)) 86) :: .snap 0 w.heap.size w :: dfs Ds) (rfl) (by omega) (by omega) (⟨rfl, rfl, rfl, rfl, congrArg (fun z => some (Value.int .i64 z)) (loK_succ hov).symm, congrArg (fun z => some (Value.int .i64 z)) (hiK_succ hov).symm, rfl, rfl, rfl, trivial⟩)
    · try simp only [decide_eq_true_eq, decide_eq_false_iff_not, Bool.not_eq_true', Bool.not_eq_false', Int.not_lt, Int.not_le, ne_eq, Decidable.not_not] at h4
      try have h4b := inB_iff.1 h4
      obtain rfl : i = sh.rows.length := by omega
      have hli := hlk sh.rows.length
      refine t_exit ?_
      refine tx_code ?_
      refine tx_inv ?_
      refine tx_blk ?_
      refine tn_code ?_
      refine t_seq ?_
      refine t_reg ?_
      refine to_as rfl rfl ?_
      refine to_nil ?_
      refine tn_code ?_
      refine t_seq ?_
      refine t_seq ?_
      refine t_reg ?_
      refine to_mv rfl rfl ?_
      refine to_as rfl rfl ?_
      refine to_nil ?_
      refine tn_code ?_
      refine t_blk ?_
      refine t_nilrow 3 1 ?_
      refine t_loop2 (ι := Nat × Option Addr × Nat) (fun ((i, al, cl) : Nat × Option Addr × Nat) => i ≤ ((hiK (ownJ sh e fs sh.rows.length) sh.rows.length) - (loK (ownJ sh e fs sh.rows.length) sh.rows.length) + 1).toNat) (fun ((i, al, cl) : Nat × Option Addr × Nat) => [(2, .slice fa fs.length fc), (3, (.int .i64 total)), (10, (.pointer (some ⟨b10, 0, none⟩))), (12, .slice a' sh.rows.length c'), (17, (.int .i64 (loK (ownJ sh e fs sh.rows.length) sh.rows.length))), (18, (.int .i64 (hiK (ownJ sh e fs sh.rows.length) sh.rows.length))), (21, .slice al (totL sh (loK (ownJ sh e fs sh.rows.length) sh.rows.length) total (i)).length cl), (22, (.int .i64 ((loK (ownJ sh e fs sh.rows.length) sh.rows.length) + (i : Int))))]) (fun ((i, al, cl) : Nat × Option Addr × Nat) => (.row al (totL sh (loK (ownJ sh e fs sh.rows.length) sh.rows.length) total (i)).length cl 3 1 (ints (totL sh (loK (ownJ sh e fs sh.rows.length) sh.rows.length) total (i))) :: .row a' sh.rows.length c' 53 2 (spans (ownJ sh e fs sh.rows.length)) :: .own b10 (isC (tbC sh pt (k : Int)) 86) :: .snap 0 w.heap.size w :: dfs Ds)) (fun ((i, al, cl) : Nat × Option Addr × Nat) => ((hiK (ownJ sh e fs sh.rows.length) sh.rows.length) - (loK (ownJ sh e fs sh.rows.length) sh.rows.length) + 1).toNat - i) ((0, none, 0)) (.row none 0 0 3 1 ([]) :: .row a' sh.rows.length c' 53 2 (spans (ownJ sh e fs sh.rows.length)) :: .own b10 (isC (tbC sh pt (k : Int)) 86) :: .snap 0 w.heap.size w :: dfs Ds) (rfl) (Nat.zero_le _) (⟨rfl, rfl, rfl, rfl, rfl, rfl, rfl, congrArg (fun z => some (Value.int .i64 z)) (Int.add_zero (loK (ownJ sh e fs sh.rows.length) sh.rows.length)).symm, trivial⟩) ?_
      rintro ⟨i, al, cl⟩ hk
      try dsimp only at hk
      show T _ _ _ ⟨_, [(2, .slice fa fs.length fc), (3, (.int .i64 total)), (10, (.pointer (some ⟨b10, 0, none⟩))), (12, .slice a' sh.rows.length c'), (17, (.int .i64 (loK (ownJ sh e fs sh.rows.length) sh.rows.length))), (18, (.int .i64 (hiK (ownJ sh e fs sh.rows.length) sh.rows.length))), (21, .slice al (totL sh (loK (ownJ sh e fs sh.rows.length) sh.rows.length) total (i)).length cl), (22, (.int .i64 ((loK (ownJ sh e fs sh.rows.length) sh.rows.length) + (i : Int))))], _⟩ (.row al (totL sh (loK (ownJ sh e fs sh.rows.length) sh.rows.length) total (i)).length cl 3 1 (ints (totL sh (loK (ownJ sh e fs sh.rows.length) sh.rows.length) total (i))) :: .row a' sh.rows.length c' 53 2 (spans (ownJ sh e fs sh.rows.length)) :: .own b10 (isC (tbC sh pt (k : Int)) 86) :: .snap 0 w.heap.size w :: dfs Ds)
      refine t_seq ?_
      refine t_seq ?_
      refine t_reg ?_
      refine to_mv rfl rfl ?_
      refine to_mv rfl rfl ?_
      refine to_leq rfl rfl rfl ?_
      refine to_nil ?_
      refine tn_code ?_
      refine t_if rfl (fun h5 => ?_) (fun h5 => ?_)
      · try simp only [decide_eq_true_eq, decide_eq_false_iff_not, Bool.not_eq_true', Bool.not_eq_false', Int.not_lt, Int.not_le, ne_eq, Decidable.not_not] at h5
        try have h5b := inB_iff.1 h5
        have htl := totL_len sh (loK (ownJ sh e fs sh.rows.length) sh.rows.length) total i
        refine t_skip ?_
        refine tn_code ?_
        refine t_seq ?_
        refine t_blk ?_
        refine t_seq ?_
        refine t_reg ?_
        first | refine to_lda rfl rfl rfl ?_ | refine to_ldea rfl (by assumption) rfl rfl ?_
        refine to_mv rfl rfl ?_
        refine to_call0 rfl rfl (fun w s => r_figure sh pt _ _ w hs (by omega)) rfl ?_
        refine to_mv rfl rfl ?_
        refine to_eql rfl rfl rfl ?_
        refine to_nil ?_
        refine tn_code ?_
        refine t_if rfl (fun h6 => ?_) (fun h6 => ?_)
        · try simp only [decide_eq_true_eq, decide_eq_false_iff_not, Bool.not_eq_true', Bool.not_eq_false', Int.not_lt, Int.not_le, ne_eq, Decidable.not_not] at h6
          try have h6b := inB_iff.1 h6
          refine t_reg ?_
          refine to_mv rfl rfl ?_
          refine to_mv rfl rfl ?_
          refine to_bsl rfl rfl rfl rfl (fun a105 => ?_)
          refine to_app rfl rfl rfl (by simp [scals, scal]) (by decide) (by omega) (by decide) rfl (fun a106 c106 => ?_)
          refine to_as rfl rfl ?_
          refine to_nil ?_
          refine tn_blk ?_
          refine tn_code ?_
          refine t_reg ?_
          refine to_mv rfl rfl ?_
          refine to_add rfl rfl (by omega) rfl ?_
          refine to_as rfl rfl ?_
          refine to_nil ?_
          exact tn_loop2 ((i + 1, a106, c106)) (.row a106 ((totL sh (loK (ownJ sh e fs sh.rows.length) sh.rows.length) total (i)).length + 1) c106 3 1 (ints (totL sh (loK (ownJ sh e fs sh.rows.length) sh.rows.length) total (i)) ++ [[Value.int .i64 ((loK (ownJ sh e fs sh.rows.length) sh.rows.length) + (i : Int))]]) :: .row a' sh.rows.length c' 53 2 (spans (ownJ sh e fs sh.rows.length)) :: .own b10 (isC (tbC sh pt (k : Int)) 86) :: .snap 0 w.heap.size w :: dfs Ds) (by dsimp only; rw [totL_t (by assumption), List.length_append, ints_snoc]; rfl) (by dsimp only; omega) (by dsimp only; omega) (⟨rfl, rfl, rfl, rfl, rfl, rfl, congrArg (fun z => some (Value.slice a106 z c106)) (by rw [totL_t (by assumption)]; simp), congrArg (fun z => some (Value.int .i64 z)) (Int.add_assoc (loK (ownJ sh e fs sh.rows.length) sh.rows.length) i 1), trivial⟩)
        · try simp only [decide_eq_true_eq, decide_eq_false_iff_not, Bool.not_eq_true', Bool.not_eq_false', Int.not_lt, Int.not_le, ne_eq, Decidable.not_not] at h6
          try have h6b := inB_iff.1 h6
          refine t_skip ?_
          refine tn_blk ?_
          refine tn_code ?_
          refine t_reg ?_
          refine to_mv rfl rfl ?_
          refine to_add rfl rfl (by omega) rfl ?_
          refine to_as rfl rfl ?_
          refine to_nil ?_
          exact tn_loop2 ((i + 1, al, cl)) (.row al (totL sh (loK (ownJ sh e fs sh.rows.length) sh.rows.length) total (i)).length cl 3 1 (ints (totL sh (loK (ownJ sh e fs sh.rows.length) sh.rows.length) total (i))) :: .row a' sh.rows.length c' 53 2 (spans (ownJ sh e fs sh.rows.length)) :: .own b10 (isC (tbC sh pt (k : Int)) 86) :: .snap 0 w.heap.size w :: dfs Ds) (by dsimp only; rw [totL_f (by assumption)]) (by dsimp only; omega) (by dsimp only; omega) (⟨rfl, rfl, rfl, rfl, rfl, rfl, congrArg (fun z => some (Value.slice al z cl)) (by rw [totL_f (by assumption)]), congrArg (fun z => some (Value.int .i64 z)) (Int.add_assoc (loK (ownJ sh e fs sh.rows.length) sh.rows.length) i 1), trivial⟩)
      · try simp only [decide_eq_true_eq, decide_eq_false_iff_not, Bool.not_eq_true', Bool.not_eq_false', Int.not_lt, Int.not_le, ne_eq, Decidable.not_not] at h5
        try have h5b := inB_iff.1 h5
        obtain rfl : i = ((hiK (ownJ sh e fs sh.rows.length) sh.rows.length) - (loK (ownJ sh e fs sh.rows.length) sh.rows.length) + 1).toNat := by omega
        refine t_exit ?_
        refine tx_code ?_
        refine tx_inv ?_
        refine tx_blk ?_
        refine tn_code ?_
        refine t_seq ?_
        refine t_seq ?_
        refine t_reg ?_
        refine to_mv rfl rfl ?_
        refine to_lenS rfl rfl ?_
        refine to_eql rfl rfl rfl ?_
        refine to_nil ?_
        refine tn_code ?_
        refine t_if rfl (fun h7 => ?_) (fun h7 => ?_)
        · try simp only [decide_eq_true_eq, decide_eq_false_iff_not, Bool.not_eq_true', Bool.not_eq_false', Int.not_lt, Int.not_le, ne_eq, Decidable.not_not] at h7
          try have h7b := inB_iff.1 h7
          have hT : (totL sh (loK (ownJ sh e fs sh.rows.length) sh.rows.length) total ((hiK (ownJ sh e fs sh.rows.length) sh.rows.length) - (loK (ownJ sh e fs sh.rows.length) sh.rows.length) + 1).toNat) = [] := List.eq_nil_of_length_eq_zero (by omega)
          refine t_seq ?_
          refine t_reg ?_
          refine to_as rfl rfl ?_
          refine to_as rfl rfl ?_
          refine to_nil ?_
          refine tn_code ?_
          refine t_ret2Ms (Ds := Ds) rfl (res_tmp rfl) (res_tmp rfl) (fun w' s => ?_)
          rw [bhR_has hhas, if_pos hT]; exact ⟨_, _, rfl, Ro.nil _ _ _ _⟩
        · try simp only [decide_eq_true_eq, decide_eq_false_iff_not, Bool.not_eq_true', Bool.not_eq_false', Int.not_lt, Int.not_le, ne_eq, Decidable.not_not] at h7
          try have h7b := inB_iff.1 h7
          have hT : (totL sh (loK (ownJ sh e fs sh.rows.length) sh.rows.length) total ((hiK (ownJ sh e fs sh.rows.length) sh.rows.length) - (loK (ownJ sh e fs sh.rows.length) sh.rows.length) + 1).toNat) ≠ [] := fun hh => by rw [hh] at h7; simp at h7
          have hall := ends_ne hT
          have ha1 := totL_bd hall.1
          have ha2 := totL_bd hall.2.1
          refine t_skip ?_
          refine tn_code ?_
          refine t_seq ?_
          refine t_reg ?_
          refine to_mv rfl rfl ?_
          refine to_call0 rfl rfl (fun w s => r_ends (totL sh (loK (ownJ sh e fs sh.rows.length) sh.rows.length) total ((hiK (ownJ sh e fs sh.rows.length) sh.rows.length) - (loK (ownJ sh e fs sh.rows.length) sh.rows.length) + 1).toNat) _ _ _ w (rdw s) ⟨List.length_pos_iff.2 hT, by have := totL_len sh (loK (ownJ sh e fs sh.rows.length) sh.rows.length) total ((hiK (ownJ sh e fs sh.rows.length) sh.rows.length) - (loK (ownJ sh e fs sh.rows.length) sh.rows.length) + 1).toNat; omega⟩ (ends_ne hT)) rfl ?_
          refine to_alloc rfl (fun b23 => ?_)
          first | refine to_st rfl rfl rfl rfl ?_ | refine to_ste rfl rfl (by assumption) rfl rfl ?_
          refine to_nil ?_
          refine tn_code ?_
          refine t_seq ?_
          refine t_reg ?_
          refine to_as rfl rfl ?_
          refine to_nil ?_
          refine tn_code ?_
          refine t_seq ?_
          refine t_seq ?_
          refine t_reg ?_
          refine to_mv rfl rfl ?_
          refine to_lenS rfl rfl ?_
          refine to_mv rfl rfl ?_
          refine to_nil ?_
          refine tn_code ?_
          refine t_blk ?_
          refine t_nilrow 53 2 ?_
          refine t_loop2 (ι := Nat × Option Addr × Nat) (fun ((i, ao, co) : Nat × Option Addr × Nat) => i ≤ sh.rows.length) (fun ((i, ao, co) : Nat × Option Addr × Nat) => [(12, .slice a' sh.rows.length c'), (17, (.int .i64 (loK (ownJ sh e fs sh.rows.length) sh.rows.length))), (18, (.int .i64 (hiK (ownJ sh e fs sh.rows.length) sh.rows.length))), (23, (.pointer (some ⟨b23, 0, none⟩))), (24, .slice ao i co), (112, .slice a' sh.rows.length c'), (113, (.int .i64 (sh.rows.length : Int))), (114, (.int .i64 (i : Int)))]) (fun ((i, ao, co) : Nat × Option Addr × Nat) => (.row ao i co 53 2 (spans (((ownJ sh e fs sh.rows.length).take i).map (bhV (loK (ownJ sh e fs sh.rows.length) sh.rows.length) (hiK (ownJ sh e fs sh.rows.length) sh.rows.length) ((endsI (totL sh (loK (ownJ sh e fs sh.rows.length) sh.rows.length) total ((hiK (ownJ sh e fs sh.rows.length) sh.rows.length) - (loK (ownJ sh e fs sh.rows.length) sh.rows.length) + 1).toNat)).getD (0, 0))))) :: .own b23 (isC (spanC ((endsI (totL sh (loK (ownJ sh e fs sh.rows.length) sh.rows.length) total ((hiK (ownJ sh e fs sh.rows.length) sh.rows.length) - (loK (ownJ sh e fs sh.rows.length) sh.rows.length) + 1).toNat)).getD (0, 0))) 53) :: .row a' sh.rows.length c' 53 2 (spans (ownJ sh e fs sh.rows.length)) :: .own b10 (isC (tbC sh pt (k : Int)) 86) :: .snap 0 w.heap.size w :: dfs Ds)) (fun ((i, ao, co) : Nat × Option Addr × Nat) => sh.rows.length - i) ((0, none, 0)) (.row none 0 0 53 2 ([]) :: .own b23 (isC (spanC ((endsI (totL sh (loK (ownJ sh e fs sh.rows.length) sh.rows.length) total ((hiK (ownJ sh e fs sh.rows.length) sh.rows.length) - (loK (ownJ sh e fs sh.rows.length) sh.rows.length) + 1).toNat)).getD (0, 0))) 53) :: .row a' sh.rows.length c' 53 2 (spans (ownJ sh e fs sh.rows.length)) :: .own b10 (isC (tbC sh pt (k : Int)) 86) :: .snap 0 w.heap.size w :: dfs Ds) (rfl) (Nat.zero_le _) (⟨rfl, rfl, rfl, rfl, rfl, rfl, rfl, rfl, trivial⟩) ?_
          rintro ⟨i, ao, co⟩ hk
          try dsimp only at hk
          show T _ _ _ ⟨_, [(12, .slice a' sh.rows.length c'), (17, (.int .i64 (loK (ownJ sh e fs sh.rows.length) sh.rows.length))), (18, (.int .i64 (hiK (ownJ sh e fs sh.rows.length) sh.rows.length))), (23, (.pointer (some ⟨b23, 0, none⟩))), (24, .slice ao i co), (112, .slice a' sh.rows.length c'), (113, (.int .i64 (sh.rows.length : Int))), (114, (.int .i64 (i : Int)))], _⟩ (.row ao i co 53 2 (spans (((ownJ sh e fs sh.rows.length).take i).map (bhV (loK (ownJ sh e fs sh.rows.length) sh.rows.length) (hiK (ownJ sh e fs sh.rows.length) sh.rows.length) ((endsI (totL sh (loK (ownJ sh e fs sh.rows.length) sh.rows.length) total ((hiK (ownJ sh e fs sh.rows.length) sh.rows.length) - (loK (ownJ sh e fs sh.rows.length) sh.rows.length) + 1).toNat)).getD (0, 0))))) :: .own b23 (isC (spanC ((endsI (totL sh (loK (ownJ sh e fs sh.rows.length) sh.rows.length) total ((hiK (ownJ sh e fs sh.rows.length) sh.rows.length) - (loK (ownJ sh e fs sh.rows.length) sh.rows.length) + 1).toNat)).getD (0, 0))) 53) :: .row a' sh.rows.length c' 53 2 (spans (ownJ sh e fs sh.rows.length)) :: .own b10 (isC (tbC sh pt (k : Int)) 86) :: .snap 0 w.heap.size w :: dfs Ds)
          refine t_seq ?_
          refine t_reg ?_
          refine to_lss rfl rfl rfl ?_
          refine to_nil ?_
          refine tn_code ?_
          refine t_seq ?_
          refine t_if rfl (fun h8 => ?_) (fun h8 => ?_)
          · try simp only [decide_eq_true_eq, decide_eq_false_iff_not, Bool.not_eq_true', Bool.not_eq_false', Int.not_lt, Int.not_le, ne_eq, Decidable.not_not] at h8
            try have h8b := inB_iff.1 h8
            obtain ⟨v, hov⟩ := some_get (xs := (ownJ sh e fs sh.rows.length)) (k := i) (by omega)
            have hxo := map_get (f := spanC) hov
            have hvb := hob v (List.mem_of_getElem? hov)
            refine t_skip ?_
            refine tn_code ?_
            refine t_seq ?_
            refine t_blk ?_
            refine t_seq ?_
            refine t_reg ?_
            first | refine to_ix rfl rfl rfl (by first | omega | decide) (by first | omega | decide) rfl ?_ | refine to_ixi rfl rfl rfl (by omega) (by omega) (by omega) rfl ?_
            first | refine to_lda rfl rfl rfl ?_ | refine to_ldea rfl (by assumption) rfl rfl ?_
            refine to_alloc rfl (fun b26 => ?_)
            first | refine to_st rfl rfl rfl rfl ?_ | refine to_ste rfl rfl (by assumption) rfl rfl ?_
            refine to_nil ?_
            refine tn_code ?_
            refine t_reg ?_
            refine to_mv rfl rfl ?_
            first | refine to_fa rfl rfl rfl (by simp only [Nat.reduceAdd]; rfl) rfl ?_ | refine to_fae rfl rfl rfl (by simp only [Nat.reduceAdd]; rfl) rfl ?_
            first | refine to_lds rfl rfl rfl ?_ | refine to_ldes rfl (by assumption) rfl rfl ?_
            first | refine to_fa rfl rfl rfl (by simp only [Nat.reduceAdd]; rfl) rfl ?_ | refine to_fae rfl rfl rfl (by simp only [Nat.reduceAdd]; rfl) rfl ?_
            first | refine to_lds rfl rfl rfl ?_ | refine to_ldes rfl (by assumption) rfl rfl ?_
            refine to_mv rfl rfl ?_
            first | refine to_fa rfl rfl rfl (by simp only [Nat.reduceAdd]; rfl) rfl ?_ | refine to_fae rfl rfl rfl (by simp only [Nat.reduceAdd]; rfl) rfl ?_
            first | refine to_lds rfl rfl rfl ?_ | refine to_ldes rfl (by assumption) rfl rfl ?_
            refine to_sub rfl rfl (by omega) rfl ?_
            refine to_sub rfl rfl (by omega) rfl ?_
            refine to_max rfl rfl rfl ?_
            first | refine to_fa rfl rfl rfl (by simp only [Nat.reduceAdd]; rfl) rfl ?_ | refine to_fae rfl rfl rfl (by simp only [Nat.reduceAdd]; rfl) rfl ?_
            first | refine to_lds rfl rfl rfl ?_ | refine to_ldes rfl (by assumption) rfl rfl ?_
            first | refine to_fa rfl rfl rfl (by simp only [Nat.reduceAdd]; rfl) rfl ?_ | refine to_fae rfl rfl rfl (by simp only [Nat.reduceAdd]; rfl) rfl ?_
            first | refine to_lds rfl rfl rfl ?_ | refine to_ldes rfl (by assumption) rfl rfl ?_
            refine to_mv rfl rfl ?_
            first | refine to_fa rfl rfl rfl (by simp only [Nat.reduceAdd]; rfl) rfl ?_ | refine to_fae rfl rfl rfl (by simp only [Nat.reduceAdd]; rfl) rfl ?_
            first | refine to_lds rfl rfl rfl ?_ | refine to_ldes rfl (by assumption) rfl rfl ?_
            refine to_sub rfl rfl (by omega) rfl ?_
            refine to_sub rfl rfl (by omega) rfl ?_
            refine to_min rfl rfl rfl ?_
            refine to_bs rfl rfl ?_
            refine to_bsl rfl rfl rfl rfl (fun a140 => ?_)
            refine to_app rfl rfl rfl (by simp [scals, scal]) (by decide) (by omega) (by decide) rfl (fun a141 c141 => ?_)
            refine to_as rfl rfl ?_
            refine to_nil ?_
            refine tn_blk ?_
            refine tn_code ?_
            refine t_reg ?_
            refine to_add rfl rfl (by omega) rfl ?_
            refine to_mv rfl rfl ?_
            refine to_nil ?_
            exact tn_loop2 ((i + 1, a141, c141)) (.row a141 (i + 1) c141 53 2 (spans (((ownJ sh e fs sh.rows.length).take i).map (bhV (loK (ownJ sh e fs sh.rows.length) sh.rows.length) (hiK (ownJ sh e fs sh.rows.length) sh.rows.length) ((endsI (totL sh (loK (ownJ sh e fs sh.rows.length) sh.rows.length) total ((hiK (ownJ sh e fs sh.rows.length) sh.rows.length) - (loK (ownJ sh e fs sh.rows.length) sh.rows.length) + 1).toNat)).getD (0, 0)))) ++ [[Value.int .i64 (max v.1 (((endsI (totL sh (loK (ownJ sh e fs sh.rows.length) sh.rows.length) total ((hiK (ownJ sh e fs sh.rows.length) sh.rows.length) - (loK (ownJ sh e fs sh.rows.length) sh.rows.length) + 1).toNat)).getD (0, 0)).1 - ((hiK (ownJ sh e fs sh.rows.length) sh.rows.length) - v.2))), Value.int .i64 (min v.2 (((endsI (totL sh (loK (ownJ sh e fs sh.rows.length) sh.rows.length) total ((hiK (ownJ sh e fs sh.rows.length) sh.rows.length) - (loK (ownJ sh e fs sh.rows.length) sh.rows.length) + 1).toNat)).getD (0, 0)).2 - ((loK (ownJ sh e fs sh.rows.length) sh.rows.length) - v.1)))]]) :: .own b23 (isC (spanC ((endsI (totL sh (loK (ownJ sh e fs sh.rows.length) sh.rows.length) total ((hiK (ownJ sh e fs sh.rows.length) sh.rows.length) - (loK (ownJ sh e fs sh.rows.length) sh.rows.length) + 1).toNat)).getD (0, 0))) 53) :: .row a' sh.rows.length c' 53 2 (spans (ownJ sh e fs sh.rows.length)) :: .own b10 (isC (tbC sh pt (k : Int)) 86) :: .snap 0 w.heap.size w :: dfs Ds) (by dsimp only; rw [bhk_succ hov]; rfl) (by dsimp only; omega) (by dsimp only; omega) (⟨rfl, rfl, rfl, rfl, rfl, rfl, rfl, rfl, trivial⟩)
          · try simp only [decide_eq_true_eq, decide_eq_false_iff_not, Bool.not_eq_true', Bool.not_eq_false', Int.not_lt, Int.not_le, ne_eq, Decidable.not_not] at h8
            try have h8b := inB_iff.1 h8
            obtain rfl : i = sh.rows.length := by omega
            refine t_exit ?_
            refine tx_code ?_
            refine tx_inv ?_
            refine tx_blk ?_
            refine tn_code ?_
            refine t_seq ?_
            refine t_reg ?_
            refine to_mv rfl rfl ?_
            refine to_as rfl rfl ?_
            refine to_as rfl rfl ?_
            refine to_nil ?_
            refine tn_code ?_
            refine t_ret2Ms (Ds := Ds) rfl (res_tmp rfl) (res_tmp rfl) (fun w' s => ?_)
            rw [bhR_has hhas, if_neg hT]; rw [List.take_of_length_le (by omega)] at s; exact rspe_of (by simp [hol]) (ro_row s)

end Go.Proofs


namespace Go.Proofs
open Go Go.Sx Go.RowKit

set_option maxRecDepth 20000 in
theorem r_Behind_m (sh : Sh) (pt : Pt) (k : Nat) (e : Int) (fs : List Int) (fa : Option Addr) (fc : Nat) (total : Int) (w : World) (hre : Ro w 0 w.heap.size pt.ea sh.errs.length pt.ec 1 (ints sh.errs)) (hrr : Ro w 0 w.heap.size pt.ra sh.rows.length pt.rc 1 (ints sh.rows)) (hs : isSh sh = true) (he : sh.errs[k]? = some e) (hfm : fs.length ≠ sh.rows.length) : Calls Tryz.prog 54 #[shV sh pt, (.int .i64 (k : Int)), .slice fa fs.length fc, (.int .i64 total)] w (Ret w (RSpE [] 2)) := by
  have heb := errs_b (isSh_e hs) e (List.mem_of_getElem? he)
  have hbb := isSh_b hs
  have hxe := map_get (f := intC) he
  have hke := (List.getElem?_eq_some_iff.1 he).1
  refine calls_TM (av := [_, _, _, _]) Tryz.func54 rfl rfl rfl ?_
  refine t_seq ?_
  refine t_reg ?_
  refine to_box rfl rfl (fun b4 => ?_)
  refine to_as rfl rfl ?_
  refine to_as rfl rfl ?_
  refine to_nil ?_
  refine tn_code ?_
  refine t_scope rfl ?_
  refine t_seq ?_
  refine t_reg ?_
  first | refine to_lda rfl rfl rfl ?_ | refine to_ldea rfl (by assumption) rfl rfl ?_
  refine to_mv rfl rfl ?_
  refine to_call0 rfl rfl (fun w s => r_open_t sh pt k e w (rdw s) (rdw s) hs he) rfl ?_
  refine to_mv rfl rfl ?_
  refine to_ex rfl rfl rfl ?_
  refine to_ex rfl rfl rfl ?_
  refine to_alloc rfl (fun b10 => ?_)
  first | refine to_st rfl rfl rfl rfl ?_ | refine to_ste rfl rfl (by assumption) rfl rfl ?_
  refine to_as rfl rfl ?_
  refine to_nil ?_
  refine tn_code ?_
  refine t_seq ?_
  refine t_seq ?_
  refine t_reg ?_
  refine to_mv rfl rfl ?_
  refine to_neq rfl rfl rfl ?_
  refine to_fix (s := 34) (b' := false) rfl (rfl) ?_
  refine to_mv rfl rfl ?_
  refine to_gt rfl rfl ?_
  refine to_mv rfl rfl ?_
  refine to_gt rfl rfl ?_
  refine to_lenS rfl rfl ?_
  refine to_gt rfl rfl ?_
  first | refine to_fa rfl rfl rfl (by simp only [Nat.reduceAdd]; rfl) rfl ?_ | refine to_fae rfl rfl rfl (by simp only [Nat.reduceAdd]; rfl) rfl ?_
  refine to_gt rfl rfl ?_
  first | refine to_lds rfl rfl rfl ?_ | refine to_ldes rfl (by assumption) rfl rfl ?_
  refine to_gt rfl rfl ?_
  refine to_lenS rfl rfl ?_
  refine to_gt rfl rfl ?_
  refine to_neq rfl rfl rfl ?_
  refine to_fix (s := 41) (b' := true) rfl (by simp; omega) ?_
  refine to_pkF rfl rfl rfl ?_
  refine to_nil ?_
  refine tn_code ?_
  refine t_ifT rfl ?_
  refine t_seq ?_
  refine t_reg ?_
  refine to_as rfl rfl ?_
  refine to_as rfl rfl ?_
  refine to_nil ?_
  refine tn_code ?_
  refine t_ret2Ms (Ds := []) rfl (res_tmp rfl) (res_tmp rfl) (fun w' s => ?_)
  exact ⟨_, _, rfl, Ro.nil _ _ _ _⟩

set_option maxRecDepth 20000 in
theorem r_Behind_f (sh : Sh) (pt : Pt) (gd : Int) (fs : List Int) (fa : Option Addr) (fc : Nat) (total : Int) (w : World) (hre : Ro w 0 w.heap.size pt.ea sh.errs.length pt.ec 1 (ints sh.errs)) (hrr : Ro w 0 w.heap.size pt.ra sh.rows.length pt.rc 1 (ints sh.rows)) (hl : sh.errs.length ≤ 1000000) (ho : okG sh gd = false) : Calls Tryz.prog 54 #[shV sh pt, (.int .i64 gd), .slice fa fs.length fc, (.int .i64 total)] w (Ret w (RSpE [] 2)) := by
  refine calls_TM (av := [_, _, _, _]) Tryz.func54 rfl rfl rfl ?_
  refine t_seq ?_
  refine t_reg ?_
  refine to_box rfl rfl (fun b4 => ?_)
  refine to_as rfl rfl ?_
  refine to_as rfl rfl ?_
  refine to_nil ?_
  refine tn_code ?_
  refine t_scope rfl ?_
  refine t_seq ?_
  refine t_reg ?_
  first | refine to_lda rfl rfl rfl ?_ | refine to_ldea rfl (by assumption) rfl rfl ?_
  refine to_mv rfl rfl ?_
  refine to_call0 rfl rfl (fun w s => r_open_f sh pt gd w (rdw s) (rdw s) hl ho) rfl ?_
  refine to_mv rfl rfl ?_
  refine to_ex rfl rfl rfl ?_
  refine to_ex rfl rfl rfl ?_
  refine to_alloc rfl (fun b10 => ?_)
  first | refine to_st rfl rfl rfl rfl ?_ | refine to_ste rfl rfl (by assumption) rfl rfl ?_
  refine to_as rfl rfl ?_
  refine to_nil ?_
  refine tn_code ?_
  refine t_seq ?_
  refine t_seq ?_
  refine t_reg ?_
  refine to_mv rfl rfl ?_
  refine to_neq rfl rfl rfl ?_
  refine to_fix (s := 34) (b' := true) rfl (rfl) ?_
  refine to_mv rfl rfl ?_
  refine to_gf rfl rfl rfl rfl ?_
  refine to_gf rfl rfl rfl rfl ?_
  refine to_gf rfl rfl rfl rfl ?_
  refine to_gf rfl rfl rfl rfl ?_
  refine to_gf rfl rfl rfl rfl ?_
  refine to_gf rfl rfl rfl rfl ?_
  refine to_pkT rfl rfl rfl ?_
  refine to_nil ?_
  refine tn_code ?_
  refine t_ifT rfl ?_
  refine t_seq ?_
  refine t_reg ?_
  refine to_as rfl rfl ?_
  refine to_as rfl rfl ?_
  refine to_nil ?_
  refine tn_code ?_
  refine t_ret2Ms (Ds := []) rfl (res_tmp rfl) (res_tmp rfl) (fun w' s => ?_)
  exact ⟨_, _, rfl, Ro.nil _ _ _ _⟩

end Go.Proofs


namespace Go.Proofs
open Go Go.Sx Go.RowKit

/-! # What is plain about texts -/

abbrev Bs := List UInt8
@[reducible] def strV (l : Bs) : Value := .string ⟨l.toArray⟩
@[reducible] def strC (l : Bs) : List Value := [.string ⟨l.toArray⟩]
@[reducible] def strs (xs : List Bs) : List (List Value) := xs.map strC
def dg1 (n : Int) : UInt8 := UInt8.ofNat (48 + n.toNat)
theorem decDigits_step {u : Nat} (h : ¬ u < 10) : Lib.decDigits u = Lib.decDigits (u / 10) ++ [UInt8.ofNat (48 + u % 10)] := by
  rw [Lib.decDigits, dif_neg h]
def chkC (i : Nat) (w : Bs) : Nat → Int
  | 0 => 0
  | k + 1 => chkC i w k + (((w.getD k 0).toNat : Nat) : Int) * ((k : Int) + 1) * ((i : Int) + 1)
def chkR (ws : List Bs) : Nat → Int
  | 0 => 0
  | i + 1 => chkR ws i + chkC i (ws.getD i []) (ws.getD i []).length
theorem chkC_succ {i : Nat} {w : Bs} {k : Nat} {c : UInt8} (h : w[k]? = some c) : chkC i w (k + 1) = chkC i w k + ((c.toNat : Nat) : Int) * ((k : Int) + 1) * ((i : Int) + 1) := by
  simp [chkC, List.getD, h]
theorem chkR_succ {ws : List Bs} {i : Nat} {w : Bs} (h : ws[i]? = some w) : chkR ws (i + 1) = chkR ws i + chkC i w w.length := by
  simp [chkR, List.getD, h]
def linesT (ws : List Bs) : Nat → Bs
  | 0 => []
  | i + 1 => linesT ws i ++ (ws.getD i [] ++ [10])
theorem linesT_succ {ws : List Bs} {i : Nat} {w : Bs} (h : ws[i]? = some w) : linesT ws (i + 1) = linesT ws i ++ (w ++ [10]) := by
  simp [linesT, List.getD, h]
theorem u8_le (c : UInt8) : c.toNat ≤ 255 := by have := c.toNat_lt; omega
theorem chkC_b {i : Nat} {w : Bs} (hi : i ≤ 1000) : ∀ k, k ≤ 100 → 0 ≤ chkC i w k ∧ chkC i w k ≤ (k : Int) * 25525500
  | 0, _ => by simp [chkC]
  | k + 1, hk => by
    have ih := chkC_b (w := w) hi k (by omega)
    have h1 := u8_le (w.getD k 0)
    have h2 := mul_bd (a := (((w.getD k 0).toNat : Nat) : Int)) (b := (k : Int) + 1) (B := 255) (C := 100) (by omega) (by omega) (by omega) (by omega)
    have h3 := mul_bd (a := (((w.getD k 0).toNat : Nat) : Int) * ((k : Int) + 1)) (b := (i : Int) + 1) (B := 25500) (C := 1001) (by omega) (by omega) (by omega) (by omega)
    simp only [chkC]; omega
theorem chkR_b {ws : List Bs} (hw : ∀ w ∈ ws, w.length ≤ 100) : ∀ i, i ≤ ws.length → ws.length ≤ 1000 → 0 ≤ chkR ws i ∧ chkR ws i ≤ (i : Int) * 2552550000
  | 0, _, _ => by simp [chkR]
  | i + 1, hi, hn => by
    have ih := chkR_b hw i (by omega) hn
    obtain ⟨w, h⟩ := some_get (xs := ws) (k := i) (by omega)
    have h1 := hw w (List.mem_of_getElem? h)
    have h2 := chkC_b (i := i) (w := w) (by omega) w.length h1
    rw [chkR_succ h]; omega
theorem linesT_len {ws : List Bs} (hw : ∀ w ∈ ws, w.length ≤ 100) : ∀ i, i ≤ ws.length → (linesT ws i).length ≤ 101 * i
  | 0, _ => by simp [linesT]
  | i + 1, hi => by
    have ih := linesT_len hw i (by omega)
    obtain ⟨w, h⟩ := some_get (xs := ws) (k := i) (by omega)
    have h1 := hw w (List.mem_of_getElem? h)
    rw [linesT_succ h]
    simp only [List.length_append, List.length_cons, List.length_nil]; omega
def isDg (c : UInt8) : Bool := decide (48 ≤ c.toNat) && decide (c.toNat ≤ 57)
def valK (w : Bs) : Nat → Int
  | 0 => 0
  | k + 1 => 10 * valK w k + (((w.getD k 0).toNat : Int) - 48)
theorem valK_succ {w : Bs} {k : Nat} {c : UInt8} (h : w[k]? = some c) : valK w (k + 1) = 10 * valK w k + ((c.toNat : Int) - 48) := by
  simp [valK, List.getD, h]
def splitL (c : UInt8) : Bs → List Bs
  | [] => [[]]
  | x :: xs => if x = c then [] :: splitL c xs else match splitL c xs with
    | [] => [[x]]
    | w :: ws => (x :: w) :: ws
theorem splitL_len (c : UInt8) : ∀ s, 1 ≤ (splitL c s).length ∧ (splitL c s).length ≤ s.length + 1
  | [] => by simp [splitL]
  | x :: xs => by
    have ih := splitL_len c xs
    simp only [splitL]
    split
    · simp; omega
    · split
      · simp
      · rename_i w ws he; rw [he] at ih; simp at ih ⊢; omega
theorem dg_ne {c : UInt8} (h : isDg c = true) : c ≠ 32 ∧ c ≠ 10 := by
  simp only [isDg, Bool.and_eq_true, decide_eq_true_eq] at h
  constructor <;> (rintro rfl; revert h; decide)
theorem split_ne (c : UInt8) (s : Bs) : ∃ w ws, splitL c s = w :: ws := by
  have := (splitL_len c s).1
  cases hq : splitL c s with
  | nil => rw [hq] at this; simp at this
  | cons w ws => exact ⟨w, ws, rfl⟩
/-- A part that lacks the byte, and the byte behind it. -/
theorem split_app {c : UInt8} : ∀ {w : Bs}, (∀ x ∈ w, x ≠ c) → ∀ s, splitL c (w ++ c :: s) = w :: splitL c s
  | [], _, s => by simp [splitL]
  | x :: w, h, s => by
    have ih := split_app (w := w) (fun y hy => h y (List.mem_cons_of_mem _ hy)) s
    have hx := h x (List.mem_cons_self ..)
    simp only [List.cons_append, splitL, if_neg hx, ih]
theorem split_none {c : UInt8} : ∀ {w : Bs}, (∀ x ∈ w, x ≠ c) → splitL c w = [w]
  | [], _ => rfl
  | x :: w, h => by
    have ih := split_none (w := w) (fun y hy => h y (List.mem_cons_of_mem _ hy))
    have hx := h x (List.mem_cons_self ..)
    simp only [splitL, if_neg hx, ih]
theorem split_end {c : UInt8} : ∀ {a : Bs} {w : Bs}, (∀ x ∈ w, x ≠ c) → splitL c (a ++ c :: w) = splitL c a ++ [w]
  | [], w, h => by simp [splitL, split_none h]
  | x :: a, w, h => by
    have ih := split_end (a := a) h
    simp only [List.cons_append, splitL]
    by_cases hx : x = c
    · rw [if_pos hx, if_pos hx, ih]; rfl
    · rw [if_neg hx, if_neg hx, ih]
      obtain ⟨u, us, hu⟩ := split_ne c a
      rw [hu]; rfl
theorem lines_split {ws : List Bs} (hw : ∀ w ∈ ws, ∀ x ∈ w, x ≠ 10) : ∀ k, k ≤ ws.length → ∀ s, splitL 10 (linesT ws k ++ s) = ws.take k ++ splitL 10 s
  | 0, _, s => by simp [linesT]
  | k + 1, hk, s => by
    obtain ⟨w, h⟩ := some_get (xs := ws) (k := k) (by omega)
    have e : linesT ws k ++ (w ++ [10]) ++ s = linesT ws k ++ (w ++ 10 :: s) := by simp
    rw [linesT_succ h, e, lines_split hw k (by omega), split_app (hw w (List.mem_of_getElem? h)), take_snoc h]
    simp
theorem lines_le {ws : List Bs} {m : Nat} (hw : ∀ w ∈ ws, w.length ≤ m) : ∀ k, k ≤ ws.length → (linesT ws k).length ≤ (m + 1) * k
  | 0, _ => by simp [linesT]
  | k + 1, hk => by
    obtain ⟨w, h⟩ := some_get (xs := ws) (k := k) (by omega)
    have ih := lines_le hw k (by omega)
    have := hw w (List.mem_of_getElem? h)
    rw [linesT_succ h, Nat.mul_succ]
    simp only [List.length_append, List.length_cons, List.length_nil]; omega
theorem split_set {c c' : UInt8} (hc : c' ≠ c) : ∀ (s : Bs) (p : Nat) (ch : UInt8), s[p]? = some ch → ch ≠ c →
    ∃ (i k : Nat) (w : Bs), (splitL c s)[i]? = some w ∧ w[k]? = some ch ∧ splitL c (s.set p c') = (splitL c s).set i (w.set k c')
  | [], p, ch, h, _ => by simp at h
  | x :: xs, 0, ch, h, hn => by
    simp at h; subst h
    obtain ⟨w, ws, he⟩ := split_ne c xs
    refine ⟨0, 0, x :: w, ?_, rfl, ?_⟩
    · simp [splitL, hn, he]
    · simp [splitL, hn, hc, he]
  | x :: xs, p + 1, ch, h, hn => by
    have h' : xs[p]? = some ch := by simpa using h
    obtain ⟨i, k, w, h1, h2, h3⟩ := split_set hc xs p ch h' hn
    obtain ⟨u, us, he⟩ := split_ne c xs
    by_cases hx : x = c
    · refine ⟨i + 1, k, w, ?_, h2, ?_⟩
      · simp only [splitL, if_pos hx, List.getElem?_cons_succ]; exact h1
      · simp only [List.set_cons_succ, splitL, if_pos hx]; rw [h3]
    · rw [he] at h1 h3
      cases i with
      | zero =>
        simp at h1; subst h1
        refine ⟨0, k + 1, x :: u, ?_, ?_, ?_⟩
        · simp only [splitL, if_neg hx, he]; rfl
        · simpa using h2
        · simp only [List.set_cons_succ, splitL, if_neg hx, he, h3, List.set_cons_zero]
      | succ i =>
        refine ⟨i + 1, k, w, ?_, h2, ?_⟩
        · simp only [splitL, if_neg hx, he]; simpa using h1
        · simp only [List.set_cons_succ, splitL, if_neg hx, he, h3]
theorem chkC_set {i : Nat} {w : Bs} {k : Nat} {ch c' : UInt8} (h : w[k]? = some ch) : ∀ m, chkC i (w.set k c') m = chkC i w m + if k < m then (((c'.toNat : Nat) : Int) - ((ch.toNat : Nat) : Int)) * ((k : Int) + 1) * ((i : Int) + 1) else 0
  | 0 => by simp [chkC]
  | m + 1 => by
    have hk := (List.getElem?_eq_some_iff.1 h).1
    have ih := chkC_set (c' := c') (i := i) h m
    simp only [chkC, ih]
    by_cases hkm : k = m
    · subst hkm
      have e1 : (w.set k c').getD k 0 = c' := by simp [List.getD, hk]
      have e2 : w.getD k 0 = ch := by simp [List.getD, h]
      rw [e1, e2, if_neg (by omega), if_pos (by omega)]
      simp only [Int.sub_mul]; omega
    · have e1 : (w.set k c').getD m 0 = w.getD m 0 := by simp [List.getD, List.getElem?_set, hkm]
      rw [e1]
      by_cases hlt : k < m
      · rw [if_pos hlt, if_pos (by omega)]; omega
      · rw [if_neg hlt, if_neg (by omega)]; omega
theorem chkR_set {ws : List Bs} {i : Nat} {w w' : Bs} (h : ws[i]? = some w) (hl : w'.length = w.length) : ∀ m, chkR (ws.set i w') m = chkR ws m + if i < m then chkC i w' w.length - chkC i w w.length else 0
  | 0 => by simp [chkR]
  | m + 1 => by
    have hi := (List.getElem?_eq_some_iff.1 h).1
    have ih := chkR_set h hl m
    simp only [chkR, ih]
    by_cases him : i = m
    · subst him
      have e1 : (ws.set i w').getD i [] = w' := by simp [List.getD, hi]
      have e2 : ws.getD i [] = w := by simp [List.getD, h]
      rw [e1, e2, if_neg (by omega), if_pos (by omega), hl]; omega
    · have e1 : (ws.set i w').getD m [] = ws.getD m [] := by simp [List.getD, List.getElem?_set, him]
      rw [e1]
      by_cases hlt : i < m
      · rw [if_pos hlt, if_pos (by omega)]; omega
      · rw [if_neg hlt, if_neg (by omega)]; omega
/-! ### Decimals -/

def decZ (n : Int) : Bs := Lib.itoa n
def okZ (n : Int) : Prop := -999999 ≤ n ∧ n ≤ 999999
theorem decZ_nat (u : Nat) : decZ (u : Int) = Lib.decDigits u := by
  unfold decZ Lib.itoa; rw [if_neg (by omega)]; simp
theorem decZ_neg {u : Nat} (h : 1 ≤ u) : decZ (-(u : Int)) = 45 :: Lib.decDigits u := by
  unfold decZ Lib.itoa; rw [if_pos (by omega)]; simp
theorem dgB : ∀ d : Fin 10, isDg (UInt8.ofNat (48 + d.val)) = true ∧ (UInt8.ofNat (48 + d.val)).toNat = 48 + d.val := by decide
theorem dgB' {d : Nat} (h : d < 10) : isDg (UInt8.ofNat (48 + d)) = true ∧ (UInt8.ofNat (48 + d)).toNat = 48 + d := dgB ⟨d, h⟩
theorem digs_one {u : Nat} (h : u < 10) : Lib.decDigits u = [UInt8.ofNat (48 + u)] := by rw [Lib.decDigits, dif_pos h]
theorem digs_lenk : ∀ (k u : Nat), u < 10 ^ (k + 1) → 1 ≤ (Lib.decDigits u).length ∧ (Lib.decDigits u).length ≤ k + 1
  | 0, u, h => by rw [digs_one (by omega)]; simp
  | k + 1, u, h => by
    by_cases h1 : u < 10
    · rw [digs_one h1]; simp
    · have h2 := digs_lenk k (u / 10) (by rw [Nat.pow_succ] at h; omega)
      rw [decDigits_step h1, List.length_append, List.length_singleton]; omega
theorem digs_all : ∀ u : Nat, (Lib.decDigits u).all isDg = true := by
  intro u
  induction u using Nat.strongRecOn with
  | _ u ih =>
    by_cases h : u < 10
    · rw [digs_one h]; simp only [List.all_cons, List.all_nil, Bool.and_true]; exact (dgB' h).1
    · rw [decDigits_step h, List.all_append, ih (u / 10) (by omega)]
      simp only [List.all_cons, List.all_nil, Bool.and_true, Bool.true_and]; exact (dgB' (Nat.mod_lt u (by decide : 0 < 10))).1
theorem valK_pre (a b : Bs) : ∀ k, k ≤ a.length → valK (a ++ b) k = valK a k
  | 0, _ => rfl
  | k + 1, h => by
    have ih := valK_pre a b k (by omega)
    simp only [valK, ih, List.getD]
    rw [List.getElem?_append_left (by omega)]
theorem valK_snoc (a : Bs) (c : UInt8) : valK (a ++ [c]) (a.length + 1) = 10 * valK a a.length + ((c.toNat : Int) - 48) := by
  have h : (a ++ [c])[a.length]? = some c := by simp
  rw [valK_succ h, valK_pre _ _ _ (Nat.le_refl _)]
theorem digs_val : ∀ u : Nat, valK (Lib.decDigits u) (Lib.decDigits u).length = (u : Int) := by
  intro u
  induction u using Nat.strongRecOn with
  | _ u ih =>
    by_cases h : u < 10
    · have h2 := (dgB' h).2
      have h3 := valK_snoc [] (UInt8.ofNat (48 + u))
      simp only [List.nil_append, List.length_nil, Nat.zero_add, valK] at h3
      rw [digs_one h]
      simp only [List.length_singleton, valK]
      simp only [List.getD_cons_zero, h2]; omega
    · have h2 := (dgB' (Nat.mod_lt u (by decide : 0 < 10))).2
      rw [decDigits_step h, List.length_append, List.length_singleton, valK_snoc, ih (u / 10) (by omega), h2]
      omega
theorem valK_b6 {w : Bs} {k : Nat} (hd : ∀ j, j < k → ∀ c, w[j]? = some c → isDg c = true) (hk : k ≤ w.length) (h6 : k ≤ 6) : 0 ≤ valK w k ∧ valK w k ≤ 999999 := by
  have key : ∀ j, j ≤ k → 0 ≤ valK w j ∧ valK w j < 10 ^ j := by
    intro j
    induction j with
    | zero => intro _; simp [valK]
    | succ j ih =>
      intro hj
      have ih := ih (by omega)
      obtain ⟨c, hc⟩ := some_get (xs := w) (k := j) (by omega)
      have h := hd j (by omega) c hc
      simp only [isDg, Bool.and_eq_true, decide_eq_true_eq] at h
      rw [valK_succ hc, Int.pow_succ]
      generalize (10 : Int) ^ j = p at *
      omega
  have := key k (Nat.le_refl _)
  have h2 : (10 : Int) ^ k ≤ 1000000 := by
    have : k = 0 ∨ k = 1 ∨ k = 2 ∨ k = 3 ∨ k = 4 ∨ k = 5 ∨ k = 6 := by omega
    rcases this with rfl | rfl | rfl | rfl | rfl | rfl | rfl <;> decide
  omega
theorem decZ_len {n : Int} (h : okZ n) : 1 ≤ (decZ n).length ∧ (decZ n).length ≤ 7 := by
  unfold okZ at h
  by_cases hn : n < 0
  · obtain ⟨u, hu⟩ := Int.eq_ofNat_of_zero_le (show 0 ≤ -n by omega)
    have e : n = -(u : Int) := by omega
    subst e
    have := digs_lenk 5 u (by omega)
    rw [decZ_neg (by omega), List.length_cons]; omega
  · obtain ⟨u, rfl⟩ := Int.eq_ofNat_of_zero_le (show 0 ≤ n by omega)
    have := digs_lenk 5 u (by omega)
    rw [decZ_nat]; omega
theorem decZ_one {n : Int} (h : 0 ≤ n ∧ n ≤ 9) : decZ n = [dg1 n] := by
  obtain ⟨u, rfl⟩ := Int.eq_ofNat_of_zero_le h.1
  rw [decZ_nat, digs_one (by omega)]; simp [dg1]
theorem decZ_le {n : Int} {k : Nat} (h : -(10 ^ (k + 1) : Int) < n ∧ n < 10 ^ (k + 1)) : (decZ n).length ≤ k + 2 ∧ (0 ≤ n → (decZ n).length ≤ k + 1) := by
  by_cases hn : n < 0
  · obtain ⟨u, hu⟩ := Int.eq_ofNat_of_zero_le (show 0 ≤ -n by omega)
    have e : n = -(u : Int) := by omega
    subst e
    have h3 : ((10 ^ (k + 1) : Nat) : Int) = (10 : Int) ^ (k + 1) := by simp
    rw [← h3] at h
    have := digs_lenk k u (by omega)
    rw [decZ_neg (by omega), List.length_cons]; omega
  · obtain ⟨u, rfl⟩ := Int.eq_ofNat_of_zero_le (show 0 ≤ n by omega)
    have h3 : ((10 ^ (k + 1) : Nat) : Int) = (10 : Int) ^ (k + 1) := by simp
    rw [← h3] at h
    have := digs_lenk k u (by omega)
    rw [decZ_nat]; omega
theorem decZ_no (n : Int) : (∀ x ∈ decZ n, x ≠ 32) ∧ ∀ x ∈ decZ n, x ≠ 10 := by
  have key : ∀ u : Nat, ∀ x ∈ Lib.decDigits u, x ≠ 32 ∧ x ≠ 10 := fun u x hx => dg_ne (List.all_eq_true.1 (digs_all u) x hx)
  by_cases hn : n < 0
  · obtain ⟨u, hu⟩ := Int.eq_ofNat_of_zero_le (show 0 ≤ -n by omega)
    have e : n = -(u : Int) := by omega
    subst e
    rw [decZ_neg (by omega)]
    constructor
    · intro x hx
      rcases List.mem_cons.1 hx with rfl | hx
      · decide
      · exact (key u x hx).1
    · intro x hx
      rcases List.mem_cons.1 hx with rfl | hx
      · decide
      · exact (key u x hx).2
  · obtain ⟨u, rfl⟩ := Int.eq_ofNat_of_zero_le (show 0 ≤ n by omega)
    rw [decZ_nat]
    exact ⟨fun x hx => (key u x hx).1, fun x hx => (key u x hx).2⟩

/-! ### Numbers out of words -/

/-- A word without its sign. -/
def absW : Bs → Bs
  | [] => []
  | c :: t => if c = 45 then t else c :: t
def sgnV (w : Bs) : Int := if w.head? = some 45 then -(valK (absW w) (absW w).length) else valK (absW w) (absW w).length
def numZ (w : Bs) : Option Int := if absW w ≠ [] ∧ (absW w).length ≤ 6 ∧ (absW w).all isDg = true ∧ decZ (sgnV w) = w then some (sgnV w) else none
theorem numZ_b {w : Bs} {n : Int} (h : numZ w = some n) : okZ n ∧ decZ n = w := by
  simp only [numZ] at h
  split at h
  · rename_i hc
    cases h
    have hb := valK_b6 (w := absW w) (k := (absW w).length) (fun j _ c hj => List.all_eq_true.1 hc.2.2.1 c (List.mem_of_getElem? hj)) (Nat.le_refl _) hc.2.1
    refine ⟨?_, hc.2.2.2⟩
    unfold okZ sgnV
    split <;> omega
  · cases h
theorem len_nil' {l : Bs} (h : 1 ≤ l.length) : l ≠ [] := by rintro rfl; simp at h
theorem numZ_rt {n : Int} (h : okZ n) : numZ (decZ n) = some n := by
  unfold okZ at h
  by_cases hn : n < 0
  · obtain ⟨u, hu⟩ := Int.eq_ofNat_of_zero_le (show 0 ≤ -n by omega)
    have e : n = -(u : Int) := by omega
    subst e
    have hl := digs_lenk 5 u (by omega)
    have ea : absW (decZ (-(u : Int))) = Lib.decDigits u := by rw [decZ_neg (by omega)]; rfl
    have es : sgnV (decZ (-(u : Int))) = -(u : Int) := by
      unfold sgnV
      rw [ea, digs_val, decZ_neg (by omega)]; rfl
    simp only [numZ]
    rw [es, ea, if_pos ⟨len_nil' hl.1, hl.2, digs_all u, rfl⟩]
  · obtain ⟨u, rfl⟩ := Int.eq_ofNat_of_zero_le (show 0 ≤ n by omega)
    have hl := digs_lenk 5 u (by omega)
    have hne : (Lib.decDigits u).head? ≠ some 45 := by
      intro hh
      have hm : (45 : UInt8) ∈ Lib.decDigits u := List.mem_of_mem_head? hh
      have := List.all_eq_true.1 (digs_all u) _ hm
      revert this; decide
    have ea : absW (decZ (u : Int)) = Lib.decDigits u := by
      rw [decZ_nat]
      cases hq : Lib.decDigits u with
      | nil => rfl
      | cons c t =>
        rw [hq] at hne
        have : ¬ c = 45 := fun e => hne (by rw [e]; rfl)
        simp only [absW, if_neg this]
    have es : sgnV (decZ (u : Int)) = (u : Int) := by
      unfold sgnV
      rw [ea, digs_val, decZ_nat, if_neg hne]
    simp only [numZ]
    rw [es, ea, if_pos ⟨len_nil' hl.1, hl.2, digs_all u, rfl⟩]
theorem numZ_bad {w : Bs} {p : Nat} {c : UInt8} (h : (absW w)[p]? = some c) (hd : isDg c = false) : numZ w = none := by
  simp only [numZ]
  rw [if_neg]
  rintro ⟨_, _, h3, _⟩
  have := List.all_eq_true.1 h3 c (List.mem_of_getElem? h)
  rw [hd] at this; cases this
theorem numZ_long {w : Bs} (h : 6 < (absW w).length) : numZ w = none := by
  simp only [numZ]
  rw [if_neg]
  rintro ⟨_, h2, _⟩
  omega
theorem numZ_nil {w : Bs} (h : absW w = []) : numZ w = none := by
  simp only [numZ]
  rw [if_neg]
  rintro ⟨h1, _⟩
  exact h1 h
theorem numZ_ne {w : Bs} (h : ¬ decZ (sgnV w) = w) : numZ w = none := by
  simp only [numZ]
  rw [if_neg]
  rintro ⟨_, _, _, h4⟩
  exact h h4
theorem numZ_t {w : Bs} (h0 : ¬ absW w = []) (h1 : (absW w).length ≤ 6) (h2 : ∀ j, j < (absW w).length → ∀ c, (absW w)[j]? = some c → isDg c = true) (h3 : decZ (sgnV w) = w) : numZ w = some (sgnV w) := by
  simp only [numZ]
  have hall : (absW w).all isDg = true := by
    refine List.all_eq_true.2 (fun c hc => ?_)
    obtain ⟨j, hj⟩ := List.mem_iff_getElem?.1 hc
    exact h2 j (List.getElem?_eq_some_iff.1 hj).1 c hj
  rw [if_pos ⟨h0, h1, hall, h3⟩]
theorem dg_f {c : UInt8} (h : c.toNat < 48 ∨ 57 < c.toNat) : isDg c = false := by
  simp only [isDg, Bool.and_eq_false_iff, decide_eq_false_iff_not]
  omega
theorem dg_t {c : UInt8} (h : 48 ≤ c.toNat ∧ c.toNat ≤ 57) : isDg c = true := by
  simp only [isDg, Bool.and_eq_true, decide_eq_true_eq]; omega
theorem len_nil {l : Bs} (h : ¬ l = []) : 1 ≤ l.length := by cases l with
  | nil => exact absurd rfl h
  | cons _ _ => simp

/-! ### Sheets -/

def wRound : Bs := [114, 111, 117, 110, 100]
def wGuard : Bs := [103, 117, 97, 114, 100]
def wRow : Bs := [114, 111, 119]
def rulesB : List Bs := [[100, 111, 119, 110], [117, 112], [110, 101, 97, 114], [101, 118, 101, 110]]
def ruleW (r : Int) : Bs := rulesB.getD (r - 1).toNat []
def lineZ (word : Bs) (n : Int) : Bs := word ++ ([32] ++ decZ n)
def hdZ (s : Sh) : Bs := lineZ wRound s.unit ++ ([32] ++ ruleW s.rule)
def rowsZ (s : Sh) : List Bs := hdZ s :: (s.errs.map (lineZ wGuard) ++ s.rows.map (lineZ wRow))
/-- The last line's text. -/
def endZ (ws : List Bs) (m : Int) : Bs := [101, 110, 100, 32] ++ decZ (chkR ws ws.length % m / 100) ++ decZ (chkR ws ws.length % m / 10 % 10) ++ decZ (chkR ws ws.length % m % 10)
def sealZ (ws : List Bs) (m : Int) : Bs :=
  linesT ws ws.length ++ [101, 110, 100, 32] ++ decZ (chkR ws ws.length % m / 100) ++ decZ (chkR ws ws.length % m / 10 % 10) ++ decZ (chkR ws ws.length % m % 10) ++ [10]
def textZ (s : Sh) : Bs := sealZ (rowsZ s) 239
/-- What can be written. -/
def numsZ (s : Sh) : Prop := okZ s.unit ∧ (1 ≤ s.rule ∧ s.rule ≤ 4) ∧ (∀ n ∈ s.errs, okZ n) ∧ (∀ n ∈ s.rows, okZ n) ∧ s.errs.length + s.rows.length ≤ 900

theorem numsZ_of {s : Sh} (h : isSh s = true) : numsZ s := by
  have h1 := isSh_b h
  refine ⟨by unfold okZ; omega, h1.2.1, fun n hn => ?_, fun n hn => ?_, by omega⟩
  · have := errs_b (isSh_e h) n hn
    unfold okZ; omega
  · have := isSh_r h hn
    unfold okZ; omega
theorem rowsZ_len (s : Sh) : (rowsZ s).length = s.errs.length + s.rows.length + 1 := by simp [rowsZ]
theorem ruleW_len (r : Int) : (ruleW r).length ≤ 4 := by
  simp only [ruleW, rulesB, List.getD]
  rcases (r - 1).toNat with _ | _ | _ | _ | _ <;> simp
theorem lineZ_len (word : Bs) {n : Int} (h : okZ n) : (lineZ word n).length ≤ word.length + 8 := by
  have := decZ_len h
  simp only [lineZ, List.length_append, List.length_cons, List.length_nil]; omega
theorem hdZ_len {s : Sh} (h : okZ s.unit) : (hdZ s).length ≤ 18 := by
  have h1 := lineZ_len wRound h
  have h2 := ruleW_len s.rule
  have h3 : wRound.length = 5 := rfl
  simp only [hdZ, List.length_append, List.length_cons, List.length_nil]; omega
theorem rowsZ_each {s : Sh} (h : numsZ s) : ∀ w ∈ rowsZ s, w.length ≤ 18 := by
  intro w hw
  have h4 : wGuard.length = 5 := rfl
  have h5 : wRow.length = 3 := rfl
  rcases List.mem_cons.1 hw with rfl | hw
  · exact hdZ_len h.1
  · rcases List.mem_append.1 hw with hw | hw
    · obtain ⟨n, hn, rfl⟩ := List.mem_map.1 hw
      have := lineZ_len wGuard (h.2.2.1 n hn); omega
    · obtain ⟨n, hn, rfl⟩ := List.mem_map.1 hw
      have := lineZ_len wRow (h.2.2.2.1 n hn); omega

/-! ### Texts read -/

/-- The rule of a word, 0 if there is none. -/
def ruleN (w : Bs) : Int := idxI (fun y => w == y) rulesB + 1
def stepZ (i : Nat) (l : Bs) (x : Sh) : Option Sh :=
  if i = 0 then
    if (splitL 32 l).length = 3 ∧ rulesB.contains ((splitL 32 l).getD 2 []) = true then
      match numZ ((splitL 32 l).getD 1 []) with
      | some n => if 0 ≤ n then some ⟨n, ruleN ((splitL 32 l).getD 2 []), x.errs, x.rows⟩ else none
      | none => none
    else none
  else if (splitL 32 l).getD 0 [] = wGuard ∧ (splitL 32 l).length = 2 then
    match numZ ((splitL 32 l).getD 1 []) with
    | some n => if 0 ≤ n then some ⟨x.unit, x.rule, x.errs ++ [n], x.rows⟩ else none
    | none => none
  else if (splitL 32 l).getD 0 [] = wRow ∧ (splitL 32 l).length = 2 then
    match numZ ((splitL 32 l).getD 1 []) with
    | some n => some ⟨x.unit, x.rule, x.errs, x.rows ++ [n]⟩
    | none => none
  else none
def sh0 : Sh := ⟨0, 0, [], []⟩
def shK (rows : List Bs) : Nat → Option Sh
  | 0 => some sh0
  | i + 1 => match shK rows i with
    | none => none
    | some x => stepZ i (rows.getD i []) x
theorem shK_succ {rows : List Bs} {i : Nat} {x : Sh} {r : Bs} (hb : shK rows i = some x) (hr : rows[i]? = some r) : shK rows (i + 1) = stepZ i r x := by
  simp [shK, hb, List.getD, hr]
theorem shK_none {rows : List Bs} {i : Nat} (h : shK rows i = none) : ∀ j, i ≤ j → shK rows j = none := by
  intro j hj
  induction j with
  | zero =>
    have : i = 0 := by omega
    rw [this] at h; exact h
  | succ j ih =>
    by_cases hi : i = j + 1
    · rw [← hi]; exact h
    · rw [shK, ih (by omega)]
theorem ruleN_b {w : Bs} (h : rulesB.contains w = true) : 1 ≤ ruleN w ∧ ruleN w ≤ 4 := by
  have h2 : w ∈ rulesB := by simpa using h
  simp only [rulesB, List.mem_cons, List.not_mem_nil, or_false] at h2
  rcases h2 with rfl | rfl | rfl | rfl <;> decide
def shOk (x : Sh) : Prop := (0 ≤ x.unit ∧ x.unit ≤ 999999) ∧ (∀ n ∈ x.errs, 0 ≤ n ∧ n ≤ 999999) ∧ (∀ n ∈ x.rows, okZ n)
theorem step_ok {i : Nat} {l : Bs} {x y : Sh} (h : stepZ i l x = some y) (hx : shOk x) : shOk y ∧ (i = 0 → (1 ≤ y.rule ∧ y.rule ≤ 4) ∧ y.errs = x.errs ∧ y.rows = x.rows) ∧ (i ≠ 0 → y.rule = x.rule ∧ y.errs.length + y.rows.length = x.errs.length + x.rows.length + 1) := by
  have key : ∀ {es : List Int} {P : Int → Prop} {n : Int}, (∀ m ∈ es, P m) → P n → ∀ m ∈ es ++ [n], P m := fun h1 h2 m hm => by
    rcases List.mem_append.1 hm with hm | hm
    · exact h1 m hm
    · rw [List.mem_singleton.1 hm]; exact h2
  simp only [stepZ] at h
  split at h
  · rename_i h0
    split at h
    · rename_i h3
      split at h
      · rename_i n hn
        have hb := (numZ_b hn).1
        unfold okZ at hb
        split at h
        · cases h
          exact ⟨⟨⟨by assumption, hb.2⟩, hx.2⟩, fun _ => ⟨ruleN_b h3.2, rfl, rfl⟩, fun hh => absurd h0 hh⟩
        · cases h
      · cases h
    · cases h
  · rename_i h0
    split at h
    · split at h
      · rename_i n hn
        have hb := (numZ_b hn).1
        unfold okZ at hb
        split at h
        · cases h
          exact ⟨⟨hx.1, key hx.2.1 ⟨by assumption, hb.2⟩, hx.2.2⟩, fun hh => absurd hh h0, fun _ => ⟨rfl, by simp; omega⟩⟩
        · cases h
      · cases h
    · split at h
      · split at h
        · rename_i n hn
          have hb := (numZ_b hn).1
          cases h
          exact ⟨⟨hx.1, hx.2.1, key hx.2.2 hb⟩, fun hh => absurd hh h0, fun _ => ⟨rfl, by simp; omega⟩⟩
        · cases h
      · cases h
theorem shK_ok {rows : List Bs} : ∀ {i : Nat} {x : Sh}, shK rows i = some x → shOk x ∧ (1 ≤ i → 1 ≤ x.rule ∧ x.rule ≤ 4) ∧ x.errs.length + x.rows.length + 1 = max i 1
  | 0, x, h => by
    simp only [shK, Option.some.injEq] at h; subst h
    exact ⟨⟨by decide, fun n hn => by simp [sh0] at hn, fun n hn => by simp [sh0] at hn⟩, fun h => absurd h (by decide), rfl⟩
  | i + 1, x, h => by
    rw [shK] at h
    cases hi : shK rows i with
    | none => rw [hi] at h; cases h
    | some y =>
      rw [hi] at h
      have ih := shK_ok hi
      have hs := step_ok h ih.1
      by_cases h0 : i = 0
      · subst h0
        simp only [shK, Option.some.injEq] at hi; subst hi
        have h2 := hs.2.1 rfl
        refine ⟨hs.1, fun _ => h2.1, ?_⟩
        rw [h2.2.1, h2.2.2]; rfl
      · have h2 := hs.2.2 h0
        have h3 := ih.2.1 (by omega)
        have h4 := ih.2.2
        refine ⟨hs.1, fun _ => by rw [h2.1]; exact h3, by omega⟩
theorem nums_of {rows : List Bs} {i : Nat} {x : Sh} (h : shK rows i = some x) (h1 : 1 ≤ i) (h2 : i ≤ 900) : numsZ x := by
  have h3 := shK_ok h
  have h4 := h3.1
  refine ⟨by have := h4.1; unfold okZ; omega, h3.2.1 h1, fun n hn => by have := h4.2.1 n hn; unfold okZ; omega, h4.2.2, by omega⟩
def parseZ (s : Bs) : Option Sh :=
  if 3 ≤ (splitL 10 s).length then match shK (splitL 10 s) ((splitL 10 s).length - 2) with
    | none => none
    | some x => if textZ x = s then some x else none
  else none
def roundRead (s : Bs) : Sh × Int :=
  if 150 < s.length then (sh0, 3) else match parseZ s with
    | none => (sh0, 4)
    | some x => if isSh x then (x, 0) else (sh0, 2)
theorem parse_short {s : Bs} (h : (splitL 10 s).length < 3) : parseZ s = none := by
  simp only [parseZ]; rw [if_neg (by omega)]
theorem parse_none {s : Bs} {i : Nat} {b : Sh} {r : Bs} (h3 : 3 ≤ (splitL 10 s).length) (hb : shK (splitL 10 s) i = some b) (hr : (splitL 10 s)[i]? = some r) (hi : i < (splitL 10 s).length - 2) (hn : stepZ i r b = none) : parseZ s = none := by
  simp only [parseZ]
  rw [if_pos h3, shK_none (i := i + 1) (by rw [shK_succ hb hr, hn]) _ (by omega)]
theorem parse_ne {s : Bs} {b : Sh} (h3 : 3 ≤ (splitL 10 s).length) (hb : shK (splitL 10 s) ((splitL 10 s).length - 2) = some b) (hn : ¬ textZ b = s) : parseZ s = none := by
  simp only [parseZ]
  rw [if_pos h3, hb]
  exact if_neg hn
theorem parse_t {s : Bs} {b : Sh} (h3 : 3 ≤ (splitL 10 s).length) (hb : shK (splitL 10 s) ((splitL 10 s).length - 2) = some b) (hn : textZ b = s) : parseZ s = some b := by
  simp only [parseZ]
  rw [if_pos h3, hb]
  exact if_pos hn
theorem splitL_each (c : UInt8) : ∀ {s r : Bs}, r ∈ splitL c s → r.length ≤ s.length
  | [], r, h => by simp [splitL] at h; subst h; exact Nat.le_refl _
  | x :: xs, r, h => by
    simp only [splitL] at h
    split at h
    · rcases List.mem_cons.1 h with rfl | h
      · exact Nat.zero_le _
      · have := splitL_each c h; simp; omega
    · split at h
      · simp at h; subst h; simp
      · rename_i w ws he
        rcases List.mem_cons.1 h with rfl | h
        · have := splitL_each c (s := xs) (r := w) (by rw [he]; exact List.mem_cons_self ..)
          simp; omega
        · have := splitL_each c (s := xs) (r := r) (by rw [he]; exact List.mem_cons_of_mem _ h)
          simp; omega
/-! The steps -/
theorem step_0f {r : Bs} {b : Sh} (h : ¬ ((splitL 32 r).length = 3 ∧ rulesB.contains ((splitL 32 r).getD 2 []) = true)) : stepZ 0 r b = none := by simp only [stepZ, if_true, if_neg h]
theorem step_0n {r : Bs} {b : Sh} (h : numZ ((splitL 32 r).getD 1 []) = none) : stepZ 0 r b = none := by
  simp only [stepZ, if_true, h]; split <;> rfl
theorem step_0m {r : Bs} {b : Sh} {n : Int} (h : numZ ((splitL 32 r).getD 1 []) = some n) (hn : n < 0) : stepZ 0 r b = none := by
  simp only [stepZ, if_true, h, if_neg (show ¬ 0 ≤ n by omega)]; split <;> rfl
theorem step_0t {r : Bs} {b : Sh} {n : Int} (h3 : (splitL 32 r).length = 3 ∧ rulesB.contains ((splitL 32 r).getD 2 []) = true) (h : numZ ((splitL 32 r).getD 1 []) = some n) (hn : 0 ≤ n) : stepZ 0 r b = some ⟨n, ruleN ((splitL 32 r).getD 2 []), b.errs, b.rows⟩ := by
  simp only [stepZ, if_true, if_pos h3, h, if_pos hn]
theorem step_gn {i : Nat} {r : Bs} {b : Sh} (hi : ¬ i = 0) (hg : (splitL 32 r).getD 0 [] = wGuard ∧ (splitL 32 r).length = 2) (h : numZ ((splitL 32 r).getD 1 []) = none) : stepZ i r b = none := by
  simp only [stepZ, if_neg hi, if_pos hg, h]
theorem step_gm {i : Nat} {r : Bs} {b : Sh} {n : Int} (hi : ¬ i = 0) (hg : (splitL 32 r).getD 0 [] = wGuard ∧ (splitL 32 r).length = 2) (h : numZ ((splitL 32 r).getD 1 []) = some n) (hn : n < 0) : stepZ i r b = none := by
  simp only [stepZ, if_neg hi, if_pos hg, h, if_neg (show ¬ 0 ≤ n by omega)]
theorem step_gt {i : Nat} {r : Bs} {b : Sh} {n : Int} (hi : ¬ i = 0) (hg : (splitL 32 r).getD 0 [] = wGuard ∧ (splitL 32 r).length = 2) (h : numZ ((splitL 32 r).getD 1 []) = some n) (hn : 0 ≤ n) : stepZ i r b = some ⟨b.unit, b.rule, b.errs ++ [n], b.rows⟩ := by
  simp only [stepZ, if_neg hi, if_pos hg, h, if_pos hn]
theorem guard_row : wGuard ≠ wRow := by decide
theorem step_rn {i : Nat} {r : Bs} {b : Sh} (hi : ¬ i = 0) (hg : (splitL 32 r).getD 0 [] = wRow ∧ (splitL 32 r).length = 2) (h : numZ ((splitL 32 r).getD 1 []) = none) : stepZ i r b = none := by
  simp only [stepZ, if_neg hi, if_pos hg, h, if_neg (show ¬ ((splitL 32 r).getD 0 [] = wGuard ∧ (splitL 32 r).length = 2) from fun hh => guard_row (hh.1.symm.trans hg.1))]
theorem step_rt {i : Nat} {r : Bs} {b : Sh} {n : Int} (hi : ¬ i = 0) (hg : (splitL 32 r).getD 0 [] = wRow ∧ (splitL 32 r).length = 2) (h : numZ ((splitL 32 r).getD 1 []) = some n) : stepZ i r b = some ⟨b.unit, b.rule, b.errs, b.rows ++ [n]⟩ := by
  simp only [stepZ, if_neg hi, if_pos hg, h, if_neg (show ¬ ((splitL 32 r).getD 0 [] = wGuard ∧ (splitL 32 r).length = 2) from fun hh => guard_row (hh.1.symm.trans hg.1))]
theorem step_f {i : Nat} {r : Bs} {b : Sh} (hi : ¬ i = 0) (hg : ¬ ((splitL 32 r).getD 0 [] = wGuard ∧ (splitL 32 r).length = 2)) (hr : ¬ ((splitL 32 r).getD 0 [] = wRow ∧ (splitL 32 r).length = 2)) : stepZ i r b = none := by
  simp only [stepZ, if_neg hi, if_neg hg, if_neg hr]

/-! ### What is printed is read as it was -/

theorem rule_no : ∀ {r : Int}, 1 ≤ r ∧ r ≤ 4 → (∀ x ∈ ruleW r, x ≠ 32 ∧ x ≠ 10) ∧ rulesB.contains (ruleW r) = true ∧ ruleN (ruleW r) = r := by
  intro r h
  obtain rfl | rfl | rfl | rfl : r = 1 ∨ r = 2 ∨ r = 3 ∨ r = 4 := by omega
  all_goals exact ⟨by decide, by decide, by decide⟩
theorem line_split {word : Bs} (hw : ∀ x ∈ word, x ≠ 32) (n : Int) : splitL 32 (lineZ word n) = [word, decZ n] := by
  rw [lineZ, show word ++ ([32] ++ decZ n) = word ++ 32 :: decZ n from rfl, split_app hw, split_none (decZ_no n).1]
theorem hd_split {s : Sh} (hr : 1 ≤ s.rule ∧ s.rule ≤ 4) : splitL 32 (hdZ s) = [wRound, decZ s.unit, ruleW s.rule] := by
  have e : hdZ s = wRound ++ 32 :: (decZ s.unit ++ 32 :: ruleW s.rule) := by simp [hdZ, lineZ]
  rw [e, split_app (by decide), split_app (decZ_no _).1, split_none (fun x hx => ((rule_no hr).1 x hx).1)]
theorem line_no {word : Bs} (hw : ∀ x ∈ word, x ≠ 10) (n : Int) : ∀ x ∈ lineZ word n, x ≠ 10 := by
  intro x hx
  simp only [lineZ, List.mem_append, List.mem_singleton] at hx
  rcases hx with hx | rfl | hx
  · exact hw x hx
  · decide
  · exact (decZ_no n).2 x hx
theorem rows_no {s : Sh} (h : numsZ s) : ∀ w ∈ rowsZ s, ∀ x ∈ w, x ≠ 10 := by
  intro w hw
  rcases List.mem_cons.1 hw with rfl | hw
  · intro x hx
    simp only [hdZ, List.mem_append, List.mem_singleton] at hx
    rcases hx with hx | rfl | hx
    · exact line_no (by decide) _ x hx
    · decide
    · exact ((rule_no h.2.1).1 x hx).2
  · rcases List.mem_append.1 hw with hw | hw
    · obtain ⟨n, _, rfl⟩ := List.mem_map.1 hw
      exact line_no (by decide) _
    · obtain ⟨n, _, rfl⟩ := List.mem_map.1 hw
      exact line_no (by decide) _
theorem seal_eq (ws : List Bs) (m : Int) : sealZ ws m = linesT ws ws.length ++ (endZ ws m ++ [10]) := by simp [sealZ, endZ]
theorem end_no (ws : List Bs) (m : Int) (x : UInt8) (hx : x ∈ endZ ws m) : x ≠ 10 := by
  simp only [endZ, List.mem_append] at hx
  rcases hx with ((hx | hx) | hx) | hx
  · simp only [List.mem_cons, List.not_mem_nil, or_false] at hx
    rcases hx with rfl | rfl | rfl | rfl <;> decide
  · exact (decZ_no _).2 x hx
  · exact (decZ_no _).2 x hx
  · exact (decZ_no _).2 x hx
theorem seal_split {ws : List Bs} {m : Int} (hw : ∀ w ∈ ws, ∀ x ∈ w, x ≠ 10) : splitL 10 (sealZ ws m) = ws ++ [endZ ws m, []] := by
  rw [seal_eq, lines_split hw _ (Nat.le_refl _), List.take_length, show endZ ws m ++ [10] = endZ ws m ++ 10 :: [] from rfl, split_app (end_no ws m)]
  rfl
theorem sh_rt1 {s : Sh} (hn : numsZ s) (h0 : 0 ≤ s.unit) (he : ∀ n ∈ s.errs, 0 ≤ n) (tl : List Bs) : ∀ k, k ≤ s.errs.length → shK (rowsZ s ++ tl) (k + 1) = some ⟨s.unit, s.rule, s.errs.take k, []⟩
  | 0, _ => by
    have h1 : (rowsZ s ++ tl)[0]? = some (hdZ s) := rfl
    have hr := rule_no hn.2.1
    rw [shK_succ (x := sh0) rfl h1, step_0t (n := s.unit) (by rw [hd_split hn.2.1]; exact ⟨rfl, hr.2.1⟩) (by rw [hd_split hn.2.1]; exact numZ_rt hn.1) h0, hd_split hn.2.1]
    show some (⟨s.unit, ruleN (ruleW s.rule), [], []⟩ : Sh) = _
    rw [hr.2.2]; rfl
  | k + 1, hk => by
    obtain ⟨n, hnk⟩ := some_get (xs := s.errs) (k := k) (by omega)
    have h1 : (rowsZ s ++ tl)[k + 1]? = some (lineZ wGuard n) := by
      simp only [rowsZ, List.cons_append, List.getElem?_cons_succ]
      rw [List.append_assoc, List.getElem?_append_left (by simp; omega), List.getElem?_map, hnk]; rfl
    have hm := List.mem_of_getElem? hnk
    rw [shK_succ (sh_rt1 hn h0 he tl k (by omega)) h1, step_gt (n := n) (by omega) (by rw [line_split (by decide)]; exact ⟨rfl, rfl⟩) (by rw [line_split (by decide)]; exact numZ_rt (hn.2.2.1 n hm)) (he n hm), take_snoc hnk]
theorem sh_rt2 {s : Sh} (hn : numsZ s) (h0 : 0 ≤ s.unit) (he : ∀ n ∈ s.errs, 0 ≤ n) (tl : List Bs) : ∀ k, k ≤ s.rows.length → shK (rowsZ s ++ tl) (s.errs.length + k + 1) = some ⟨s.unit, s.rule, s.errs, s.rows.take k⟩
  | 0, _ => by
    have := sh_rt1 hn h0 he tl s.errs.length (Nat.le_refl _)
    rw [List.take_length] at this
    exact this
  | k + 1, hk => by
    obtain ⟨n, hnk⟩ := some_get (xs := s.rows) (k := k) (by omega)
    have h1 : (rowsZ s ++ tl)[s.errs.length + k + 1]? = some (lineZ wRow n) := by
      simp only [rowsZ, List.cons_append, List.getElem?_cons_succ]
      rw [List.append_assoc, List.getElem?_append_right (by simp), List.length_map, show s.errs.length + k - s.errs.length = k by omega, List.getElem?_append_left (by simp; omega), List.getElem?_map, hnk]; rfl
    have hm := List.mem_of_getElem? hnk
    rw [show s.errs.length + (k + 1) + 1 = (s.errs.length + k + 1) + 1 from rfl, shK_succ (sh_rt2 hn h0 he tl k (by omega)) h1, step_rt (n := n) (by omega) (by rw [line_split (by decide)]; exact ⟨rfl, rfl⟩) (by rw [line_split (by decide)]; exact numZ_rt (hn.2.2.2.1 n hm)), take_snoc hnk]
theorem text_split {s : Sh} (hn : numsZ s) : splitL 10 (textZ s) = rowsZ s ++ [endZ (rowsZ s) 239, []] := seal_split (rows_no hn)
theorem parse_rt {s : Sh} (hn : numsZ s) (h0 : 0 ≤ s.unit) (he : ∀ n ∈ s.errs, 0 ≤ n) : parseZ (textZ s) = some s := by
  have hs := text_split hn
  have hl : (rowsZ s ++ [endZ (rowsZ s) 239, []]).length = s.errs.length + s.rows.length + 3 := by simp [rowsZ_len]
  have h3 := sh_rt2 hn h0 he [endZ (rowsZ s) 239, []] s.rows.length (Nat.le_refl _)
  rw [List.take_length] at h3
  by_cases hz : s.errs.length + s.rows.length = 0
  · refine parse_t (by rw [hs, hl]; omega) ?_ rfl
    rw [hs, hl, show s.errs.length + s.rows.length + 3 - 2 = s.errs.length + s.rows.length + 1 by omega]
    exact h3
  · refine parse_t (by rw [hs, hl]; omega) ?_ rfl
    rw [hs, hl, show s.errs.length + s.rows.length + 3 - 2 = s.errs.length + s.rows.length + 1 by omega]
    exact h3
/-! ### How long it is -/
theorem text_le {s : Sh} (hs : isSh s = true) : (textZ s).length ≤ 150 := by
  have hb := isSh_b hs
  have hn := numsZ_of hs
  have h1 : (hdZ s).length ≤ 15 := by
    have e1 := (decZ_le (n := s.unit) (k := 3) (by omega)).2 (by omega)
    have e2 := ruleW_len s.rule
    simp only [hdZ, lineZ, wRound, List.length_append, List.length_cons, List.length_nil]; omega
  have h2 : ∀ n ∈ s.errs, (lineZ wGuard n).length ≤ 11 := by
    intro n hm
    have h3 := errs_b (isSh_e hs) n hm
    have e1 := (decZ_le (n := n) (k := 0) (by omega)).2 (by omega)
    simp only [lineZ, wGuard, List.length_append, List.length_cons, List.length_nil]; omega
  have h3 : ∀ n ∈ s.rows, (lineZ wRow n).length ≤ 11 := by
    intro n hm
    have h3 := isSh_r hs hm
    have e1 := (decZ_le (n := n) (k := 5) (by omega)).1
    simp only [lineZ, wRow, List.length_append, List.length_cons, List.length_nil]; omega
  have h4 : (linesT (rowsZ s) (rowsZ s).length).length ≤ 16 + 12 * (s.errs.length + s.rows.length) := by
    have key : ∀ k, k ≤ s.errs.length + s.rows.length → (linesT (rowsZ s) (k + 1)).length ≤ 16 + 12 * k := by
      intro k
      induction k with
      | zero => intro _; simp only [linesT, rowsZ, List.getD_cons_zero, List.nil_append, List.length_append, List.length_cons, List.length_nil]; omega
      | succ k ih =>
        intro hk
        have ih := ih (by omega)
        obtain ⟨w, hw⟩ := some_get (xs := rowsZ s) (k := k + 1) (by rw [rowsZ_len]; omega)
        have hwl : w.length ≤ 11 := by
          simp only [rowsZ, List.getElem?_cons_succ] at hw
          rcases List.mem_append.1 (List.mem_of_getElem? hw) with hw | hw
          · obtain ⟨n, hn, rfl⟩ := List.mem_map.1 hw
            exact h2 n hn
          · obtain ⟨n, hn, rfl⟩ := List.mem_map.1 hw
            exact h3 n hn
        rw [linesT_succ hw]
        simp only [List.length_append, List.length_cons, List.length_nil]; omega
    rw [rowsZ_len]; exact key _ (Nat.le_refl _)
  have h5 := Int.emod_nonneg (chkR (rowsZ s) (rowsZ s).length) (show (239 : Int) ≠ 0 by decide)
  have h6 := Int.emod_lt_of_pos (chkR (rowsZ s) (rowsZ s).length) (show (0 : Int) < 239 by decide)
  rw [textZ, seal_eq]
  simp only [endZ]
  rw [decZ_one (n := chkR (rowsZ s) (rowsZ s).length % 239 / 100) (by omega), decZ_one (n := chkR (rowsZ s) (rowsZ s).length % 239 / 10 % 10) (by omega), decZ_one (n := chkR (rowsZ s) (rowsZ s).length % 239 % 10) (by omega)]
  simp only [List.length_append, List.length_cons, List.length_nil]
  omega
theorem isSh_pos {s : Sh} (hs : isSh s = true) : 0 ≤ s.unit ∧ ∀ n ∈ s.errs, 0 ≤ n := ⟨by have := isSh_b hs; omega, fun n hn => (errs_b (isSh_e hs) n hn).1⟩
theorem read_rt {s : Sh} (hs : isSh s = true) : roundRead (textZ s) = (s, 0) := by
  have h1 := text_le hs
  rw [roundRead, if_neg (by omega), parse_rt (numsZ_of hs) (isSh_pos hs).1 (isSh_pos hs).2]
  simp [hs]
/-! ### A text with one digit changed is no printed one -/
def noDiv : Bool := (List.range 10).all fun e => (List.range 20).all fun k => (List.range 13).all fun i => e == 0 || k == 0 || i == 0 || !((e * k * i) % 239 == 0)
theorem noDiv_t : noDiv = true := by kernel_rfl
theorem no_div {e k i : Nat} (he : 1 ≤ e ∧ e ≤ 9) (hk : k < 18) (hi : i < 12) : (e * (k + 1) * (i + 1)) % 239 ≠ 0 := by
  have h1 := List.all_eq_true.1 noDiv_t e (List.mem_range.2 (by omega))
  have h2 := List.all_eq_true.1 h1 (k + 1) (List.mem_range.2 (by omega))
  have h3 := List.all_eq_true.1 h2 (i + 1) (List.mem_range.2 (by omega))
  have h4 : (e == 0) = false := by simp; omega
  simp [h4] at h3
  omega
theorem no_divI {x : Int} {k i : Nat} (hx : x ≠ 0) (hb : -9 ≤ x ∧ x ≤ 9) (hk : k < 18) (hi : i < 12) : ¬ (239 : Int) ∣ x * ((k : Int) + 1) * ((i : Int) + 1) := by
  have key : ∀ e : Nat, 1 ≤ e ∧ e ≤ 9 → ¬ (239 : Int) ∣ (e : Int) * ((k : Int) + 1) * ((i : Int) + 1) := by
    intro e he hd
    have h1 : ((e * (k + 1) * (i + 1) : Nat) : Int) = (e : Int) * ((k : Int) + 1) * ((i : Int) + 1) := by
      rw [Int.natCast_mul, Int.natCast_mul, Int.natCast_add, Int.natCast_add]; rfl
    rw [← h1] at hd
    have h2 : (239 : Nat) ∣ e * (k + 1) * (i + 1) := Int.natCast_dvd_natCast.1 hd
    exact no_div he hk hi (Nat.mod_eq_zero_of_dvd h2)
  rcases Int.lt_trichotomy x 0 with h | h | h
  · obtain ⟨e, he⟩ := Int.eq_ofNat_of_zero_le (show 0 ≤ -x by omega)
    intro hd
    refine key e (by omega) ?_
    rw [← he, Int.neg_mul, Int.neg_mul]
    exact Int.dvd_neg.2 hd
  · exact absurd h hx
  · obtain ⟨e, he⟩ := Int.eq_ofNat_of_zero_le (show 0 ≤ x by omega)
    rw [he]
    exact key e (by omega)
theorem dg1_all : (List.range 10).all (fun k => (48 + (k : Int)) == (((dg1 (k : Int)).toNat : Nat) : Int) && isDg (dg1 (k : Int))) = true := by kernel_rfl
theorem dg1_val {d : Int} (h : 0 ≤ d ∧ d ≤ 9) : 48 + d = (((dg1 d).toNat : Nat) : Int) ∧ isDg (dg1 d) = true := by
  obtain ⟨k, rfl⟩ := Int.eq_ofNat_of_zero_le h.1
  have h1 := List.all_eq_true.1 dg1_all k (List.mem_range.2 (by omega))
  simpa using h1
theorem dg1_inj {a b : Int} (ha : 0 ≤ a ∧ a ≤ 9) (hb : 0 ≤ b ∧ b ≤ 9) (h : dg1 a = dg1 b) : a = b := by
  have h1 := (dg1_val ha).1
  have h2 := (dg1_val hb).1
  rw [h] at h1; omega
theorem end_inj {ws ws' : List Bs} (h : endZ ws 239 = endZ ws' 239) : chkR ws ws.length % 239 = chkR ws' ws'.length % 239 := by
  have a1 := Int.emod_nonneg (chkR ws ws.length) (show (239 : Int) ≠ 0 by decide)
  have a2 := Int.emod_lt_of_pos (chkR ws ws.length) (show (0 : Int) < 239 by decide)
  have b1 := Int.emod_nonneg (chkR ws' ws'.length) (show (239 : Int) ≠ 0 by decide)
  have b2 := Int.emod_lt_of_pos (chkR ws' ws'.length) (show (0 : Int) < 239 by decide)
  simp only [endZ] at h
  generalize chkR ws ws.length % 239 = r at *
  generalize chkR ws' ws'.length % 239 = q at *
  rw [decZ_one (n := r / 100) (by omega), decZ_one (n := r / 10 % 10) (by omega), decZ_one (n := r % 10) (by omega), decZ_one (n := q / 100) (by omega), decZ_one (n := q / 10 % 10) (by omega), decZ_one (n := q % 10) (by omega)] at h
  simp only [List.cons_append, List.nil_append, List.cons.injEq, and_true, true_and] at h
  have c1 := dg1_inj (by omega) (by omega) h.1
  have c2 := dg1_inj (by omega) (by omega) h.2.1
  have c3 := dg1_inj (by omega) (by omega) h.2.2
  omega
theorem parse_ok {tx : Bs} {b : Sh} (hl : tx.length ≤ 500) (h : parseZ tx = some b) : textZ b = tx ∧ numsZ b ∧ shOk b := by
  have hsl := splitL_len 10 tx
  simp only [parseZ] at h
  split at h
  · split at h
    · cases h
    · rename_i b0 hk
      split at h
      · rename_i he
        cases h
        exact ⟨he, nums_of hk (by omega) (by omega), (shK_ok hk).1⟩
      · cases h
  · cases h
theorem spoilt {b : Sh} (hb : isSh b = true) {p : Nat} {ch : UInt8} (hp : (textZ b)[p]? = some ch) (hd : isDg ch = true) {d : Int} (h : 0 ≤ d ∧ d ≤ 9) (hne : dg1 d ≠ ch) : roundRead ((textZ b).set p (dg1 d)) = (sh0, 4) := by
  have hlen := text_le hb
  have hn := numsZ_of hb
  have hbb := isSh_b hb
  have hpn : parseZ ((textZ b).set p (dg1 d)) = none := by
    cases hq : parseZ ((textZ b).set p (dg1 d)) with
    | none => rfl
    | some b' =>
      exfalso
      obtain ⟨ht, hn', _⟩ := parse_ok (by rw [List.length_set]; omega) hq
      have hs := text_split hn
      have hs' := text_split hn'
      obtain ⟨i, k, w, h1, h2, h3⟩ := split_set (c := 10) (c' := dg1 d) (dg_ne (dg1_val h).2).2 (textZ b) p ch hp (dg_ne hd).2
      rw [← ht, hs', hs] at h3
      rw [hs] at h1
      have hll := congrArg List.length h3
      simp only [List.length_set, List.length_append, List.length_cons, List.length_nil] at hll
      have hl : (rowsZ b').length = (rowsZ b).length := by omega
      have hin := (List.getElem?_eq_some_iff.1 h1).1
      simp only [List.length_append, List.length_cons, List.length_nil] at hin
      by_cases hi : i < (rowsZ b).length
      · rw [List.set_append_left _ _ hi] at h3
        obtain ⟨e1, e2⟩ := List.append_inj h3 (by rw [List.length_set]; exact hl)
        have e3 : endZ (rowsZ b') 239 = endZ (rowsZ b) 239 := by simpa using e2
        have e4 := end_inj e3
        have hw : (rowsZ b)[i]? = some w := by rw [List.getElem?_append_left hi] at h1; exact h1
        have hwl := rowsZ_each hn w (List.mem_of_getElem? hw)
        have hkl := (List.getElem?_eq_some_iff.1 h2).1
        rw [e1, List.length_set, chkR_set hw (by rw [List.length_set]), if_pos hi, chkC_set h2, if_pos hkl] at e4
        have hdv : (239 : Int) ∣ ((((dg1 d).toNat : Nat) : Int) - ((ch.toNat : Nat) : Int)) * ((k : Int) + 1) * ((i : Int) + 1) := by
          generalize ((((dg1 d).toNat : Nat) : Int) - ((ch.toNat : Nat) : Int)) * ((k : Int) + 1) * ((i : Int) + 1) = z at *
          omega
        have hr : i < 12 := by rw [rowsZ_len] at hi; omega
        have g1 : isDg (dg1 d) = true := (dg1_val h).2
        simp only [isDg, Bool.and_eq_true, decide_eq_true_eq] at g1 hd
        exact no_divI (fun hz => hne (UInt8.toNat_inj.1 (by omega))) (by omega) (by omega) hr hdv
      · rw [List.set_append_right _ _ (by omega)] at h3
        obtain ⟨e1, e2⟩ := List.append_inj h3 hl
        rw [List.getElem?_append_right (by omega)] at h1
        obtain hi2 | hi2 : i - (rowsZ b).length = 0 ∨ i - (rowsZ b).length = 1 := by omega
        · rw [hi2] at h1 e2
          simp at h1
          subst h1
          have e3 : endZ (rowsZ b') 239 = (endZ (rowsZ b) 239).set k (dg1 d) := by simpa using e2
          rw [e1] at e3
          have hk := (List.getElem?_eq_some_iff.1 h2).1
          have e4 : (endZ (rowsZ b) 239)[k]? = some (dg1 d) := by rw [e3]; simp [hk]
          rw [h2] at e4
          exact hne (Option.some.inj e4).symm
        · rw [hi2] at h1
          simp at h1
          subst h1
          simp at h2
  rw [roundRead, if_neg (by rw [List.length_set]; omega), hpn]
/-! ### Where a text is split -/
theorem split_hit {c : UInt8} {s : Bs} {fr i : Nat} {ch : UInt8} (hi : s[i]? = some ch) (hc : ch = c) (hf : fr ≤ i) (hn : ∀ x ∈ (s.drop fr).take (i - fr), x ≠ c) : splitL c (s.drop fr) = (s.drop fr).take (i - fr) :: splitL c (s.drop (i + 1)) := by
  subst hc
  have hlt := (List.getElem?_eq_some_iff.1 hi)
  obtain ⟨h1, h2⟩ := hlt
  have e : s.drop fr = (s.drop fr).take (i - fr) ++ ch :: s.drop (i + 1) := by
    have h3 : s.drop i = ch :: s.drop (i + 1) := by rw [List.drop_eq_getElem_cons h1, h2]
    rw [← h3]
    have h4 : s.drop i = (s.drop fr).drop (i - fr) := by rw [List.drop_drop]; congr 1; omega
    rw [h4, List.take_append_drop]
  have := split_app hn (s.drop (i + 1))
  rw [← e] at this
  exact this
theorem take_more {s : Bs} {fr i : Nat} {ch c : UInt8} (hi : s[i]? = some ch) (hc : ch ≠ c) (hf : fr ≤ i) (hn : ∀ x ∈ (s.drop fr).take (i - fr), x ≠ c) : ∀ x ∈ (s.drop fr).take (i + 1 - fr), x ≠ c := by
  have h1 : (s.drop fr)[i - fr]? = some ch := by rw [List.getElem?_drop, show fr + (i - fr) = i from by omega]; exact hi
  rw [show i + 1 - fr = (i - fr) + 1 from by omega, take_snoc h1]
  intro x hx
  rcases List.mem_append.1 hx with hx | hx
  · exact hn x hx
  · simp only [List.mem_singleton] at hx; subst hx; exact hc
theorem u8_eq {a b : UInt8} (h : ((a.toNat : Nat) : Int) = ((b.toNat : Nat) : Int)) : a = b := UInt8.toNat_inj.1 (by omega)
theorem u8_ne {a b : UInt8} (h : ¬ ((a.toNat : Nat) : Int) = ((b.toNat : Nat) : Int)) : a ≠ b := fun e => h (by rw [e])
/-! ### The lists of numbers in words -/
def numsL : List Bs → Option (List Int)
  | [] => some []
  | w :: ws => match numZ w with
    | none => none
    | some n => match numsL ws with
      | none => none
      | some ns => some (n :: ns)
theorem numsL_snoc : ∀ (ws : List Bs) (w : Bs), numsL (ws ++ [w]) = match numsL ws with
    | none => none
    | some ns => match numZ w with
      | none => none
      | some n => some (ns ++ [n])
  | [], w => by simp only [List.nil_append, numsL]
  | v :: ws, w => by
    rw [List.cons_append, numsL, numsL_snoc ws w, numsL]
    cases numZ v with
    | none => rfl
    | some n =>
      cases numsL ws with
      | none => rfl
      | some ns => cases numZ w <;> rfl
theorem numsL_none : ∀ {ws : List Bs} {w : Bs} {k : Nat}, ws[k]? = some w → numZ w = none → numsL ws = none
  | v :: ws, w, 0, h, hn => by simp at h; subst h; simp [numsL, hn]
  | v :: ws, w, k + 1, h, hn => by
    rw [numsL, numsL_none (by simpa using h) hn]
    cases numZ v <;> rfl
theorem numsL_b : ∀ {ws : List Bs} {ns : List Int}, numsL ws = some ns → ns.length = ws.length ∧ ∀ n ∈ ns, okZ n
  | [], ns, h => by simp [numsL] at h; subst h; simp
  | v :: ws, ns, h => by
    rw [numsL] at h
    cases hv : numZ v with
    | none => rw [hv] at h; cases h
    | some n =>
      rw [hv] at h
      cases hw : numsL ws with
      | none => rw [hw] at h; cases h
      | some us =>
        rw [hw] at h
        cases h
        obtain ⟨h1, h2⟩ := numsL_b hw
        refine ⟨by simp [h1], fun n hn => ?_⟩
        rcases List.mem_cons.1 hn with rfl | hn
        · exact (numZ_b hv).1
        · exact h2 n hn
end Go.Proofs


namespace Go.Proofs
open Go.Shelf
def Tryz.laysM171_ren : Go.Shelf.Ren := ⟨fun | 171 => 126 | 243 => 132 | 246 => 138 | 283 => 144 | 284 => 145 | 285 => 146 | 286 => 147 | 129 => 151 | 317 => 150 | 318 => 152 | 319 => 153 | 320 => 154 | 337 => 155 | 338 => 156 | n => n, fun | 3 => 3 | 9 => 9 | 2 => 2 | 4 => 4 | 171 => 162 | 0 => 0 | 53 => 163 | 37 => 153 | 5 => 5 | 173 => 166 | 212 => 176 | 51 => 172 | 20 => 20 | 213 => 177 | 46 => 161 | 232 => 180 | 233 => 181 | n => n, fun | 17 => 3 | 18 => 4 | 19 => 5 | n => n⟩
theorem Tryz.laysM171 : Go.Proofs.LaysM.n171 Tryz.prog Tryz.laysM171_ren := {
  mixed := by kernel_rfl
  f129 := Tryz.func151.trans (congrArg some (by kernel_rfl))
  f171 := Tryz.func126.trans (congrArg some (by kernel_rfl))
  f243 := Tryz.func132.trans (congrArg some (by kernel_rfl))
  f246 := Tryz.func138.trans (congrArg some (by kernel_rfl))
  f283 := Tryz.func144.trans (congrArg some (by kernel_rfl))
  f284 := Tryz.func145.trans (congrArg some (by kernel_rfl))
  f285 := Tryz.func146.trans (congrArg some (by kernel_rfl))
  f286 := Tryz.func147.trans (congrArg some (by kernel_rfl))
  f317 := Tryz.func150.trans (congrArg some (by kernel_rfl))
  f318 := Tryz.func152.trans (congrArg some (by kernel_rfl))
  f319 := Tryz.func153.trans (congrArg some (by kernel_rfl))
  f320 := Tryz.func154.trans (congrArg some (by kernel_rfl))
  f337 := Tryz.func155.trans (congrArg some (by kernel_rfl))
  f338 := Tryz.func156.trans (congrArg some (by kernel_rfl))
  t0 := Tryz.underlying0
  a0 := Tryz.isAgg0
  z0 := Tryz.sizeOf0
  v0 := Tryz.zeroValue0
  t2 := Tryz.underlying2
  a2 := Tryz.isAgg2
  z2 := Tryz.sizeOf2
  v2 := Tryz.zeroValue2
  t3 := Tryz.underlying3
  a3 := Tryz.isAgg3
  z3 := Tryz.sizeOf3
  v3 := Tryz.zeroValue3
  t4 := Tryz.underlying4
  a4 := Tryz.isAgg4
  z4 := Tryz.sizeOf4
  v4 := Tryz.zeroValue4
  t5 := Tryz.underlying5
  a5 := Tryz.isAgg5
  z5 := Tryz.sizeOf5
  v5 := Tryz.zeroValue5
  t9 := Tryz.underlying9
  a9 := Tryz.isAgg9
  z9 := Tryz.sizeOf9
  v9 := Tryz.zeroValue9
  t20 := Tryz.underlying20
  a20 := Tryz.isAgg20
  z20 := Tryz.sizeOf20
  v20 := Tryz.zeroValue20
  t37 := Tryz.underlying153
  a37 := Tryz.isAgg153
  z37 := Tryz.sizeOf153
  v37 := Tryz.zeroValue153
  t46 := Tryz.underlying161
  a46 := Tryz.isAgg161
  z46 := Tryz.sizeOf161
  v46 := Tryz.zeroValue161
  t51 := Tryz.underlying172
  a51 := Tryz.isAgg172
  z51 := Tryz.sizeOf172
  v51 := Tryz.zeroValue172
  t53 := Tryz.underlying163
  a53 := Tryz.isAgg163
  z53 := Tryz.sizeOf163
  v53 := Tryz.zeroValue163
  t171 := Tryz.underlying162
  a171 := Tryz.isAgg162
  z171 := Tryz.sizeOf162
  v171 := Tryz.zeroValue162
  t173 := Tryz.underlying166
  a173 := Tryz.isAgg166
  z173 := Tryz.sizeOf166
  v173 := Tryz.zeroValue166
  t212 := Tryz.underlying176
  a212 := Tryz.isAgg176
  z212 := Tryz.sizeOf176
  v212 := Tryz.zeroValue176
  t213 := Tryz.underlying177
  a213 := Tryz.isAgg177
  z213 := Tryz.sizeOf177
  t232 := Tryz.underlying180
  a232 := Tryz.isAgg180
  z232 := Tryz.sizeOf180
  v232 := Tryz.zeroValue180
  t233 := Tryz.underlying181
  a233 := Tryz.isAgg181
  z233 := Tryz.sizeOf181
  v233 := Tryz.zeroValue181
  g17 := by kernel_rfl
  g18 := by kernel_rfl
  g19 := by kernel_rfl
  i0 := by kernel_rfl
  i2 := by kernel_rfl
  i3 := by kernel_rfl
  i4 := by kernel_rfl
  i5 := by kernel_rfl
  i9 := by kernel_rfl
  i20 := by kernel_rfl
  i37 := by kernel_rfl
  i46 := by kernel_rfl
  i51 := by kernel_rfl
  i53 := by kernel_rfl
  i171 := by kernel_rfl
  i173 := by kernel_rfl
  i212 := by kernel_rfl
  i232 := by kernel_rfl
  i233 := by kernel_rfl
  m17 := by kernel_rfl
  m18 := by kernel_rfl
  m19 := by kernel_rfl }
open Go.RowKit Go.Sort Go.Lib in
theorem Tryz.strconv_Itoa (n : Int) (h0 : -9223372036854775808 ≤ n) (h1 : n ≤ 9223372036854775807) (w : World) (htab : Lib.TabIs Tryz.prog w "internal/strconv.uint64pow10" .u64 Lib.pow10Tab) :
    Calls Tryz.prog 126 #[.int .i64 n] w fun e w' => e = .returned (.string ⟨(Lib.itoa n).toArray⟩) ∧ ∃ k os, w' = grow (w.drewN k) os := Any.strconv_Itoa Tryz.laysM171 n h0 h1 w htab
def Tryz.lays146_ren : Go.Shelf.Ren := ⟨fun | 146 => 115 | 221 => 124 | 268 => 128 | 138 => 129 | 143 => 130 | 195 => 133 | 197 => 134 | 218 => 135 | 219 => 136 | 260 => 139 | 217 => 140 | 225 => 141 | 224 => 142 | 267 => 143 | 266 => 148 | 314 => 149 | n => n, fun | 9 => 9 | 31 => 118 | 3 => 3 | 4 => 4 | 0 => 0 | 105 => 156 | 21 => 21 | 5 => 5 | 46 => 161 | 119 => 168 | 139 => 171 | 138 => 170 | 146 => 173 | 51 => 172 | n => n, fun | 1 => 0 | 3 => 1 | 4 => 2 | n => n⟩
theorem Tryz.lays146 : Go.Proofs.Lays.n146 Tryz.prog Tryz.lays146_ren := {
  mixed := by kernel_rfl
  f138 := Tryz.func129.trans (congrArg some (by kernel_rfl))
  f143 := Tryz.func130.trans (congrArg some (by kernel_rfl))
  f146 := Tryz.func115.trans (congrArg some (by kernel_rfl))
  f195 := Tryz.func133.trans (congrArg some (by kernel_rfl))
  f197 := Tryz.func134.trans (congrArg some (by kernel_rfl))
  f217 := Tryz.func140.trans (congrArg some (by kernel_rfl))
  f218 := Tryz.func135.trans (congrArg some (by kernel_rfl))
  f219 := Tryz.func136.trans (congrArg some (by kernel_rfl))
  f221 := Tryz.func124.trans (congrArg some (by kernel_rfl))
  f224 := Tryz.func142.trans (congrArg some (by kernel_rfl))
  f225 := Tryz.func141.trans (congrArg some (by kernel_rfl))
  f260 := Tryz.func139.trans (congrArg some (by kernel_rfl))
  f266 := Tryz.func148.trans (congrArg some (by kernel_rfl))
  f267 := Tryz.func143.trans (congrArg some (by kernel_rfl))
  f268 := Tryz.func128.trans (congrArg some (by kernel_rfl))
  f314 := Tryz.func149.trans (congrArg some (by kernel_rfl))
  t0 := Tryz.underlying0
  a0 := Tryz.isAgg0
  z0 := Tryz.sizeOf0
  v0 := Tryz.zeroValue0
  t3 := Tryz.underlying3
  a3 := Tryz.isAgg3
  z3 := Tryz.sizeOf3
  v3 := Tryz.zeroValue3
  t4 := Tryz.underlying4
  a4 := Tryz.isAgg4
  z4 := Tryz.sizeOf4
  v4 := Tryz.zeroValue4
  t5 := Tryz.underlying5
  a5 := Tryz.isAgg5
  z5 := Tryz.sizeOf5
  v5 := Tryz.zeroValue5
  t9 := Tryz.underlying9
  a9 := Tryz.isAgg9
  z9 := Tryz.sizeOf9
  v9 := Tryz.zeroValue9
  t21 := Tryz.underlying21
  a21 := Tryz.isAgg21
  z21 := Tryz.sizeOf21
  v21 := Tryz.zeroValue21
  t31 := Tryz.underlying118
  a31 := Tryz.isAgg118
  z31 := Tryz.sizeOf118
  v31 := Tryz.zeroValue118
  t46 := Tryz.underlying161
  a46 := Tryz.isAgg161
  z46 := Tryz.sizeOf161
  v46 := Tryz.zeroValue161
  t51 := Tryz.underlying172
  a51 := Tryz.isAgg172
  z51 := Tryz.sizeOf172
  v51 := Tryz.zeroValue172
  t105 := Tryz.underlying156
  a105 := Tryz.isAgg156
  z105 := Tryz.sizeOf156
  v105 := Tryz.zeroValue156
  t119 := Tryz.underlying168
  a119 := Tryz.isAgg168
  z119 := Tryz.sizeOf168
  t138 := Tryz.underlying170
  a138 := Tryz.isAgg170
  z138 := Tryz.sizeOf170
  v138 := Tryz.zeroValue170
  t139 := Tryz.underlying171
  a139 := Tryz.isAgg171
  z139 := Tryz.sizeOf171
  v139 := Tryz.zeroValue171
  t146 := Tryz.underlying173
  a146 := Tryz.isAgg173
  z146 := Tryz.sizeOf173
  v146 := Tryz.zeroValue173
  g1 := by kernel_rfl
  g3 := by kernel_rfl
  g4 := by kernel_rfl }
open Go.RowKit Go.Lib in
theorem Tryz.strings_Split (s sep : ByteArray) (m : Int) (w : World) (hs : s.size < 4294967281) (hm : w.cell? ⟨0, 0, none⟩ = some (.int .i64 m)) (h1 : 1 ≤ sep.size) :
    Calls Tryz.prog 115 #[.string s, .string sep] w fun e w' =>
      e = .returned (.slice (some ⟨w.heap.size, 0, none⟩) (Lib.countB s sep + 1) (Lib.countB s sep + 1)) ∧ w' = w.alloc (.cells ((Lib.splitB sep 0 (Lib.countB s sep) s).map Value.string).toArray 9) := Any.strings_Split Tryz.lays146 (by kernel_rfl) s sep m w hs hm h1
end Go.Proofs


namespace Go.Proofs
open Go Go.Sx Go.RowKit

/-! # What the library does with texts -/

theorem idx_cons (c x : UInt8) (xs : Bs) : Lib.index (x :: xs) [c] = if x = c then 0 else if Lib.index xs [c] == -1 then -1 else Lib.index xs [c] + 1 := by
  rw [Lib.index]
  by_cases h : x = c
  · subst h; simp [List.isPrefixOf]
  · have h2 : ¬ (c = x) := fun e => h e.symm
    simp [List.isPrefixOf, h, h2]
theorem split_one (c : UInt8) : ∀ s : Bs, Lib.splitK [c] 0 (Lib.count s [c]) s = splitL c s
  | [] => by
    have h : Lib.index [] [c] = -1 := by simp [Lib.index, List.isPrefixOf]
    rw [Lib.count_miss h]; rfl
  | x :: xs => by
    have ih := split_one c xs
    have hi := idx_cons c x xs
    simp only [splitL]
    by_cases h : x = c
    · rw [if_pos h] at hi ⊢
      have hi' : Lib.index (x :: xs) [c] = ((0 : Nat) : Int) := hi
      rw [Lib.count_hit (by simp) hi']
      simp only [Nat.zero_add, List.length_singleton, List.drop_succ_cons, List.drop_zero]
      rw [Nat.add_comm 1, Lib.splitK, if_neg (by rw [hi]; decide), hi]
      simp only [Int.toNat_zero, Nat.add_zero, List.take_zero, Nat.zero_add, List.length_singleton, List.drop_succ_cons, List.drop_zero, ih]
    · rw [if_neg h] at hi ⊢
      rcases Lib.index_spec xs [c] with ⟨h1, _⟩ | ⟨i, h1, _⟩
      · rw [h1] at hi
        have hm : Lib.index (x :: xs) [c] = -1 := by rw [hi]; rfl
        rw [Lib.count_miss hm]
        rw [Lib.count_miss h1] at ih
        rw [← ih]; rfl
      · have hne : ¬ (Lib.index xs [c] == -1) = true := fun e => by have := beq_iff_eq.1 e; omega
        rw [if_neg hne, h1] at hi
        have hm : Lib.index (x :: xs) [c] = ((i + 1 : Nat) : Int) := by rw [hi]; simp
        rw [Lib.count_hit (by simp) hm]
        rw [Lib.count_hit (by simp) h1] at ih
        simp only [List.length_singleton, List.drop_succ_cons] at ih ⊢
        rw [Nat.add_comm 1, Lib.splitK, if_neg hne, h1] at ih
        rw [Nat.add_comm 1, Lib.splitK, if_neg (fun e => by have := beq_iff_eq.1 e; omega), hm, ← ih]
        simp only [Int.toNat_natCast, Nat.add_zero, List.take_succ_cons, List.length_singleton, List.drop_succ_cons]

/-- What the library's variables hold. -/
structure Gl (w : World) : Prop where
  tab : Lib.TabIs Tryz.prog w "internal/strconv.uint64pow10" .u64 Lib.pow10Tab
  mx : ∃ m, w.cell? ⟨0, 0, none⟩ = some (.int .i64 m)
  size : 3 < w.heap.size
theorem gl_cong {w w' : World} (h : Gl w) (hs : w.heap.size ≤ w'.heap.size) (hk : ∀ k, k ≤ 3 → w'.heap[k]? = w.heap[k]?) : Gl w' := by
  obtain ⟨h1, ⟨m, h2⟩, h3⟩ := h
  refine ⟨?_, ⟨m, ?_⟩, by omega⟩
  · have hg : Tryz.prog.globalNamed "internal/strconv.uint64pow10" = some 3 := by kernel_rfl
    simp only [Lib.TabIs, World.var?, hg, Option.bind_some] at h1 ⊢
    rw [hk 3 (Nat.le_refl _)]; exact h1
  · simp only [World.cell?] at h2 ⊢
    rw [hk 0 (by omega)]; exact h2
theorem gl_up {w w' : World} (h : Gl w) (hb : BelowH w w') : Gl w' := gl_cong h hb.1 (fun k hk => hb.2 k (Nat.lt_of_le_of_lt hk h.size))

theorem below_grow {w : World} {k : Nat} {os : Array Obj} : RowKit.Below w.heap.size w (Sort.grow (w.drewN k) os) := by
  have hh : (w.drewN k).heap = w.heap := by induction k <;> simp_all [World.drewN]
  have h1 : (w.drewN k).os = w.os := by induction k <;> simp_all [World.drewN]
  have h2 : (w.drewN k).tape = w.tape := by induction k <;> simp_all [World.drewN]
  have h3 : (w.drewN k).output = w.output := by induction k <;> simp_all [World.drewN]
  refine ⟨h1, h2, h3, by simp [Sort.grow, hh], fun j hj => ?_⟩
  simp only [Sort.grow, hh]
  rw [Array.getElem?_append_left hj]

theorem itoa_c (n : Int) (w : World) (h : okZ n) (hg : Gl w) : Calls Tryz.prog 126 #[.int .i64 n] w (RetV w (strV (decZ n))) := by
  unfold okZ at h
  refine (Tryz.strconv_Itoa n (by omega) (by omega) w hg.tab).mono ?_
  rintro e w' ⟨rfl, k, os, rfl⟩
  exact ⟨rfl, below_grow⟩

def RStr (xs : List Bs) : Nat → World → Value → Prop := fun lo w1 v => ∃ a1 c1, v = .slice a1 xs.length c1 ∧ Ro w1 lo w1.heap.size a1 xs.length c1 1 (strs xs)

theorem split_c (s : Bs) (c : UInt8) (w : World) (hl : s.length ≤ 1000) (hg : Gl w) : Calls Tryz.prog 115 #[strV s, .string ⟨#[c]⟩] w (Ret w (RStr (splitL c s))) := by
  obtain ⟨m, hm⟩ := hg.mx
  have hsz : ByteArray.size ⟨s.toArray⟩ = s.length := by simp [ByteArray.size]
  refine (Tryz.strings_Split ⟨s.toArray⟩ ⟨#[c]⟩ m w (by omega) hm (by simp [ByteArray.size])).mono ?_
  rintro e w' ⟨rfl, rfl⟩
  have h1 : (Lib.splitB ⟨#[c]⟩ 0 (Lib.countB ⟨s.toArray⟩ ⟨#[c]⟩) ⟨s.toArray⟩).map (·.data.toList) = splitL c s := by
    rw [Lib.splitB_data]
    exact split_one c s
  have h2 : (Lib.splitB ⟨#[c]⟩ 0 (Lib.countB ⟨s.toArray⟩ ⟨#[c]⟩) ⟨s.toArray⟩).map Value.string = (strs (splitL c s)).flatten := by
    rw [← h1]
    simp only [strs, List.map_map]
    generalize Lib.splitB _ _ _ _ = L
    induction L with
    | nil => rfl
    | cons y L ih => simp [ih]
  have hlen : (splitL c s).length = Lib.countB ⟨s.toArray⟩ ⟨#[c]⟩ + 1 := by
    rw [← h1, List.length_map]
    exact Lib.splitB_all _ (by simp [ByteArray.size]) 0 _ _ rfl
  have hb : RowKit.Below w.heap.size w (w.alloc (.cells ((Lib.splitB ⟨#[c]⟩ 0 (Lib.countB ⟨s.toArray⟩ ⟨#[c]⟩) ⟨s.toArray⟩).map Value.string).toArray 9)) := (RowKit.Below.refl _ _).alloc (Nat.le_refl _) _
  refine ⟨_, rfl, hb, _, _, by rw [hlen], ?_⟩
  have hro := RowOk.ro (w := w.alloc (.cells ((Lib.splitB ⟨#[c]⟩ 0 (Lib.countB ⟨s.toArray⟩ ⟨#[c]⟩) ⟨s.toArray⟩).map Value.string).toArray 9)) (a := some ⟨w.heap.size, 0, none⟩) (n := (splitL c s).length) (cap := Lib.countB ⟨s.toArray⟩ ⟨#[c]⟩ + 1) (t := 9) (sz := 1) (xs := strs (splitL c s)) ⟨by simp, by simp, .inr ⟨w.heap.size, [], rfl, by omega, by rw [hlen]; simp, by
    rw [List.append_nil, ← h2]
    exact (Array.getElem?_push_size : (w.heap.push _)[w.heap.size]? = some _)⟩⟩
  refine ⟨hro.len, hro.each, hro.le, ?_⟩
  rcases hro.here with h5 | ⟨ad, g1, g2, g3, g4, g5⟩
  · exact .inl h5
  · cases g1
    exact .inr ⟨_, rfl, g2, Nat.le_refl _, g4, g5⟩

end Go.Proofs


namespace Go.Proofs
open Go Go.Sx Go.RowKit

theorem absW_pre {l : Bs} : absW (45 :: l) = l := rfl
theorem absW_no {c : UInt8} {l : Bs} (h : ¬ c = 45) : absW (c :: l) = c :: l := by simp only [absW, if_neg h]
theorem absW_len (l : Bs) : (absW l).length ≤ l.length := by
  cases l with
  | nil => exact Nat.le_refl _
  | cons c t => simp only [absW]; split <;> simp
theorem absW_ne {l : Bs} (h : ¬ absW l = l) : sgnV l = -(valK (absW l) (absW l).length) := by
  cases l with
  | nil => exact absurd rfl h
  | cons c t =>
    by_cases hc : c = 45
    · subst hc; simp [sgnV]
    · exact absurd (absW_no hc) h
theorem absW_eq {l : Bs} (h : absW l = l) : sgnV l = valK (absW l) (absW l).length := by
  cases l with
  | nil => rfl
  | cons c t =>
    by_cases hc : c = 45
    · subst hc
      have := congrArg List.length h
      simp [absW] at this
    · simp [sgnV, hc]

set_option maxRecDepth 20000 in
theorem hp_nil  (w : World)  : Calls Tryz.prog 137 #[strV [], strV [45]] w (RetV w (.bool false)) := by
  refine calls_T0 (av := [_, _]) Tryz.func137 rfl rfl rfl ?_
  refine t_seq ?_
  refine t_reg ?_
  refine to_as rfl rfl ?_
  refine to_nil ?_
  refine tn_code ?_
  refine t_seq ?_
  refine t_reg ?_
  refine to_mv rfl rfl ?_
  refine to_lenL rfl rfl ?_
  refine to_mv rfl rfl ?_
  refine to_lenL rfl rfl ?_
  refine to_geq rfl rfl rfl ?_
  refine to_fix (s := 9) (b' := false) rfl (rfl) ?_
  refine to_mv rfl rfl ?_
  refine to_gf rfl rfl rfl rfl ?_
  refine to_gf rfl rfl rfl rfl ?_
  refine to_gf rfl rfl rfl rfl ?_
  refine to_gf rfl rfl rfl rfl ?_
  refine to_gf rfl rfl rfl rfl ?_
  refine to_gf rfl rfl rfl rfl ?_
  refine to_pkF rfl rfl rfl ?_
  refine to_as rfl rfl ?_
  refine to_nil ?_
  refine tn_code ?_
  refine t_ret1 rfl rfl (res_tmp rfl) (fun w' s => ?_)
  rfl

set_option maxRecDepth 20000 in
theorem hp_cons (c : UInt8) (t : Bs) (w : World) (hl : t.length ≤ 1000) : Calls Tryz.prog 137 #[strV (c :: t), strV [45]] w (RetV w (.bool (decide (c = 45)))) := by
  have hls : (c :: t).length = t.length + 1 := rfl
  refine calls_T0 (av := [_, _]) Tryz.func137 rfl rfl rfl ?_
  refine t_seq ?_
  refine t_reg ?_
  refine to_as rfl rfl ?_
  refine to_nil ?_
  refine tn_code ?_
  refine t_seq ?_
  refine t_reg ?_
  refine to_mv rfl rfl ?_
  refine to_lenL rfl rfl ?_
  refine to_mv rfl rfl ?_
  refine to_lenL rfl rfl ?_
  refine to_geq rfl rfl rfl ?_
  refine to_fix (s := 9) (b' := true) rfl (decide_eq_true (by simp; omega)) ?_
  refine to_mv rfl rfl ?_
  refine to_gt rfl rfl ?_
  refine to_mv rfl rfl ?_
  refine to_gt rfl rfl ?_
  refine to_mv rfl rfl ?_
  refine to_gt rfl rfl ?_
  refine to_lenL rfl rfl ?_
  refine to_gt rfl rfl ?_
  refine to_ssH (q := 1) rfl rfl (by omega) rfl ?_
  refine to_gt rfl rfl ?_
  refine to_mv rfl rfl ?_
  refine to_gt rfl rfl ?_
  refine to_seq rfl rfl rfl ?_
  refine to_pkT rfl rfl rfl ?_
  refine to_as rfl rfl ?_
  refine to_nil ?_
  refine tn_code ?_
  refine t_ret1 rfl rfl (res_tmp rfl) (fun w' s => ?_)
  by_cases hc : c = 45 <;> simp [hc]

theorem hp_c (l : Bs) (w : World) (hl : l.length ≤ 1000) : Calls Tryz.prog 137 #[strV l, strV [45]] w (RetV w (.bool (decide (l.head? = some 45)))) := by
  cases l with
  | nil => exact hp_nil w
  | cons c t =>
    have := hp_cons c t w (by simp at hl; omega)
    simpa using this

set_option maxRecDepth 20000 in
theorem tp_c (l : Bs) (w : World) (hl : l.length ≤ 1000) : Calls Tryz.prog 131 #[strV l, strV [45]] w (RetV w (strV (absW l))) := by
  refine calls_T0 (av := [_, _]) Tryz.func131 rfl rfl rfl ?_
  refine t_seq ?_
  refine t_reg ?_
  refine to_as rfl rfl ?_
  refine to_nil ?_
  refine tn_code ?_
  refine t_seq ?_
  refine t_seq ?_
  refine t_reg ?_
  refine to_mv rfl rfl ?_
  refine to_mv rfl rfl ?_
  refine to_call0 rfl rfl (fun w s => hp_c l w hl) rfl ?_
  refine to_nil ?_
  refine tn_code ?_
  refine t_if rfl (fun h1 => ?_) (fun h1 => ?_)
  · try simp only [decide_eq_true_eq, decide_eq_false_iff_not, Bool.not_eq_true', Bool.not_eq_false', Int.not_lt, Int.not_le, ne_eq, Decidable.not_not] at h1
    try have h1b := inB_iff.1 h1
    obtain ⟨t, rfl⟩ : ∃ t, l = 45 :: t := by
      cases l with
      | nil => simp at h1
      | cons c t => simp at h1; subst h1; exact ⟨t, rfl⟩
    refine t_seq ?_
    refine t_reg ?_
    refine to_mv rfl rfl ?_
    refine to_mv rfl rfl ?_
    refine to_lenL rfl rfl ?_
    refine to_ssL (k := 1) rfl rfl (by simp) rfl ?_
    refine to_as rfl rfl ?_
    refine to_nil ?_
    refine tn_code ?_
    refine t_ret1 rfl rfl (res_tmp rfl) (fun w' s => ?_)
    first | rfl | (cases l with
      | nil => rfl
      | cons c t => rw [absW_no (by intro e; subst e; simp_all)])
  · try simp only [decide_eq_true_eq, decide_eq_false_iff_not, Bool.not_eq_true', Bool.not_eq_false', Int.not_lt, Int.not_le, ne_eq, Decidable.not_not] at h1
    try have h1b := inB_iff.1 h1
    refine t_skip ?_
    refine tn_code ?_
    refine t_seq ?_
    refine t_reg ?_
    refine to_mv rfl rfl ?_
    refine to_as rfl rfl ?_
    refine to_nil ?_
    refine tn_code ?_
    refine t_ret1 rfl rfl (res_tmp rfl) (fun w' s => ?_)
    first | rfl | (cases l with
      | nil => rfl
      | cons c t => rw [absW_no (by intro e; subst e; simp_all)])

set_option maxRecDepth 20000 in
theorem trim_c (l : Bs) (w : World) (hl : l.length ≤ 1000) : Calls Tryz.prog 125 #[strV l, strV [45]] w (RetV w (strV (absW l))) := by
  refine calls_T0 (av := [_, _]) Tryz.func125 rfl rfl rfl ?_
  refine t_seq ?_
  refine t_reg ?_
  refine to_as rfl rfl ?_
  refine to_nil ?_
  refine tn_code ?_
  refine t_seq ?_
  refine t_reg ?_
  refine to_mv rfl rfl ?_
  refine to_mv rfl rfl ?_
  refine to_call0 rfl rfl (fun w s => tp_c l w hl) rfl ?_
  refine to_as rfl rfl ?_
  refine to_nil ?_
  refine tn_code ?_
  refine t_ret1 rfl rfl (res_tmp rfl) (fun w' s => ?_)
  rfl

set_option maxRecDepth 20000 in
theorem idxS (xs : List Bs) (a : Option Addr) (c : Nat) (v : Bs) (w : World) (hr : Ro w 0 w.heap.size a xs.length c 1 (strs xs)) (hn : xs.length ≤ 1000000) : Calls Tryz.prog 120 #[.slice a xs.length c, strV v] w (RetV w (.int .i64 (idxI (fun y => v == y) xs))) := by
  refine calls_T0 (av := [_, _]) Tryz.func120 rfl rfl rfl ?_
  refine t_seq ?_
  refine t_reg ?_
  refine to_as rfl rfl ?_
  refine to_nil ?_
  refine tn_code ?_
  refine t_seq ?_
  refine t_seq ?_
  refine t_reg ?_
  refine to_mv rfl rfl ?_
  refine to_lenS rfl rfl ?_
  refine to_mv rfl rfl ?_
  refine to_nil ?_
  refine tn_code ?_
  refine t_blk ?_
  refine t_loop2 (ι := Nat) (fun k => k ≤ xs.length ∧ ∀ j, j < k → ∀ y, xs[j]? = some y → (v == y) = false) (fun k => [(0, .slice a xs.length c), (1, strV v), (6, .slice a xs.length c), (7, .int .i64 (xs.length : Int)), (8, .int .i64 (k : Int))]) (fun k => [.snap 0 w.heap.size w]) (fun k => xs.length - k) (0) [.snap 0 w.heap.size w] (rfl) (⟨Nat.zero_le _, fun j hj => absurd hj (Nat.not_lt_zero _)⟩) (⟨rfl, rfl, rfl, rfl, rfl, trivial⟩) ?_
  rintro k ⟨hk, hall⟩
  show T _ _ _ ⟨_, [(0, .slice a xs.length c), (1, strV v), (6, .slice a xs.length c), (7, .int .i64 (xs.length : Int)), (8, .int .i64 (k : Int))], _⟩ [.snap 0 w.heap.size w]
  refine t_seq ?_
  refine t_reg ?_
  refine to_lss rfl rfl rfl ?_
  refine to_nil ?_
  refine tn_code ?_
  refine t_seq ?_
  refine t_if rfl (fun h1 => ?_) (fun h1 => ?_)
  · try simp only [decide_eq_true_eq, decide_eq_false_iff_not, Bool.not_eq_true', Bool.not_eq_false', Int.not_lt, Int.not_le, ne_eq, Decidable.not_not] at h1
    try have h1b := inB_iff.1 h1
    obtain ⟨y, hy⟩ := some_get (xs := xs) (k := k) (by omega)
    have hx := map_get (f := strC) hy
    refine t_skip ?_
    refine tn_code ?_
    refine t_seq ?_
    refine t_blk ?_
    refine t_seq ?_
    refine t_reg ?_
    refine to_mv rfl rfl ?_
    refine to_as rfl rfl ?_
    refine to_nil ?_
    refine tn_code ?_
    refine t_seq ?_
    refine t_reg ?_
    refine to_mv rfl rfl ?_
    refine to_mv rfl rfl ?_
    refine to_mv rfl rfl ?_
    first | refine to_ix rfl rfl rfl (by first | omega | decide) (by first | omega | decide) rfl ?_ | refine to_ixi rfl rfl rfl (by omega) (by omega) (by omega) rfl ?_
    first | refine to_lds rfl rfl rfl ?_ | refine to_ldes rfl (by assumption) rfl rfl ?_
    refine to_seq rfl rfl rfl ?_
    refine to_nil ?_
    refine tn_code ?_
    refine t_if rfl (fun h2 => ?_) (fun h2 => ?_)
    · try simp only [decide_eq_true_eq, decide_eq_false_iff_not, Bool.not_eq_true', Bool.not_eq_false', Int.not_lt, Int.not_le, ne_eq, Decidable.not_not] at h2
      try have h2b := inB_iff.1 h2
      have hfin := idxI_found (p := fun y => v == y) hall hy (by simpa using h2)
      refine t_seq ?_
      refine t_reg ?_
      refine to_mv rfl rfl ?_
      refine to_as rfl rfl ?_
      refine to_nil ?_
      refine tn_code ?_
      refine t_ret1 rfl rfl (res_tmp rfl) (fun w' s => ?_)
      rw [hfin]
    · try simp only [decide_eq_true_eq, decide_eq_false_iff_not, Bool.not_eq_true', Bool.not_eq_false', Int.not_lt, Int.not_le, ne_eq, Decidable.not_not] at h2
      try have h2b := inB_iff.1 h2
      refine t_skip ?_
      refine tn_blk ?_
      refine tn_code ?_
      refine t_reg ?_
      refine to_add rfl rfl (by omega) rfl ?_
      refine to_mv rfl rfl ?_
      refine to_nil ?_
      exact tn_loop2 (k + 1) [.snap 0 w.heap.size w] (rfl) (⟨by omega, all_succ hall (fun z hz => by rw [hy] at hz; cases hz; simpa using (by assumption : ¬ v = y))⟩) (by omega) (⟨rfl, rfl, rfl, rfl, rfl, trivial⟩)
  · try simp only [decide_eq_true_eq, decide_eq_false_iff_not, Bool.not_eq_true', Bool.not_eq_false', Int.not_lt, Int.not_le, ne_eq, Decidable.not_not] at h1
    try have h1b := inB_iff.1 h1
    have hk2 : k = xs.length := by omega
    subst hk2
    have hfin := idxI_none (p := fun y => v == y) hall
    refine t_exit ?_
    refine tx_code ?_
    refine tx_inv ?_
    refine tx_blk ?_
    refine tn_code ?_
    refine t_seq ?_
    refine t_reg ?_
    refine to_as rfl rfl ?_
    refine to_nil ?_
    refine tn_code ?_
    refine t_ret1 rfl rfl (res_tmp rfl) (fun w' s => ?_)
    rw [hfin]

set_option maxRecDepth 20000 in
theorem conS (xs : List Bs) (a : Option Addr) (c : Nat) (v : Bs) (w : World) (hr : Ro w 0 w.heap.size a xs.length c 1 (strs xs)) (hn : xs.length ≤ 1000000) : Calls Tryz.prog 118 #[.slice a xs.length c, strV v] w (RetV w (.bool (xs.contains v))) := by
  refine calls_T0 (av := [_, _]) Tryz.func118 rfl rfl rfl ?_
  refine t_seq ?_
  refine t_reg ?_
  refine to_as rfl rfl ?_
  refine to_nil ?_
  refine tn_code ?_
  refine t_seq ?_
  refine t_reg ?_
  refine to_mv rfl rfl ?_
  refine to_mv rfl rfl ?_
  refine to_call0 rfl rfl (fun w s => idxS xs _ _ v w (rdw s) hn) rfl ?_
  refine to_geq rfl rfl rfl ?_
  refine to_as rfl rfl ?_
  refine to_nil ?_
  refine tn_code ?_
  refine t_ret1 rfl rfl (res_tmp rfl) (fun w' s => ?_)
  rw [idxI_any, List.contains_eq_any_beq]

abbrev rulesC : List Value := [strV [100, 111, 119, 110], strV [117, 112], strV [110, 101, 97, 114], strV [101, 118, 101, 110]]

set_option maxRecDepth 20000 in
theorem ruleWords_c  (w : World)  : Calls Tryz.prog 117 #[] w (RetV w (.agg rulesC.toArray)) := by
  refine calls_T0 (av := []) Tryz.func117 rfl rfl rfl ?_
  refine t_seq ?_
  refine t_reg ?_
  refine to_alloc rfl (fun b0 => ?_)
  refine to_nil ?_
  refine tn_code ?_
  refine t_seq ?_
  refine t_reg ?_
  refine to_ba rfl rfl rfl ?_
  first | refine to_st rfl rfl rfl rfl ?_ | refine to_ste rfl rfl (by assumption) rfl rfl ?_
  refine to_nil ?_
  refine tn_code ?_
  refine t_ret1 rfl rfl (res_cellA rfl rfl) (fun w' s => ?_)
  rfl

end Go.Proofs

