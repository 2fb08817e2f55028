/- Further rules of the walk: ranges over functions, regions in any order, maps of pairs, calls that are handed memory. No condition. -/
import Derived.Test.YtceepchchaaceaaGreatOwnB
import Derived.Maps.RangeRun
import Derived.RangeFuncLeaves
import Derived.WideKeyRuns
set_option linter.unusedVariables false
set_option linter.unusedSimpArgs false

namespace Go.Sx
open Go Go.RowKit
open Go.ChangeMaps (setBlock)

/-! ## Maps from ints to pairs of ints, looked up with a word, written, and ranged over -/

abbrev Sp := Int × Int
/-- An entry: its key, its pair, its stamp. -/
abbrev En := Int × Sp × Nat
abbrev spV (v : Sp) : Value := .agg [.int .i64 v.1, .int .i64 v.2].toArray
def mkE (e : En) : MapEntry := { key := .int .i64 e.1, val := spV e.2.1, born := e.2.2 }
def lget : List En → Int → Option Sp
  | [], _ => none
  | e :: l, k => if k = e.1 then some e.2.1 else lget l k
structure OkN (l : List En) (c : Nat) (G : Int → Option Sp) : Prop where
  keys : (l.map (·.1)).Nodup
  borns : (l.map (·.2.2)).Nodup
  lt : ∀ e ∈ l, e.2.2 < c
  get : ∀ k, lget l k = G k
def isNE (l : List En) (c : Nat) (o : Obj) : Prop := o = .map (l.map mkE).toArray c
def isN (G : Int → Option Sp) (o : Obj) : Prop := ∃ l c, isNE l c o ∧ OkN l c G
def updO (G : Int → Option Sp) (k : Int) (v : Sp) : Int → Option Sp := fun j => if j = k then some v else G j

theorem lget_mem : ∀ {l : List En}, (l.map (·.1)).Nodup → ∀ e ∈ l, lget l e.1 = some e.2.1
  | [], _, e, h => by cases h
  | x :: l, hn, e, h => by
    have hn' := List.nodup_cons.1 (show (x.1 :: l.map (·.1)).Nodup from hn)
    rcases List.mem_cons.1 h with rfl | h
    · simp [lget]
    · have hne : e.1 ≠ x.1 := fun hh => hn'.1 (by rw [← hh]; exact List.mem_map.2 ⟨e, h, rfl⟩)
      simp only [lget, if_neg hne]
      exact lget_mem hn'.2 e h
theorem lget_some : ∀ {l : List En} {k : Int} {v : Sp}, lget l k = some v → ∃ e ∈ l, e.1 = k ∧ e.2.1 = v
  | [], k, v, h => by cases h
  | x :: l, k, v, h => by
    simp only [lget] at h
    by_cases hk : k = x.1
    · rw [if_pos hk] at h; cases h
      exact ⟨x, List.mem_cons_self .., hk.symm, rfl⟩
    · rw [if_neg hk] at h
      obtain ⟨e, h1, h2⟩ := lget_some h
      exact ⟨e, List.mem_cons_of_mem _ h1, h2⟩
theorem lget_none : ∀ {l : List En} {k : Int}, lget l k = none → ∀ e ∈ l, e.1 ≠ k
  | [], k, _, e, h => by cases h
  | x :: l, k, hg, e, h => by
    simp only [lget] at hg
    by_cases hk : k = x.1
    · rw [if_pos hk] at hg; cases hg
    · rw [if_neg hk] at hg
      rcases List.mem_cons.1 h with rfl | h
      · exact fun hh => hk hh.symm
      · exact lget_none hg e h

theorem findNow_N {kk : IntKind} : ∀ {l : List En} (k : Int) (i : Nat),
    ∃ r, Instr.findNow (.int kk) (.int .i64 k) (l.map mkE) i = some r ∧ (match r with
      | none => lget l k = none
      | some (j, v) => ∃ p e q, l = p ++ e :: q ∧ j = i + p.length ∧ e.1 = k ∧ v = spV e.2.1 ∧ lget l k = some e.2.1)
  | [], k, i => ⟨none, rfl, rfl⟩
  | e :: l, k, i => by
    by_cases hk : k = e.1
    · refine ⟨some (i, spV e.2.1), ?_, [], e, l, rfl, rfl, hk.symm, rfl, ?_⟩
      · simp [Instr.findNow, Instr.sameNow, mkE, hk]
      · simp [lget, hk]
    · obtain ⟨r, h1, h2⟩ := findNow_N (kk := kk) (l := l) k (i + 1)
      have hb : ((k == e.1) : Bool) = false := by simpa using hk
      refine ⟨r, ?_, ?_⟩
      · simp only [List.map_cons, Instr.findNow, Instr.sameNow, mkE, if_true, hb]
        exact h1
      · match r, h2 with
        | none, h2 => simp only [lget, if_neg hk]; exact h2
        | some (j, v), ⟨p, e1, q, h3, h4, h5, h6, h7⟩ =>
          exact ⟨e :: p, e1, q, by rw [h3]; rfl, by rw [h4, List.length_cons]; omega, h5, h6, by simp only [lget, if_neg hk]; exact h7⟩

theorem lget_app {k : Int} : ∀ {p q : List En}, (∀ e ∈ p, e.1 ≠ k) → lget (p ++ q) k = lget q k
  | [], _, _ => rfl
  | e :: p, q, h => by
    have hne : k ≠ e.1 := fun hh => h e (List.mem_cons_self ..) hh.symm
    simp only [List.cons_append, lget, if_neg hne]
    exact lget_app (fun e he => h e (List.mem_cons_of_mem _ he))

theorem lget_end {k q : Int} {v : Sp} {c : Nat} (h : ¬ k = q) : ∀ {l : List En}, lget (l ++ [(q, v, c)]) k = lget l k
  | [] => by simp [lget, h]
  | e :: l => by simp only [List.cons_append, lget, lget_end h (l := l)]
theorem lget_mid {k q : Int} {v : Sp} {c : Nat} {e1 : En} {l : List En} (h : ¬ k = q) (h1 : ¬ k = e1.1) : ∀ {p : List En}, lget (p ++ (q, v, c) :: l) k = lget (p ++ e1 :: l) k
  | [] => by simp [lget, h, h1]
  | e :: p => by simp only [List.cons_append, lget, lget_mid h h1 (p := p)]

/-- A map that can be read, its entries known. -/
class NM (w0 : World) (H : List Seg) (r : Nat) (l : outParam (List En)) (c : outParam Nat) : Prop where
  here : ∀ w, St w0 H w → w.heap[r]? = some (.map (l.map mkE).toArray c)
instance NM.own {w0 : World} {H H2 : List Seg} {r : Nat} {l : List En} {c : Nat} [ho : OwnAt r H (isNE l c) H2] : NM w0 H r l c := ⟨fun w s => by
  obtain ⟨o, h1, h2⟩ := s.own_at (b := r)
  rw [h1, h2]⟩
/-- In the world w1 the block r is such a map; it lies from lo to below hi. -/
class NB (w1 : outParam World) (lo hi : outParam Nat) (r : Nat) (l : outParam (List En)) (c : outParam Nat) : Prop where
  lo : lo ≤ r
  hi : r < hi
  here : w1.heap[r]? = some (.map (l.map mkE).toArray c)
instance NM.snap {w0 w1 : World} {lo hi : Nat} {H : List Seg} {r : Nat} {l : List En} {c : Nat} [h : NB w1 lo hi r l c] [hs : SnapAt w1 H lo hi] : NM w0 H r l c :=
  ⟨fun w s => (s.ok _ hs.mem r h.lo h.hi).trans h.here⟩
theorem NB.mono {w1 w2 : World} {lo hi lo2 hi2 r : Nat} {l : List En} {c : Nat} (h : NB w1 lo hi r l c) (h1 : lo2 ≤ lo) (h2 : hi ≤ hi2) (hs : ∀ k, lo ≤ k → k < hi → w2.heap[k]? = w1.heap[k]?) : NB w2 lo2 hi2 r l c :=
  ⟨Nat.le_trans h1 h.lo, Nat.lt_of_lt_of_le h.hi h2, (hs r h.lo h.hi).trans h.here⟩

theorem nb_of {w0 w : World} {H : List Seg} {r : Nat} {l : List En} {c : Nat} (s : St w0 H w) [h : NM w0 H r l c] : NB w 0 w.heap.size r l c :=
  ⟨Nat.zero_le _, (Array.getElem?_eq_some_iff.1 (h.here w s)).1, h.here w s⟩

/-- A map of the call's own, handed back. -/
theorem nb_own {w w' : World} {H H2 : List Seg} {r : Nat} {G : Int → Option Sp} (s : St w H w') [h : OwnAt r H (isN G) H2] [h0 : SnapAt w H2 0 w.heap.size] : ∃ l c, NB w' w.heap.size w'.heap.size r l c ∧ OkN l c G := by
  have s2 := s.perm h.perm
  obtain ⟨o, h1, l, c, h2, h3⟩ := s.own_at (b := r)
  refine ⟨l, c, ⟨?_, (Array.getElem?_eq_some_iff.1 h1).1, by rw [h1, h2]⟩, h3⟩
  have := (List.pairwise_cons.1 s2.apart).1 _ h0.mem
  rcases this with h3 | h3
  · simp [Seg.hi, Seg.lo] at h3
  · simpa [Seg.hi, Seg.lo] using h3

theorem St.seg {w0 w : World} {s s' : Seg} {H : List Seg} (h : St w0 (s :: H) w) (hlo : s'.lo = s.lo) (hhi : s'.hi = s.hi) (hok : s'.ok w) : St w0 (s' :: H) w :=
  h.upd rfl rfl rfl rfl (fun _ _ => rfl) hlo hhi hok

/-- The entries of a map of one's own, named; and forgotten. -/
theorem t_openN {x : Cx} {ks : List KI} {c : Code} {E : Env} {H H2 : List Seg} (r : Nat) {G : Int → Option Sp} [ho : OwnAt r H (isN G) H2] (h : ∀ l cl, OkN l cl G → T x ks c E (.own r (isNE l cl) :: H2)) : T x ks c E H := fun a w e s => by
  obtain ⟨o, h1, l, cl, h2, h3⟩ := s.own_at (b := r)
  exact h l cl h3 a w e ((s.perm ho.perm).seg rfl rfl ⟨o, h1, h2⟩)
theorem tx_openN {x : Cx} {ks : List KI} {c : Exit} {E : Env} {H H2 : List Seg} (r : Nat) {G : Int → Option Sp} [ho : OwnAt r H (isN G) H2] (h : ∀ l cl, OkN l cl G → TX x c ks E (.own r (isNE l cl) :: H2)) : TX x c ks E H := fun a w e s => by
  obtain ⟨o, h1, l, cl, h2, h3⟩ := s.own_at (b := r)
  exact h l cl h3 a w e ((s.perm ho.perm).seg rfl rfl ⟨o, h1, h2⟩)
theorem t_closeN {x : Cx} {ks : List KI} {c : Code} {E : Env} {H H2 : List Seg} (r : Nat) {l : List En} {cl : Nat} {G : Int → Option Sp} [ho : OwnAt r H (isNE l cl) H2] (hok : OkN l cl G) (h : T x ks c E (.own r (isN G) :: H2)) : T x ks c E H := fun a w e s => by
  obtain ⟨o, h1, h2⟩ := s.own_at (b := r)
  exact h a w e ((s.perm ho.perm).seg rfl rfl ⟨o, h1, l, cl, h2, hok⟩)
theorem tx_closeN {x : Cx} {ks : List KI} {c : Exit} {E : Env} {H H2 : List Seg} (r : Nat) {l : List En} {cl : Nat} {G : Int → Option Sp} [ho : OwnAt r H (isNE l cl) H2] (hok : OkN l cl G) (h : TX x c ks E (.own r (isN G) :: H2)) : TX x c ks E H := fun a w e s => by
  obtain ⟨o, h1, h2⟩ := s.own_at (b := r)
  exact h a w e ((s.perm ho.perm).seg rfl rfl ⟨o, h1, l, cl, h2, hok⟩)

/-- The iterator: what is left of the entries, in order; the one met last. -/
def isIN (r : Nat) (l : List En) (c : Nat) (left : List En) (cur : Option En) (o : Obj) : Prop :=
  ∃ seen : Array Nat, o = .mapIter (some r) c seen c ∧ (leftOf (l.map mkE).toArray seen).toList = left.map mkE ∧ seen.back? = cur.map (·.2.2)

theorem left_all (l : List En) : (leftOf (l.map mkE).toArray #[]).toList = l.map mkE := by simp [leftOf]
def dropE (left : List En) (e : En) : List En := left.filter fun x => x.2.2 != e.2.2
theorem left_push {l left : List En} {seen : Array Nat} (h : (leftOf (l.map mkE).toArray seen).toList = left.map mkE) (e : En) :
    (leftOf (l.map mkE).toArray (seen.push e.2.2)).toList = (dropE left e).map mkE := by
  have h1 : (leftOf (l.map mkE).toArray (seen.push e.2.2)).toList = (leftOf (l.map mkE).toArray seen).toList.filter (fun x => x.born != e.2.2) := by
    simp only [leftOf, Array.toList_filter, List.filter_filter]
    congr 1
    funext x
    rw [Array.contains_push]
    cases hb : seen.contains x.born <;> simp [hb, bne]
  rw [h1, h, List.filter_map]
  rfl
theorem drop_sub {left : List En} {e x : En} (h : x ∈ dropE left e) : x ∈ left := (List.mem_filter.1 h).1
theorem drop_len {left : List En} {e : En} (h : e ∈ left) : (dropE left e).length < left.length := List.length_filter_lt_length_iff_exists.2 ⟨e, h, by simp⟩
theorem nodup_inj {α : Type} {f : En → α} : ∀ {l : List En}, (l.map f).Nodup → ∀ a ∈ l, ∀ b ∈ l, f a = f b → a = b
  | [], _, a, h, _, _, _ => by cases h
  | x :: l, hn, a, ha, b, hb, hf => by
    have hn' := List.nodup_cons.1 (show (f x :: l.map f).Nodup from hn)
    rcases List.mem_cons.1 ha with rfl | ha1 <;> rcases List.mem_cons.1 hb with rfl | hb1
    · rfl
    · exact absurd (List.mem_map.2 ⟨b, hb1, hf.symm⟩) hn'.1
    · exact absurd (List.mem_map.2 ⟨a, ha1, hf⟩) hn'.1
    · exact nodup_inj hn'.2 a ha1 b hb1 hf
/-- Is a key left? -/
def keyIn (left : List En) (k : Int) : Bool := left.any fun e => e.1 == k
theorem keyIn_drop {l left : List En} {c : Nat} {G : Int → Option Sp} (ok : OkN l c G) (hs : ∀ x ∈ left, x ∈ l) {e : En} (he : e ∈ left) (k : Int) : keyIn (dropE left e) k = (keyIn left k && k != e.1) := by
  rw [Bool.eq_iff_iff]
  simp only [keyIn, List.any_eq_true, Bool.and_eq_true, beq_iff_eq, bne_iff_ne, ne_eq, dropE, List.mem_filter]
  constructor
  · rintro ⟨x, ⟨h1, h2⟩, rfl⟩
    refine ⟨⟨x, h1, rfl⟩, fun hh => h2 ?_⟩
    rw [nodup_inj ok.keys x (hs x h1) e (hs e he) hh]
  · rintro ⟨⟨x, h1, rfl⟩, h2⟩
    exact ⟨x, ⟨h1, fun hh => h2 (by rw [nodup_inj ok.borns x (hs x h1) e (hs e he) hh])⟩, rfl⟩
theorem keyIn_all {l : List En} {c : Nat} {G : Int → Option Sp} (ok : OkN l c G) (k : Int) : keyIn l k = (G k).isSome := by
  rw [← ok.get, Bool.eq_iff_iff]
  constructor
  · intro h
    obtain ⟨e, h1, h2⟩ := List.any_eq_true.1 h
    have h3 : e.1 = k := by simpa using h2
    rw [← h3, lget_mem ok.keys e h1]; rfl
  · intro h
    obtain ⟨v, hv⟩ := Option.isSome_iff_exists.1 h
    obtain ⟨e, h1, h2, _⟩ := lget_some hv
    exact List.any_eq_true.2 ⟨e, h1, by simpa using h2⟩
theorem okN_mem {l : List En} {c : Nat} {G : Int → Option Sp} (ok : OkN l c G) {e : En} (he : e ∈ l) : G e.1 = some e.2.1 := by rw [← ok.get]; exact lget_mem ok.keys e he

section
variable {x : Cx} {d : Bool} {ops : Array Oper} {rest : List Oper} {ks : List KI} {n : Nat} {m : List (Nat × Value)} {ds : List Deferred} {H H2 : List Seg}
variable {ty : TypeId} {pos : String} {aft : Array Edge} {dd : Nat}

theorem to_mkN {t : TypeId} (hd : Nat.blt dd n = true)
    (h : ∀ r, TO x false ops rest ks ⟨n, (dd, .map (some r)) :: m, ds⟩ (.own r (isN fun _ => none) :: H)) :
    TO x false ops (⟨some dd, .makeMap t none, ty, pos, aft, none⟩ :: rest) ks ⟨n, m, ds⟩ H :=
  to_step (fun _ h => by cases h) (fun a w e s => by
    refine ⟨.map (some w.heap.size), w.alloc (.map #[] 0), ?_, _, s.alloc (p := isN fun _ => none) ⟨[], 0, rfl, List.nodup_nil, List.nodup_nil, (fun _ h => by cases h), fun _ => rfl⟩, h w.heap.size⟩
    simp only [execOp, Option.map_none, Instr.makeMap, Sem.run_bind, run_newObj, Result.andThen, run_ok]) hd

/-- 'v, is := m[k]' -/
theorem to_lkN {t kt et b1 b2 b3 b4 : TypeId} {zz zk : List ZV} {fs : List (Nat × TypeId)} {y i : Operand} {r : Nat} {q : Int} {G : Int → Option Sp} (hy : ev m y = some (.map (some r))) (hi : ev m i = some (.int .i64 q))
    [ho : OwnAt r H (isN G) H2] [ht : Ty x.P t ⟨.map kt et, b1, b2, zz⟩] [hk : Ty x.P kt ⟨.int .i64, 1, b3, zk⟩] [he : Ty x.P et ⟨.struct fs, 2, b4, [.int .i64, .int .i64]⟩] (hd : Nat.blt dd n = true)
    (h : TO x d ops rest ks ⟨n, (dd, .tuple [spV ((G q).getD (0, 0)), .bool (G q).isSome].toArray) :: m, ds⟩ H) : TO x d ops (⟨some dd, .lookup t y i true, ty, pos, aft, none⟩ :: rest) ks ⟨n, m, ds⟩ H :=
  to_pure _ (fun _ h => by cases h) (fun a w e s => by
    obtain ⟨o, h1, l, c, h2, hok⟩ := s.own_at (b := r)
    simp only [isNE] at h2; subst h2
    obtain ⟨r', h5, h6⟩ := findNow_N (kk := .i64) (l := l) q 0
    obtain ⟨v, g1, g2, g3⟩ := run_zeroValue (P := x.P) (w := w) (t := et) (vs := [.int .i64 0, .int .i64 0])
    have hv : v = spV (0, 0) := by
      cases v with
      | agg cs => exact congrArg Value.agg (show cs = _ from g2)
      | _ => simp [zeroShape, TK.agg] at g3
    subst hv
    simp only [execOp]; rw [e.ev hy, e.ev hi]
    simp only [Instr.lookup, Sem.run_bind, run_underlying ht.map, Result.andThen, run_getObj h1, run_checkKey, Instr.findKey, run_underlying hk.int, h5, run_ok]
    match r', h6 with
    | none, h6 =>
      have h6' : G q = none := (hok.get q).symm.trans h6
      simp only [Sem.run_bind, g1, Result.andThen, run_ok, h6']; rfl
    | some (j, u), ⟨_, e1, _, _, _, _, h8, h9⟩ =>
      have h6' : G q = some e1.2.1 := (hok.get q).symm.trans h9
      subst h8
      simp only [run_ok, Result.andThen, h6']; rfl) hd h

theorem to_mupN {t kt et b1 b2 b3 : TypeId} {zz zk : List ZV} {y i z : Operand} {r : Nat} {q : Int} {v1 v2 : Int} {G : Int → Option Sp} (hy : ev m y = some (.map (some r))) (hi : ev m i = some (.int .i64 q)) (hz : ev m z = some (spV (v1, v2)))
    [ho : OwnAt r H (isN G) H2] [ht : Ty x.P t ⟨.map kt et, b1, b2, zz⟩] [hk : Ty x.P kt ⟨.int .i64, 1, b3, zk⟩]
    (h : TO x false ops rest ks ⟨n, m, ds⟩ (.own r (isN (updO G q (v1, v2))) :: H2)) : TO x false ops (⟨none, .mapUpdate t y i z, ty, pos, aft, none⟩ :: rest) ks ⟨n, m, ds⟩ H :=
  to_step0 (fun _ h => by cases h) (fun a w e s => by
    have s2 := s.perm ho.perm
    obtain ⟨o, h1, l, c, h2, hok⟩ := s.own_at (b := r)
    simp only [isNE] at h2; subst h2
    obtain ⟨r', h5, h6⟩ := findNow_N (kk := .i64) (l := l) q 0
    have fin : ∀ l' c', OkN l' c' (updO G q (v1, v2)) → ∃ w', (setObj r (.map (l'.map mkE).toArray c')).run x.P w = .ok () w' ∧ ∃ H', St x.w0 H' w' ∧ TO x false ops rest ks ⟨n, m, ds⟩ H' := fun l' c' hok' => by
      obtain ⟨w', r1, r2, r3, r4, r5, r6, r7⟩ := run_setObj (P := x.P) (o := .map (l'.map mkE).toArray c') h1
      exact ⟨w', r1, _, s2.upd r5 r6 r7 r3 (fun k hk => r4 k (by simp [Seg.lo, Seg.hi] at hk; omega)) (s' := .own r (isN (updO G q (v1, v2)))) rfl rfl ⟨_, r2, l', c', rfl, hok'⟩, h⟩
    match r', h5, h6 with
    | none, h5, h6 =>
      have hne := lget_none h6
      obtain ⟨w', hw, hres⟩ := fin (l ++ [(q, (v1, v2), c)]) (c + 1) ⟨by
          rw [List.map_append, List.nodup_append]
          exact ⟨hok.keys, by simp, fun a ha b hb => by
            simp at hb; subst hb
            obtain ⟨e', he', rfl⟩ := List.mem_map.1 ha
            exact hne e' he'⟩,
        by
          rw [List.map_append, List.nodup_append]
          exact ⟨hok.borns, by simp, fun a ha b hb => by
            simp at hb; subst hb
            obtain ⟨e', he', rfl⟩ := List.mem_map.1 ha
            exact Nat.ne_of_lt (hok.lt e' he')⟩,
        fun e' he' => by
          rcases List.mem_append.1 he' with he' | he'
          · exact Nat.lt_succ_of_lt (hok.lt e' he')
          · simp at he'; subst he'; exact Nat.lt_succ_self _,
        fun k => by
          simp only [updO]
          by_cases hkq : k = q
          · subst hkq
            rw [if_pos rfl, lget_app hne]; simp [lget]
          · rw [if_neg hkq, ← hok.get]
            exact lget_end hkq⟩
      refine ⟨w', ?_, hres⟩
      simp only [execOp]; rw [e.ev hy, e.ev hi, e.ev hz]
      have hpush : (l.map mkE).toArray.push { key := .int .i64 q, val := spV (v1, v2), born := c } = ((l ++ [(q, (v1, v2), c)]).map mkE).toArray := by
        apply Array.toList_inj.1; simp [mkE]
      simp only [Instr.mapUpdate, Sem.run_bind, run_underlying ht.map, Result.andThen, run_getObj h1, run_checkKey, Instr.findKey, run_underlying hk.int, h5, run_ok, hpush, hw]
    | some (j, u), h5, ⟨p, e1, q', h7, h8, h9, _, h10⟩ =>
      have hkey : (((l.map mkE).toArray[j]?).map (·.key)).getD (.int .i64 q) = .int .i64 q := by
        rw [h7, h8]; simp [mkE, h9]
      have hmod : (l.map mkE).toArray.modify j (fun e => { e with key := .int .i64 q, val := spV (v1, v2) }) = ((p ++ (q, (v1, v2), e1.2.2) :: q').map mkE).toArray := by
        apply Array.toList_inj.1
        rw [Array.toList_modify, h7, h8, Nat.zero_add]
        simp only [List.map_append, List.map_cons]
        have := modify_mid (p.map mkE) (q'.map mkE) (mkE e1) (fun e => { e with key := .int .i64 q, val := spV (v1, v2) })
        rw [List.length_map] at this
        rw [this]; rfl
      have hkeys : ((p ++ (q, (v1, v2), e1.2.2) :: q').map (·.1)) = l.map (·.1) := by rw [h7]; simp [h9]
      have hborns : ((p ++ (q, (v1, v2), e1.2.2) :: q').map (·.2.2)) = l.map (·.2.2) := by rw [h7]; simp
      have hpne : ∀ e ∈ p, e.1 ≠ q := fun e' he' hh => by
        have hk1 := hok.keys
        rw [h7, List.map_append, List.nodup_append] at hk1
        exact hk1.2.2 e'.1 (List.mem_map.2 ⟨e', he', rfl⟩) e1.1 (by simp) (hh.trans h9.symm)
      obtain ⟨w', hw, hres⟩ := fin (p ++ (q, (v1, v2), e1.2.2) :: q') c ⟨by rw [hkeys]; exact hok.keys, by rw [hborns]; exact hok.borns, fun e' he' => by
          rcases List.mem_append.1 he' with he' | he'
          · exact hok.lt e' (by rw [h7]; exact List.mem_append_left _ he')
          · rcases List.mem_cons.1 he' with rfl | he'
            · exact hok.lt e1 (by rw [h7]; simp)
            · exact hok.lt e' (by rw [h7]; exact List.mem_append_right _ (List.mem_cons_of_mem _ he')),
        fun k => by
          simp only [updO]
          by_cases hkq : k = q
          · subst hkq
            rw [if_pos rfl, lget_app hpne]; simp [lget]
          · rw [if_neg hkq, ← hok.get, h7]
            exact lget_mid hkq (fun hh => hkq (hh.trans h9))⟩
      have hks : ∀ w, (Instr.keyThatStays (.int .i64 q) (.int .i64 q)).run x.P w = .ok (.int .i64 q) w := fun w => by
        have : Instr.sameBits 10000 (.int .i64 q) (.int .i64 q) = true := by simp [Instr.sameBits]
        simp only [Instr.keyThatStays, this, if_true, run_ok]
      refine ⟨w', ?_, hres⟩
      simp only [execOp]; rw [e.ev hy, e.ev hi, e.ev hz]
      simp only [Instr.mapUpdate, Sem.run_bind, run_underlying ht.map, Result.andThen, run_getObj h1, run_checkKey, Instr.findKey, run_underlying hk.int, h5, run_ok, hkey, hks, hmod, hw])

theorem to_rgN {t kt et b1 b2 : TypeId} {zz : List ZV} {y : Operand} {r c : Nat} {l : List En} (hy : ev m y = some (.map (some r))) [hm : NM x.w0 H r l c] [ht : Ty x.P t ⟨.map kt et, b1, b2, zz⟩] (hd : Nat.blt dd n = true)
    (h : ∀ b, TO x false ops rest ks ⟨n, (dd, .pointer (some ⟨b, 0, none⟩)) :: m, ds⟩ (.own b (isIN r l c l none) :: H)) :
    TO x false ops (⟨some dd, .range t y, ty, pos, aft, none⟩ :: rest) ks ⟨n, m, ds⟩ H :=
  to_step (fun _ h => by cases h) (fun a w e s => by
    refine ⟨_, w.alloc (.mapIter (some r) c #[] c), ?_, _, s.alloc (p := isIN r l c l none) ⟨#[], rfl, left_all l, rfl⟩, h w.heap.size⟩
    simp only [execOp]; rw [e.ev hy, Sem.run_bind, run_range_map w t kt et r _ c ht.map (hm.here w s)]
    rfl) hd

theorem to_nxN {y : Operand} {b r c : Nat} {l left : List En} {cur : Option En} {G : Int → Option Sp} (hy : ev m y = some (.pointer (some ⟨b, 0, none⟩))) [ho : OwnAt b H (isIN r l c left cur) H2] [hm : NM x.w0 H r l c] (hok : OkN l c G) (hd : Nat.blt dd n = true)
    (h0 : left = [] → TO x false ops rest ks ⟨n, (dd, .tuple [.bool false].toArray) :: m, ds⟩ H)
    (h1 : ∀ e ∈ left, e ∈ l → G e.1 = some e.2.1 → TO x false ops rest ks ⟨n, (dd, .tuple [.bool true, .int .i64 e.1, spV e.2.1].toArray) :: m, ds⟩ (.own b (isIN r l c (dropE left e) (some e)) :: H2)) :
    TO x false ops (⟨some dd, .next y false, ty, pos, aft, none⟩ :: rest) ks ⟨n, m, ds⟩ H :=
  to_step (fun _ h => by cases h) (fun a w e s => by
    have s2 := s.perm ho.perm
    obtain ⟨ob, hob, seen, hpo, hl, hcur⟩ := s.own_at (b := b)
    subst hpo
    rcases run_next_at (P := x.P) w ty b r c c seen (l.map mkE).toArray c hob (hm.here w s) (fun z hz => by
      obtain ⟨en, h5, rfl⟩ := List.mem_map.1 (show z ∈ l.map mkE from hz)
      exact hok.lt en h5) (Nat.le_refl _) with ⟨h2, h3⟩ | ⟨e1, h2, w1, h3, h4⟩
    · refine ⟨_, w, ?_, H, s, h0 ?_⟩
      · simp only [execOp]; rw [e.ev hy, Sem.run_bind, h3]; rfl
      · have : (leftOf (l.map mkE).toArray seen).toList.length = 0 := by simpa using h2
        rw [hl, List.length_map] at this
        exact List.eq_nil_of_length_eq_zero this
    · have h2' : e1 ∈ (leftOf (l.map mkE).toArray seen).toList := h2
      have hsub : ∀ z ∈ left, z ∈ l := fun z hz => by
        have hz' : mkE z ∈ (leftOf (l.map mkE).toArray seen).toList := by rw [hl]; exact List.mem_map_of_mem hz
        simp only [leftOf, Array.toList_filter] at hz'
        obtain ⟨z', h5, h6⟩ := List.mem_map.1 (List.mem_filter.1 hz').1
        have : z' = z := by
          obtain ⟨k1, ⟨p1, p2⟩, b1⟩ := z
          obtain ⟨k2, ⟨p3, p4⟩, b2⟩ := z'
          simp [mkE] at h6
          obtain ⟨h6, ⟨h7, h8⟩, h9⟩ := h6
          subst h6 h7 h8 h9; rfl
        exact this ▸ h5
      rw [hl] at h2'
      obtain ⟨en, hen, rfl⟩ := List.mem_map.1 h2'
      have sd : St x.w0 (.own b (isIN r l c left cur) :: H2) w1 := by rcases h3 with rfl | rfl; exact s2; exact s2.drew
      have hob1 : w1.heap[b]? = some (.mapIter (some r) c seen c) := by rcases h3 with rfl | rfl <;> exact hob
      refine ⟨_, setBlock w1 b (.mapIter (some r) c (seen.push en.2.2) c), ?_, _, sd.upd rfl rfl rfl (by simp [setBlock]) (fun k hk => ?_) (s' := .own b (isIN r l c (dropE left en) (some en))) rfl rfl ⟨_, ?_, seen.push en.2.2, rfl, left_push hl en, by simp⟩, h1 en hen (hsub en hen) (okN_mem hok (hsub en hen))⟩
      · simp only [execOp]; rw [e.ev hy, Sem.run_bind, h4]; rfl
      · simp only [setBlock]
        exact Array.getElem?_setIfInBounds_ne (by simp [Seg.lo, Seg.hi] at hk; omega)
      · simp only [setBlock]
        exact Array.getElem?_setIfInBounds_self_of_lt (Array.getElem?_eq_some_iff.1 hob1).1) hd

theorem to_enN {y : Operand} {b r c : Nat} {l left : List En} {e1 : En} {G : Int → Option Sp} (hy : ev m y = some (.pointer (some ⟨b, 0, none⟩))) [ho : OwnAt b H (isIN r l c left (some e1)) H2] [hm : NM x.w0 H r l c] (hok : OkN l c G) (he : e1 ∈ l) (hd : Nat.blt dd n = true)
    (h : TO x d ops rest ks ⟨n, (dd, .tuple [.int .i64 e1.1, spV e1.2.1].toArray) :: m, ds⟩ H) :
    TO x d ops (⟨some dd, .entry y, ty, pos, aft, none⟩ :: rest) ks ⟨n, m, ds⟩ H :=
  to_pure _ (fun _ h => by cases h) (fun a w e s => by
    obtain ⟨ob, hob, seen, hpo, hl, hcur⟩ := s.own_at (b := b)
    subst hpo
    have hmh := hm.here w s
    have hg1 : (getObj b).run x.P w = .ok (.mapIter (some r) c seen c) w := by simp [getObj, Sem.run, hob]
    have hg2 : (getObj r).run x.P w = .ok (.map (l.map mkE).toArray c) w := by simp [getObj, Sem.run, hmh]
    have hf : (l.map mkE).toArray.find? (·.born == e1.2.2) = some (mkE e1) := by
      rw [← Array.find?_toList]
      exact find_born (mkE e1) (l.map mkE) (by simpa [mkE, List.map_map, Function.comp_def] using hok.borns) (List.mem_map_of_mem he)
    simp only [execOp]; rw [e.ev hy]
    have hb : seen.back? = some e1.2.2 := hcur
    simp only [Instr.entry, Sem.run_bind, hg1, hg2, Result.andThen, hb, bne_self_eq_false, Bool.false_eq_true, if_false, hf, run_ok]
    rfl) hd h
end
end Go.Sx



namespace Go.Sx
open Go Go.RowKit

/-! ## Rounds that panic -/

/-- What is asked at a round's end, panics taken in. -/
def roundPostP (P : Program) (l : Nat) (R : Ending → World → Prop) : Exit → Act → World → Prop
  | .panic ch, a, w => a.defers = [] ∧ R (.panicked ch) w
  | e, a, w => roundPost P l R e a w

theorem roundIn_of_wpInP {P : Program} {l : Nat} {f : FuncId} {fn : Func} {tmps : Array Value} {assign body : Code} {w : World} {R : Ending → World → Prop} (hfn : P.funcs[f]? = some fn)
    (h : assign.wpIn (WF (some l)) 0 P (Exit.then (fun a₁ w₁ => ∃ w₂, (Instr.beginRound l).run P w₁ = .ok () w₂ ∧ body.wpIn (WF (some l)) 0 P (roundPostP P l R) a₁ w₂) (fun _ _ _ => False))
      { tmps := tmps, defers := [] } w) :
    RoundIn (WF none) 0 P l f tmps assign body w R := by
  refine ⟨trivial, fun c cs hr => ?_⟩
  let b : Frame := { (default : Frame) with fn := f, kind := .normal, roundOf := some l }
  have hb0 : Frame.round l f tmps assign body .normal = b.atR { tmps := tmps, defers := [] } [.code assign, .beginRound, .code body] := by
    simp [Frame.round, Frame.atR, b]
  have hr' : (WF (some l)).room ((c :: cs).length + 1 + 0) := fun d hd => by cases hd
  have hF' : (WF (some l)).fn b.fn := trivial
  obtain ⟨e, a₁, w₁, hq, harr⟩ := h b [.beginRound, .code body] (c :: cs) rfl hF' hr'
  rw [← hb0] at harr
  cases e with
  | normal =>
    obtain ⟨w₂, hbr, hbody⟩ := hq
    have s1 : StepsIn (Machine.fenced P (WF (some l))) P (lone (b.atR a₁ [.beginRound, .code body]) (c :: cs) w₁) (lone (b.atR a₁ [.code body]) (c :: cs) w₂) :=
      .one (fenced_calm (fr := b.atR a₁ [.beginRound, .code body]) hF' hr' rfl) (stepR_beginRound rfl hbr)
    obtain ⟨e₂, a₂, w₃, hq₂, harr₂⟩ := hbody b [] (c :: cs) rfl hF' hr'
    cases e₂ with
    | normal =>
      obtain ⟨v, w₄, hend, hR⟩ := hq₂
      exact ⟨.returned v, w₄, hR, (StepsIn.trans harr s1).trans (StepsIn.trans harr₂ (.one (fenced_calm (fr := b.atR a₂ []) hF' hr' rfl) (stepR_round_end rfl rfl hend)))⟩
    | ret =>
      obtain ⟨v, w₄, hend, hR⟩ := hq₂
      obtain ⟨k₁, hs⟩ := harr₂.2 rfl
      exact ⟨.returned v, w₄, hR, (StepsIn.trans harr s1).trans (StepsIn.trans hs (.one (fenced_calm (fr := b.atR a₂ (.code .ret :: k₁)) hF' hr' rfl) (stepR_round_ret rfl rfl hend)))⟩
    | exit id =>
      obtain ⟨v, w₄, hend, hR⟩ := hq₂
      obtain ⟨k₁, hk, hs⟩ := harr₂.2 rfl rfl
      exact ⟨.returned v, w₄, hR, (StepsIn.trans harr s1).trans (StepsIn.trans hs (.one (fenced_calm (fr := b.atR a₂ (.code (.exit id) :: k₁)) hF' hr' rfl) (stepR_round_exit rfl rfl hk hend)))⟩
    | goto t =>
      obtain ⟨v, w₄, hend, hR⟩ := hq₂
      obtain ⟨k₁, hk, hs⟩ := harr₂.2 rfl rfl
      exact ⟨.returned v, w₄, hR, (StepsIn.trans harr s1).trans (StepsIn.trans hs (.one (fenced_calm (fr := b.atR a₂ (.code (.goto t) :: k₁)) hF' hr' rfl) (stepR_round_goto rfl rfl hk hend)))⟩
    | panic chain =>
      obtain ⟨hd, hR⟩ := hq₂
      obtain ⟨todo, hs⟩ := harr₂
      have hlv : Frame.leaving P { b.atR a₂ todo with mode := .panicking chain } w₃ (.panicked chain) := ⟨rfl, hd, fn, hfn⟩
      exact ⟨.panicked chain, w₃, hR, (StepsIn.trans harr s1).trans (StepsIn.trans hs (.one (fenced_leaving (n := 0) hF' hr' hlv) (step_leave_panicked hlv)))⟩
    | outgrown => exact hq₂.elim
  | exit id => exact hq.elim
  | goto t => exact hq.elim
  | ret => exact hq.elim
  | panic chain => exact hq.elim
  | outgrown => exact hq.elim

/-! ### Code of a function that is known -/

def wpK (P : Program) (f0 : FuncId) (c : Code) (Q : Exit → Act → World → Prop) (a : Act) (w : World) : Prop :=
  ∀ (b : Frame) (k : List Item) (cs : List Frame), b.roundOf = none → b.fn = f0 →
    ∃ e a' w', Q e a' w' ∧ ArrivesIn (Machine.fenced P (WF none)) P (lone (b.atR a (.code c :: k)) cs w) b k cs e a' w'

theorem room_WF {r : Option Nat} (k : Nat) : (WF r).room k := fun d hd => by cases hd

theorem wpK_of {P : Program} {f0 : FuncId} {c : Code} {Q : Exit → Act → World → Prop} {a : Act} {w : World} (h : c.wpIn (WF none) 0 P Q a w) : wpK P f0 c Q a w :=
  fun b k cs hro _ => h b k cs hro trivial (room_WF _)

theorem wpK_seq {P : Program} {f0 : FuncId} {x y : Code} {Q : Exit → Act → World → Prop} {a : Act} {w : World} (h : x.wpIn (WF none) 0 P (Exit.then (wpK P f0 y Q) Q) a w) : wpK P f0 (.seq x y) Q a w := by
  intro b k cs hro hbf
  have hr := room_WF (r := none) (cs.length + 1 + 0)
  have hb : (WF none).fn b.fn := trivial
  have h0 : (lone (b.atR a (.code (.seq x y) :: k)) cs w).fenced P (WF none) := fenced_calm hb hr rfl
  obtain ⟨e, a₁, w₁, hq, harr⟩ := h b (.code y :: k) cs hro hb hr
  cases e with
  | normal =>
    obtain ⟨e₂, a₂, w₂, hq₂, harr₂⟩ := hq b k cs hro hbf
    exact ⟨e₂, a₂, w₂, hq₂, .of_steps (.head h0 stepR_seq harr) harr₂⟩
  | exit id => exact ⟨_, a₁, w₁, hq, .of_steps (.one h0 stepR_seq) (.pass (x := .code y) rfl (fun _ _ => .inl (by simp)) harr)⟩
  | goto l => exact ⟨_, a₁, w₁, hq, .of_steps (.one h0 stepR_seq) (.pass (x := .code y) rfl (fun _ _ => .inl (by simp)) harr)⟩
  | ret => exact ⟨_, a₁, w₁, hq, .of_steps (.one h0 stepR_seq) (.pass (x := .code y) rfl (fun _ _ => .inl (by simp)) harr)⟩
  | panic ch => exact ⟨_, a₁, w₁, hq, .of_steps (.one h0 stepR_seq) (.pass (x := .code y) rfl (fun _ _ => .inl (by simp)) harr)⟩
  | outgrown => exact ⟨_, a₁, w₁, hq, .of_steps (.one h0 stepR_seq) (.pass (x := .code y) rfl (fun _ _ => .inl (by simp)) harr)⟩

theorem wpK_rangeFunc {P : Program} {f0 : FuncId} {g : Operand} {ps : Array Tmp} {assign body : Code} {Q : Exit → Act → World → Prop} {a : Act} {w : World}
    (h : ∃ (l : Nat) (mark : List Deferred) (w₁ : World) (d : Deferred) (w₁' : World) (f : FuncId) (args : Array Value) (w₂ : World),
      (Instr.enterLoop f0 a.tmps ps assign body none).run P w = .ok (l, mark) w₁ ∧
      (resolve a.eval (rangeCall g l) 0).run P w₁ = .ok d w₁' ∧
      (invoke d.target d.args).run P w₁' = .ok (.enter f args) w₂ ∧
      CallsIn (WF none) 0 P f args w₂ (rangePost (WF none) 0 P l Q { a with defers := mark ++ a.defers })) :
    wpK P f0 (.rangeFunc g ps assign body) Q a w := by
  intro b k cs hro hbf
  have hr := room_WF (r := none) (cs.length + 1 + 0)
  have hb : (WF none).fn b.fn := trivial
  obtain ⟨l, mark, w₁, d, w₁', f, args, w₂, he, hres, hinv, hF, hcall⟩ := h
  rw [← hbf, ← hro] at he
  have h0 : (lone (b.atR a (.code (.rangeFunc g ps assign body) :: k)) cs w).fenced P (WF none) :=
    fenced_lone (.inl hb) (fun f' hf' => trivial) (Fence.room_le hr (by omega))
  have henter := stepR_rangeFunc (P := P) (b := b) (a := a) (k := k) (cs := cs) (w := w) he hres hinv
  have hroom : (WF none).room ((b.atR { a with defers := mark ++ a.defers } (.inRangeFunc l :: k) :: cs).length + 1 + 0) := room_WF _
  obtain ⟨e, w₃, fr, hR, hsteps, hfn, hleave⟩ := hcall (b.atR { a with defers := mark ++ a.defers } (.inRangeFunc l :: k) :: cs) hroom
  cases e with
  | outgrown =>
    obtain ⟨a₀, w₀, hq⟩ := hR
    exact ⟨.outgrown, a₀, w₀, hq, .inr (Outgrown.of_steps (.one henter) hsteps)⟩
  | returned v =>
    have hl : (lone fr (b.atR { a with defers := mark ++ a.defers } (.inRangeFunc l :: k) :: cs) w₃).fenced P (WF none) := fenced_leaving (hfn ▸ hF) hroom hleave
    obtain ⟨jump, w₄, hend, hj⟩ := hR
    have sback : StepsIn (Machine.fenced P (WF none)) P (lone (b.atR a (.code (.rangeFunc g ps assign body) :: k)) cs w) (lone (b.atR { a with defers := mark ++ a.defers } ((jump.map Item.code).toList ++ k)) cs w₄) := by
      refine .head h0 henter (StepsIn.trans hsteps (.head hl ?_ (.one (fenced_calm (fr := b.atR { a with defers := mark ++ a.defers } (.endRangeFunc l :: k)) hb hr rfl) (stepR_endRangeFunc hend))))
      rw [← finish_atR_inRangeFunc l v]; exact step_leave_returned hleave
    cases jump with
    | none => exact ⟨.normal, _, w₄, hj, sback⟩
    | some c =>
      obtain ⟨e', a'', w₅, hq, harr⟩ := hj b k cs hro hb hr
      exact ⟨e', a'', w₅, hq, .of_steps sback harr⟩
  | panicked chain =>
    have hl : (lone fr (b.atR { a with defers := mark ++ a.defers } (.inRangeFunc l :: k) :: cs) w₃).fenced P (WF none) := fenced_leaving (hfn ▸ hF) hroom hleave
    refine ⟨.panic chain, _, w₃, hR, .inRangeFunc l :: k, .head h0 henter (StepsIn.trans hsteps (.one hl ?_))⟩
    rw [← Frame.raise_atR]; exact step_leave_panicked hleave

theorem callsIn_of_wpK {P : Program} {f : FuncId} {fn : Func} {c : Code} {args : Array Value} {w : World} {R : Ending → World → Prop}
    (hf : P.funcs[f]? = some fn) (hb : fn.body = some c)
    (h : wpK P f c (bodyPostM (WF none) 0 P fn R) { tmps := args ++ Array.replicate (fn.ntmps - args.size) undef, defers := [] } w) : CallsIn (WF none) 0 P f args w R := by
  refine ⟨trivial, fun cs hr => ?_⟩
  have hF : (WF none).fn f := trivial
  let b : Frame := { (default : Frame) with fn := f, kind := .normal, roundOf := none }
  have henter : Frame.enter P f args .normal =
      b.atR { tmps := args ++ Array.replicate (fn.ntmps - args.size) undef, defers := [] } [.code c] := by
    simp [Frame.enter, Frame.atR, hf, hb, b]
  obtain ⟨e, a', w', hq, harr⟩ := h b [] cs rfl rfl
  rw [← henter] at harr
  cases e with
  | normal =>
    obtain ⟨e', w'', fr', hR, hs, hfn, hl⟩ := leaves_stepsInM a'.defers .returning w' { b.atR a' [] with mode := .returning } cs rfl rfl rfl hf rfl hF hr hq
    exact ⟨e', w'', fr', hR, ComesIn.of_steps (StepsIn.trans harr (.one (fenced_calm (fr := b.atR a' []) hF hr rfl) (stepR_end rfl))) hs, hfn, hl⟩
  | ret =>
    obtain ⟨todo, hs₀⟩ := harr.1 rfl
    obtain ⟨e', w'', fr', hR, hs, hfn, hl⟩ := leaves_stepsInM a'.defers .returning w' { b.atR a' todo with mode := .returning } cs rfl rfl rfl hf rfl hF hr hq
    exact ⟨e', w'', fr', hR, ComesIn.of_steps hs₀ hs, hfn, hl⟩
  | panic chain =>
    obtain ⟨todo, hs₀⟩ := harr
    obtain ⟨e', w'', fr', hR, hs, hfn, hl⟩ := leaves_stepsInM a'.defers (.panicking chain) w' { b.atR a' todo with mode := .panicking chain } cs rfl rfl rfl hf rfl hF hr hq
    exact ⟨e', w'', fr', hR, ComesIn.of_steps hs₀ hs, hfn, hl⟩
  | exit id => exact hq.elim
  | goto l => exact hq.elim
  | outgrown => exact ⟨.outgrown, w', b, hq, harr.resolve_left (by simp [b]), rfl, trivial⟩

/-! ### The judgement over it -/

/-- A call that comes back with v and p, or gives up and leaves F. -/
def ItX (v : Value) (B : Nat) (p : World → Prop) (F : List PanicEntry → World → Prop) (w : World) : Ending → World → Prop := fun e w' => Keep B w w' ∧ ((e = .returned v ∧ p w') ∨ ∃ ch, e = .panicked ch ∧ F ch w')

def Tkn (P : Program) (f0 : FuncId) (w0 : World) (Q : Exit → Act → World → Prop) (c : Code) (E : Env) (H : List Seg) : Prop := ∀ a w, E.ok a → St w0 H w → wpK P f0 c Q a w

theorem tk_seq {P : Program} {f0 : FuncId} {w0 : World} {Q : Exit → Act → World → Prop} {x y : Code} {E : Env} {H : List Seg} (h : T ⟨P, none, w0, Exit.then (wpK P f0 y Q) Q⟩ [] x E H) : Tkn P f0 w0 Q (.seq x y) E H := fun a w e s => wpK_seq (h a w e s)
theorem tx_k {P : Program} {f0 : FuncId} {w0 : World} {Q : Exit → Act → World → Prop} {y : Code} {E : Env} {H : List Seg} (h : Tkn P f0 w0 Q y E H) : TX ⟨P, none, w0, Exit.then (wpK P f0 y Q) Q⟩ .normal [] E H := tn_nil fun a w e s => h a w e s
theorem tk_of {P : Program} {f0 : FuncId} {w0 : World} {Q : Exit → Act → World → Prop} {c : Code} {E : Env} {H : List Seg} (h : T ⟨P, none, w0, Q⟩ [] c E H) : Tkn P f0 w0 Q c E H := fun a w e s => wpK_of (h a w e s)

theorem calls_TK {P : Program} {f : Nat} {fn : Func} {c : Code} {av : List Value} {w : World} {R : Ending → World → Prop} {H : List Seg} (hf : P.funcs[f]? = some fn) (hb : fn.body = some c) (hn : Nat.ble av.length fn.ntmps = true)
    {m0 : List (Nat × Value)} (hm : argEnv 0 av = m0) (hs : St w H w) (h : Tkn P f w (bodyPostM (WF none) 0 P fn R) c ⟨fn.ntmps, m0, []⟩ H) : Calls P f av.toArray w R := by
  suffices hc : CallsIn (WF none) 0 P f av.toArray w R from callsIn_wide.1 hc
  refine callsIn_of_wpK hf hb ?_
  have hle : av.length ≤ fn.ntmps := Nat.le_of_ble_eq_true hn
  refine h _ w ⟨by simp; omega, rfl, fun s v hs => ?_⟩ hs
  subst hm
  obtain ⟨_, h2⟩ := argEnv_get av 0 s v hs
  rw [Nat.sub_zero] at h2
  have hlt : s < av.length := (List.getElem?_eq_some_iff.1 h2).1
  rw [Array.getElem?_append_left (by simpa using hlt)]
  simpa using h2

/-- The record of a loop of the function f. -/
def isLpF (f : FuncId) (K : LKey) (st : LoopState) (pend : Option Code) (o : Obj) : Prop :=
  ∃ tmps df, o = .loop { state := st, pending := pend, fn := f, tmps, params := #[K.p], assign := K.asg, body := K.body, defers := df } ∧ Env.ok ⟨K.n, K.m, []⟩ ⟨tmps, []⟩

def RJP (P : Program) (l : Nat) (body : Code) (R : Ending → World → Prop) (a : Act) (w : World) : Prop :=
  ∃ w₂, (Instr.beginRound l).run P w = .ok () w₂ ∧ body.wpIn (WF (some l)) 0 P (roundPostP P l R) a w₂

theorem t_beginP {P : Program} {l : Nat} {w0 : World} {body : Code} {R : Ending → World → Prop} {E : Env} {H H2 : List Seg} {f : FuncId} {K : LKey} [h : OwnAt l H (isLpF f K .ready none) H2]
    (hb : T ⟨P, some l, w0, roundPostP P l R⟩ [] body E (.own l (isLpF f K .busy none) :: H2)) : TX ⟨P, some l, w0, QF⟩ .normal [.inv (RJP P l body R)] E H := fun a w e s => by
  obtain ⟨o, h1, tmps, df, rfl, h3⟩ := s.own_at (b := l)
  exact ⟨_, run_beginRound h1 rfl, hb _ _ e (s.put h1 ⟨tmps, df, rfl, h3⟩)⟩

theorem t_rendP {P : Program} {l B : Nat} {w : World} {E : Env} {H H2 : List Seg} {f : FuncId} {K : LKey} {F : List PanicEntry → World → Prop} {S'' : List Seg} (S' : List Seg) (hS : S'' = S') [h : OwnAt l H (isLpF f K .busy none) H2] [hs : SnapAt w H2 B w.heap.size] [hsub : SubH S' H2]
    (hh : ∀ s ∈ S', s.hi ≤ B) (hl : l < B) : TX ⟨P, some l, w, roundPostP P l (ItX (.bool true) B (StB B (.own l (isLpF f K .ready none) :: S'')) F w)⟩ .normal [] E H := fun a w' e s => by
  subst hS
  obtain ⟨o, h1, tmps, df, rfl, h3⟩ := s.own_at (b := l)
  have s2 := s.put h1 (q := isLpF f K .ready none) (o := .loop { state := .ready, pending := none, fn := f, tmps, params := #[K.p], assign := K.asg, body := K.body, defers := df }) ⟨tmps, df, rfl, h3⟩
  haveI : SnapAt w (.own l (isLpF f K .ready none) :: H2) B w.heap.size := ⟨List.mem_cons_of_mem _ hs.mem⟩
  haveI : SubH (.own l (isLpF f K .ready none) :: S'') (.own l (isLpF f K .ready none) :: H2) := inferInstance
  refine ⟨_, _, run_endRound none h1, keep_of s2, .inl ⟨rfl, s2.toB ?_⟩⟩
  intro z hz
  rcases List.mem_cons.1 hz with rfl | hz
  · exact hl
  · exact hh z hz

theorem yc_roundP {P : Program} {l B : Nat} {w : World} {f : FuncId} {fn : Func} {K : LKey} {H : List Seg} {v : Value} {R : Ending → World → Prop} {n : Nat} {m : List (Nat × Value)} {p : Nat} {asg body : Code} (hf : P.funcs[f]? = some fn) (hK : K = ⟨n, m, p, asg, body⟩) (hs : StB B (.own l (isLpF f K .ready none) :: H) w) (hB : B ≤ w.heap.size) (hp' : Nat.blt p n = true)
    (h' : T ⟨P, some l, w, QF⟩ [.inv (RJP P l body R)] asg ⟨n, (p, v) :: m, []⟩ (.own l (isLpF f K .ready none) :: .snap B w.heap.size w :: H)) : YC P l #[v] w R := by
  subst hK
  have s := (hs.start hB).perm (List.Perm.swap ..)
  obtain ⟨o, h1, tmps, df, rfl, h3⟩ := s.own_at (b := l) (p := isLpF f ⟨n, m, p, asg, body⟩ .ready none)
  refine ⟨_, _, _, _, run_yield h1 rfl, roundIn_of_wpInP hf ?_⟩
  have he := h3.put hp' v
  have := h' { tmps := tmps.setIfInBounds p v, defers := [] } w he s
  have hfo : Array.foldl (fun (tmps : Array Value) (x : Nat × Value) => match x with | (t, a) => tmps.setIfInBounds t a) tmps (#[p].zip #[v]) = tmps.setIfInBounds p v := by simp
  simp only [hfo]
  exact this

/-- The range: its rounds may give up. -/
theorem tk_rf {P : Program} {f0 : FuncId} {w0 : World} {Q : Exit → Act → World → Prop} {g : Operand} {p : Nat} {asg body : Code} {n : Nat} {m : List (Nat × Value)} {H H0 : List Seg} {gf : Nat} {lb : List Value} (hg : ev m g = some (.func (.func gf) #[] lb.toArray)) [hfn : FnOk P gf]
    {α : Type} (S : List α → List Seg) (L0 : List α) (hS0 : S L0 = H0) [hsub : SubH H0 H] (Fp : LKey → Nat → Nat → Nat → List PanicEntry → World → Prop)
    (hseq : ∀ (K : LKey) (l D : Nat) (w₂ : World), K = ⟨n, m, p, asg, body⟩ → St w0 (.own l (isLpF f0 K .ready none) :: .own D isDf :: S L0) w₂ →
      Calls P gf (#[.func (.yield l) #[] #[]] ++ lb.toArray) w₂ (ItX (.tuple #[]) w₂.heap.size (StB w₂.heap.size (.own l (isLpF f0 K .ready none) :: .own D isDf :: S [])) (Fp K l D w₂.heap.size) w₂))
    (hdone : ∀ D a w, Env.ok ⟨n, m, [mark D]⟩ a → St w0 (.own D isDf :: S []) w → Q .normal a w)
    (hpan : ∀ K l D B ch w₃ a, Fp K l D B ch w₃ → w0.heap.size ≤ B → B ≤ w₃.heap.size → (w₃.os = w0.os ∧ w₃.tape = w0.tape ∧ w₃.output = w0.output) → Env.ok ⟨n, m, [mark D]⟩ a → Q (.panic ch) a w₃) : Tkn P f0 w0 Q (.rangeFunc g #[p] asg body) ⟨n, m, []⟩ H := by
  intro a w e s
  refine wpK_rangeFunc ?_
  have hev : a.eval g = .func (.func gf) #[] lb.toArray := e.ev hg
  let K : LKey := ⟨n, m, p, asg, body⟩
  let w₁ : World := (w.alloc (.deferred (some []))).alloc (.loop { state := .ready, pending := none, fn := f0, tmps := a.tmps, params := #[p], assign := asg, body, defers := w.heap.size })
  have s0 : St w0 H0 w := s.sub
  have s1 : St w0 (.own w.heap.size isDf :: H0) (w.alloc (.deferred (some []))) := s0.alloc (p := isDf) rfl
  have s2 : St w0 (.own (w.heap.size + 1) (isLpF f0 K .ready none) :: .own w.heap.size isDf :: S L0) w₁ := by
    rw [hS0]
    have := s1.alloc (o := .loop { state := .ready, pending := none, fn := f0, tmps := a.tmps, params := #[p], assign := asg, body, defers := w.heap.size }) (p := isLpF f0 K .ready none) ⟨a.tmps, w.heap.size, rfl, ⟨e.size, rfl, e.get⟩⟩
    rw [World.size_alloc] at this
    exact this
  have hres : (resolve a.eval (rangeCall g (w.heap.size + 1)) 0).run P w₁ = .ok { target := .fn (.func gf) lb.toArray, args := #[] ++ #[Value.func (.yield (w.heap.size + 1)) #[] #[]] } w₁ := by
    simp only [resolve, hev, List.map_toArray, List.map_cons, List.map_nil, show ∀ v, a.eval (.const v) = v from fun _ => rfl, Deferred.ofValue, run_ok]
  refine ⟨w.heap.size + 1, [mark w.heap.size], w₁, _, w₁, gf, #[.func (.yield (w.heap.size + 1)) #[] #[]] ++ lb.toArray, w₁, run_enterLoop_outer f0 a.tmps #[p] asg body, hres, ?_, ?_⟩
  · simp only [invoke]
    rw [show (#[] ++ #[Value.func (Fn.yield (w.heap.size + 1)) #[] #[]] ++ lb.toArray : Array Value) = #[Value.func (Fn.yield (w.heap.size + 1)) #[] #[]] ++ lb.toArray from by simp]
    exact hfn.run _ _
  refine callsIn_WF ((hseq K _ _ w₁ rfl s2).mono ?_)
  have e' : Env.ok ⟨n, m, [mark w.heap.size]⟩ { a with defers := [mark w.heap.size] ++ a.defers } := ⟨e.size, by show [mark w.heap.size] ++ a.defers = [mark w.heap.size]; rw [show a.defers = [] from e.ds]; rfl, e.get⟩
  rintro en w₃ ⟨hk, ⟨rfl, h⟩ | ⟨ch, rfl, h⟩⟩
  · have s3 : St w0 (.own (w.heap.size + 1) (isLpF f0 K .ready none) :: .own w.heap.size isDf :: S []) w₃ :=
      ⟨hk.os.trans s2.os, hk.tape.trans s2.tape, hk.output.trans s2.output, Nat.le_trans s2.ge hk.size, fun q hq => Nat.le_trans (h.1 q hq) hk.size, h.2.1, h.2.2⟩
    obtain ⟨o, h1, tmps, df, rfl, h3⟩ := s3.own_at (b := w.heap.size + 1) (p := isLpF f0 K .ready none)
    have s4 := s3.put h1 (q := fun _ => True) (o := .loop { state := .exhausted, pending := none, fn := f0, tmps, params := #[K.p], assign := K.asg, body := K.body, defers := df }) trivial
    exact ⟨_, _, run_endLoop h1 (by simp), hdone _ _ _ e' s4.tail⟩
  · exact hpan K _ _ _ ch w₃ _ h s2.ge hk.size ⟨hk.os.trans s2.os, hk.tape.trans s2.tape, hk.output.trans s2.output⟩ e'

/-- The way out of a function that holds such a range, by a panic. -/
theorem leave_panM {P : Program} {fn : Func} {R : Ending → World → Prop} {n : Nat} {m : List (Nat × Value)} {D : Nat} {a : Act} {w : World} {ch : List PanicEntry} (e : Env.ok ⟨n, m, [mark D]⟩ a) (h : w.heap[D]? = some (.deferred (some []))) (hR : R (.panicked ch) (w.putObj D (.deferred none))) :
    bodyPostM (WF none) 0 P fn R (.panic ch) a w := by
  show LeavesInM (WF none) 0 P fn a.tmps R a.defers (.panicking ch) w
  rw [e.ds]
  exact ⟨by simp, .inl ⟨D, _, rfl, run_takeDeferred h, hR⟩⟩
/-- And by its end. -/
theorem leave_endM {P : Program} {fn : Func} {R : Ending → World → Prop} {n : Nat} {m : List (Nat × Value)} {D : Nat} {a : Act} {w : World} (hr : fn.results = #[]) (e : Env.ok ⟨n, m, [mark D]⟩ a) (h : w.heap[D]? = some (.deferred (some []))) (hR : R (.returned (.tuple #[])) (w.putObj D (.deferred none))) :
    bodyPostM (WF none) 0 P fn R .normal a w := by
  show LeavesInM (WF none) 0 P fn a.tmps R a.defers .returning w
  rw [e.ds]
  exact ⟨by simp, .inl ⟨D, _, rfl, run_takeDeferred h, _, run_results (l := []) (vs := []) hr rfl (fun i r v h => by simp at h), hR⟩⟩
/-- Without a mark. -/
theorem leave_ret0M {P : Program} {fn : Func} {R : Ending → World → Prop} {E : Env} {a : Act} {w : World} (hr : fn.results = #[]) (e : E.ok a) (hd : E.ds = []) (hR : R (.returned (.tuple #[])) w) : bodyPostM (WF none) 0 P fn R .ret a w := by
  show LeavesInM (WF none) 0 P fn a.tmps R a.defers .returning w
  rw [show a.defers = [] from e.ds.trans hd]
  exact ⟨_, run_results (l := []) (vs := []) hr rfl (fun i r v h => by simp at h), hR⟩
theorem leave_pan0 {P : Program} {fn : Func} {R : Ending → World → Prop} {E : Env} {a : Act} {w : World} {ch : List PanicEntry} (e : E.ok a) (hd : E.ds = []) (hR : R (.panicked ch) w) : bodyPostM (WF none) 0 P fn R (.panic ch) a w := by
  show LeavesInM (WF none) 0 P fn a.tmps R a.defers (.panicking ch) w
  rw [show a.defers = [] from e.ds.trans hd]
  exact hR

section
variable {x : Cx} {ops : Array Oper} {rest : List Oper} {ks : List KI} {n : Nat} {m : List (Nat × Value)} {ds : List Deferred} {H H2 : List Seg}
variable {ty : TypeId} {pos : String} {aft : Array Edge} {dd : Nat}
/-- yield is called: the round says yes, or gives up. -/
theorem to_callYX {y B : Nat} {g : Operand} {l : List Operand} {ts : Array TypeId} {av : List Value} {p p1 : World → Prop} {F : List PanicEntry → World → Prop} (hg : ev m g = some (.func (.yield y) #[] #[])) (hl : evs m l = some av) [hr : RegAt H 0 B p H2] (hx : x.r = none)
    (hc : ∀ w, St x.w0 H w → YC x.P y av.toArray w (ItX (.bool true) B p1 F w)) (hd : Nat.blt dd n = true)
    (ht : TO x false ops rest ks ⟨n, (dd, .bool true) :: m, ds⟩ (.reg 0 B p1 :: H2)) [hsn : SnapAt x.w0 H B x.w0.heap.size] (hf : ∀ ch a w', F ch w' → Keep B x.w0 w' → Env.ok ⟨n, m, ds⟩ a → x.Q (.panic ch) a w') :
    TO x false ops (⟨some dd, .call ⟨.value g, l.toArray, ts⟩, ty, pos, aft, none⟩ :: rest) ks ⟨n, m, ds⟩ H := by
  intro a w e s
  refine wpListIn_plain rfl fun K hK => ?_
  refine ⟨fun _ _ => trivial, ?_⟩
  rw [Oper.semAt_eq _ _ _ (fun _ h => by cases h), exec_yield (e.ev hg) (e.evs hl)]
  obtain ⟨f, tmps, asg, body, h1, h2⟩ := hc w s
  rw [h1]
  refine ⟨(fun h => by cases h), ?_⟩
  rw [hx]
  refine h2.mono ?_
  rintro en w' ⟨hk, ⟨rfl, hp⟩ | ⟨ch, rfl, hp⟩⟩
  · exact hK _ _ (ht _ _ (e.put hd _) ((s.perm hr.perm).turn hk hp))
  · have hk2 : Keep B x.w0 w' := Keep.trans ⟨s.os, s.tape, s.output, s.ge, fun k h1 h2 => s.ok _ hsn.mem k h1 h2⟩ hk
    show Qk x ks (.panic ch) a w'
    rw [Qk_panic]
    exact hf ch a w' hp hk2 e
end
theorem t_end0X {P : Program} {fn : Func} {w : World} {E : Env} {H H2 : List Seg} {B : Nat} {p : World → Prop} {F : List PanicEntry → World → Prop} (hr : fn.results = #[]) (hds : E.ds = []) [h : RegAt H 0 B p H2] [hs : SnapAt w H B w.heap.size] (hc : Cong B p) :
    TX ⟨P, none, w, bodyPost P fn (ItX (.tuple #[]) B p F w)⟩ .normal [] E H := t_end0G hr hds (fun w' s => ⟨keep_of s, .inl ⟨rfl, s.regp hc⟩⟩)
theorem t_ret0X {P : Program} {fn : Func} {w : World} {E : Env} {H H2 : List Seg} {B : Nat} {p : World → Prop} {F : List PanicEntry → World → Prop} {ks : List KI} (hr : fn.results = #[]) (hds : E.ds = []) [h : RegAt H 0 B p H2] [hs : SnapAt w H B w.heap.size] (hc : Cong B p) :
    T ⟨P, none, w, bodyPost P fn (ItX (.tuple #[]) B p F w)⟩ ks .ret E H := t_ret0G hr hds (fun w' s => ⟨keep_of s, .inl ⟨rfl, s.regp hc⟩⟩)
end Go.Sx



namespace Go.Sx
open Go Go.RowKit

/-! ### Mixed regions within a round; an operation may give up -/

def QP (PP : List Deferred → List PanicEntry → World → Prop) : Exit → Act → World → Prop
  | .panic ch, a, w => PP a.defers ch w
  | _, _, _ => False

section mixedR
variable {P : Program} {ops : Array Oper} {md : Region.Mode} {C : World → Prop} {S : List Nat} {rr : Option Nat} {PP : List Deferred → List PanicEntry → World → Prop}

def mOpR (rr : Option Nat) (PP : List Deferred → List PanicEntry → World → Prop) (P : Program) (ops : Array Oper) (S : List Nat) (C D : World → Prop) (i : Nat) (K : (World → Prop) → Act → Prop) (a : Act) : Prop :=
  match ops[i]? with
  | none => K D a
  | some o => if Region.wanted o (yielded ops a.tmps) then
      if S.contains i then ∀ w, D w → o.wpIn (WF rr) 0 P a w (fun a' w' => a'.defers = a.defers ∧ ∃ D', Fine ops C i D' ∧ D' w' ∧ K D' a') (QP PP)
      else ∃ v, quietM P C o a v ∧ K D (a.put o.dst v)
    else K D (a.put o.dst undef)

theorem uponR_mono {F : Fence} {n : Nat} {o : Oper} {a : Act} {K K' : Act → World → Prop} {r : Result Next} (h : ∀ a w, K a w → K' a w) (hh : o.uponIn F n P a K (QP PP) r) : o.uponIn F n P a K' (QP PP) r := by
  have hL : ¬ LetsOut (QP PP) := fun ⟨_, _, h⟩ => h
  unfold Oper.uponIn at *
  split <;> simp only at hh
  · exact h _ _ hh
  · exact h _ _ hh
  · exact h _ _ hh
  · exact ⟨hh.1, hh.2.mono fun e w' he => by
      cases e with
      | returned v => exact h _ _ he
      | panicked c => exact he
      | outgrown => exact (hL he).elim⟩
  · exact ⟨hh.1, hh.2.mono fun v w' hv => h _ _ hv⟩
  · exact ⟨hh.1, hh.2.mono fun e w' he => by
      cases e with
      | returned v => exact h _ _ he
      | panicked c => exact he
      | outgrown => exact (hL he).elim⟩
  · exact hh

theorem put_defers (a : Act) (d : Option Tmp) (u : Value) : (a.put d u).defers = a.defers := by cases d <;> rfl

/-- The same operation, carried out ahead of another one's value. -/
theorem uponR_put {F : Fence} {n : Nat} {o : Oper} {a : Act} {d : Option Tmp} {u : Value} {K K' : Act → World → Prop} {r : Result Next} (h : ∀ v w, K ((a.put d u).put o.dst v) w → K' (a.put o.dst v) w)
    (hd : ∀ x w, ¬ K ({ (a.put d u) with defers := x :: (a.put d u).defers }.put o.dst undef) w) (hh : o.uponIn F n P (a.put d u) K (QP PP) r) : o.uponIn F n P a K' (QP PP) r := by
  have hL : ¬ LetsOut (QP PP) := fun ⟨_, _, h⟩ => h
  unfold Oper.uponIn at *
  split <;> simp only at hh
  · exact h _ _ hh
  · exact h _ _ hh
  · exact (hd _ _ hh).elim
  · exact ⟨hh.1, hh.2.mono fun e w' he => by
      cases e with
      | returned v => exact h _ _ he
      | panicked c => have he' : PP (a.put d u).defers c w' := he
                      rw [put_defers] at he'; exact he'
      | outgrown => exact (hL he).elim⟩
  · exact ⟨hh.1, hh.2.mono fun v w' hv => h _ _ hv⟩
  · exact ⟨hh.1, hh.2.mono fun e w' he => by
      cases e with
      | returned v => exact h _ _ he
      | panicked c => have he' : PP (a.put d u).defers c w' := he
                      rw [put_defers] at he'; exact he'
      | outgrown => exact (hL he).elim⟩
  · simpa only [QP, put_defers] using hh

theorem uponR_toQ {F : Fence} {n : Nat} {o : Oper} {a : Act} {K K' : Act → World → Prop} {Q' : Exit → Act → World → Prop} {r : Result Next} (hP : ∀ a ch w, PP a.defers ch w → Q' (.panic ch) a w) (h : ∀ a w, K a w → K' a w) (hh : o.uponIn F n P a K (QP PP) r) : o.uponIn F n P a K' Q' r := by
  have hL : ¬ LetsOut (QP PP) := fun ⟨_, _, h⟩ => h
  unfold Oper.uponIn at *
  split <;> simp only at hh
  · exact h _ _ hh
  · exact h _ _ hh
  · exact h _ _ hh
  · exact ⟨hh.1, hh.2.mono fun e w' he => by
      cases e with
      | returned v => exact h _ _ he
      | panicked c => exact hP _ _ _ he
      | outgrown => exact (hL he).elim⟩
  · exact ⟨hh.1, hh.2.mono fun v w' hv => h _ _ hv⟩
  · exact ⟨hh.1, hh.2.mono fun e w' he => by
      cases e with
      | returned v => exact h _ _ he
      | panicked c => exact hP _ _ _ he
      | outgrown => exact (hL he).elim⟩
  · exact hP _ _ _ hh

theorem mOpR_mono {D : World → Prop} {i : Nat} {a : Act} {K K' : (World → Prop) → Act → Prop} (h : ∀ D a, K D a → K' D a) (hh : mOpR rr PP P ops S C D i K a) : mOpR rr PP P ops S C D i K' a := by
  unfold mOpR at *
  split
  · exact h _ _ (by simpa [*] using hh)
  · rename_i o ho
    simp only [ho] at hh
    split
    · rename_i hw
      simp only [hw, if_true] at hh
      split
      · rename_i hs
        simp only [hs, if_true] at hh
        intro w hD
        refine ⟨(hh w hD).1, uponR_mono (fun a' w' h' => ?_) (hh w hD).2⟩
        obtain ⟨h1, D', h2, h3, h4⟩ := h'
        exact ⟨h1, D', h2, h3, h _ _ h4⟩
      · rename_i hs
        simp only [hs] at hh
        obtain ⟨v, h1, h2⟩ := hh
        exact ⟨v, h1, h _ _ h2⟩
    · rename_i hw; simp only [hw] at hh; exact h _ _ hh

/-- Whatever order is picked from here on. -/
def mAnyR (rr : Option Nat) (PP : List Deferred → List PanicEntry → World → Prop) (P : Program) (md : Region.Mode) (ops : Array Oper) (S : List Nat) (C : World → Prop) (Q : (World → Prop) → Act → Prop) : Nat → Array Bool → (World → Prop) → Act → Prop
  | 0, listed, D, a => Region.ready md ops listed = [] ∧ Q D a
  | fuel + 1, listed, D, a =>
    (Region.ready md ops listed = [] → Q D a) ∧
    ∀ i ∈ Region.ready md ops listed, mOpR rr PP P ops S C D i (fun D' a' => mAnyR rr PP P md ops S C Q fuel (listed.setIfInBounds i true) D' a') a

theorem wpAnyIn_of_mR (hnd : ∀ (j : Nat) (o : Oper) c, ops[j]? = some o → o.op ≠ .defer c) {Q : (World → Prop) → Act → Prop} {Q' : Exit → Act → World → Prop} (hQ : ∀ D a w, Q D a → D w → Q' .normal a w) (hP : ∀ a ch w, PP a.defers ch w → Q' (.panic ch) a w) :
    ∀ (fuel : Nat) (listed : Array Bool) (D : World → Prop) (a : Act) (w : World), (Good C D ∨ Region.ready .any ops listed = []) → D w → mAnyR rr PP P .any ops S C Q fuel listed D a → wpAnyIn (WF rr) 0 P .any ops Q' fuel listed a w
  | 0, _, _, _, _, _, hw, h => ⟨h.1, hQ _ _ _ h.2 hw⟩
  | fuel + 1, _, D, _, w, hg, hw, h => by
    refine ⟨fun h0 => hQ _ _ _ (h.1 h0) hw, fun i hi => ?_⟩
    have hg : Good C D := by
      rcases hg with hg | hg
      · exact hg
      · rw [hg] at hi; cases hi
    have h2 := h.2 i hi
    unfold mOpR at h2
    unfold wpOpIn
    split
    · rename_i ho; simp only [ho] at h2; exact wpAnyIn_of_mR hnd hQ hP fuel _ _ _ _ (.inl hg) hw h2
    · rename_i o ho
      simp only [ho] at h2
      split
      · rename_i hwt
        simp only [hwt, if_true] at h2
        split at h2
        · refine ⟨(h2 w hw).1, uponR_toQ hP (fun a' w' h' => ?_) (h2 w hw).2⟩
          obtain ⟨_, D', h4, h5, h6⟩ := h'
          rcases h4 with ⟨hl, hn⟩ | h4
          · exact wpAnyIn_of_mR hnd hQ hP fuel _ _ _ _ (.inr (last_done hl hn hi)) h5 h6
          · exact wpAnyIn_of_mR hnd hQ hP fuel _ _ _ _ (.inl h4) h5 h6
        · obtain ⟨v, h3, h4⟩ := h2
          have h5 := h3 w (hg.sub w hw)
          refine ⟨fun _ _ => trivial, ?_⟩
          rw [Oper.semAt_eq _ _ _ (fun c => hnd i o c ho)]
          generalize (execOp _ _).run P w = r at *
          cases r with
          | halt x w' => exact h5.elim
          | ok x w' =>
            cases x <;> simp only at h5 <;> simp only [Oper.uponIn]
            case value u => rw [h5.1, h5.2]; exact wpAnyIn_of_mR hnd hQ hP fuel _ _ _ _ (.inl hg) hw h4
            case skip => rw [h5.1, ← h5.2]; exact wpAnyIn_of_mR hnd hQ hP fuel _ _ _ _ (.inl hg) hw h4
            case enter f args =>
              rw [h5.1]
              refine ⟨(fun h => by cases h), callsIn_WF (h5.2.mono ?_)⟩
              rintro _ w'' ⟨rfl, hb⟩
              exact wpAnyIn_of_mR hnd hQ hP fuel _ _ _ _ (.inl hg) (hg.below _ _ hw hb) h4
      · rename_i hwt
        simp only [hwt] at h2
        exact ⟨fun _ _ => trivial, wpAnyIn_of_mR hnd hQ hP fuel _ _ _ _ (.inl hg) hw h2⟩

theorem YieldsM.opR {D : World → Prop} {i : Nat} {o : Oper} {v : Value} {a : Act} (hi : ops[i]? = some o) (hS : S.contains i = false) (hy : YieldsM P ops C o v a) {K : (World → Prop) → Act → Prop} (h : K D (a.put o.dst v)) : mOpR rr PP P ops S C D i K a := by
  unfold mOpR
  simp only [hi]
  rcases hy with ⟨hw, hv⟩ | ⟨hw, rfl⟩
  · simp only [hw, if_true, hS]; exact ⟨v, hv, h⟩
  · simp only [hw, Bool.false_eq_true, if_false]; exact h

theorem yieldsM_of_opR {D : World → Prop} {i : Nat} {o : Oper} {a : Act} {K : (World → Prop) → Act → Prop} (hi : ops[i]? = some o) (hS : S.contains i = false) (h : mOpR rr PP P ops S C D i K a) : ∃ v, YieldsM P ops C o v a ∧ K D (a.put o.dst v) := by
  unfold mOpR at h
  simp only [hi] at h
  by_cases hw : Region.wanted o (yielded ops a.tmps) = true
  · simp only [hw, if_true, hS] at h
    obtain ⟨v, h1, h2⟩ := h
    exact ⟨v, .inl ⟨hw, h1⟩, h2⟩
  · simp only [hw] at h
    exact ⟨undef, .inr ⟨by simpa using hw, rfl⟩, h⟩

theorem mOpR_put (hnd : ∀ (j : Nat) (o : Oper) c, ops[j]? = some o → o.op ≠ .defer c) {D : World → Prop} {j : Nat} {oi oj : Oper} {v : Value} (hj : ops[j]? = some oj) (hap : oi.apart ops oj = true)
    (hsi : ∀ cs b, oi.op ≠ .select cs b) (hsj : ∀ cs b, oj.op ≠ .select cs b) {K : (World → Prop) → Act → Prop} {a : Act}
    (hy : YieldsM P ops C oi v a) (h : mOpR rr PP P ops S C D j K (a.put oi.dst v)) :
    mOpR rr PP P ops S C D j (fun D' a' => YieldsM P ops C oi v a' ∧ K D' (a'.put oi.dst v)) a := by
  have hndj : ∀ c, oj.op ≠ .defer c := fun c => hnd j oj c hj
  obtain ⟨h1, h2, h3⟩ := Oper.apart_spec hap
  have keep : ∀ (a : Act), YieldsM P ops C oi v a → ∀ u, YieldsM P ops C oi v (a.put oj.dst u) := fun a hy u =>
    hy.of_same (execOp_put oi hsi a oj.dst u h3) (wanted_put oi a oj.dst u h3)
  unfold mOpR at *
  simp only [hj] at *
  rw [wanted_put oj a oi.dst v h1] at h
  split
  · rename_i hw
    simp only [hw, if_true] at h
    split
    · rename_i hs
      simp only [hs, if_true] at h
      intro w hD
      have h4 := (h w hD).2
      refine ⟨fun _ _ => trivial, ?_⟩
      rw [Oper.semAt_eq _ _ _ hndj] at h4 ⊢
      rw [execOp_put oj hsj a oi.dst v h1] at h4
      have hdef : ∀ (dd : Option Tmp) (u : Value) (a : Act), (a.put dd u).defers = a.defers := fun dd u a => by cases dd <;> rfl
      refine uponR_put (fun u w' h' => ?_) (fun x w' h' => ?_) h4
      · obtain ⟨e1, D', e2, e3, e4⟩ := h'
        exact ⟨by rw [hdef], D', e2, e3, keep a hy u, by rw [← Act.put_comm a v u h2]; exact e4⟩
      · have := h'.1
        rw [hdef] at this
        have := congrArg List.length this
        simp at this
    · rename_i hs
      simp only [hs] at h
      obtain ⟨u, hu, hn⟩ := h
      refine ⟨u, fun w hw' => ?_, keep a hy u, by rw [← Act.put_comm a v u h2]; exact hn⟩
      have := hu w hw'
      rwa [execOp_put oj hsj a oi.dst v h1] at this
  · rename_i hw
    simp only [hw] at h
    exact ⟨keep a hy _, by rw [← Act.put_comm a v undef h2]; exact h⟩

theorem mAnyR_first (hnd : ∀ (j : Nat) (o : Oper) c, ops[j]? = some o → o.op ≠ .defer c) {Q : (World → Prop) → Act → Prop} {i : Nat} {oi : Oper} {v : Value} (hi : ops[i]? = some oi) (hS : S.contains i = false) (hsel : ∀ (j : Nat) (o : Oper) cs b, ops[j]? = some o → o.op ≠ .select cs b) :
    ∀ (fuel : Nat) (listed : Array Bool) (D : World → Prop) (a : Act),
      (∀ j oj, ops[j]? = some oj → j ≠ i → listed.getD j true = false → (∀ e ∈ oj.after, Region.binds md e = true → e.on ≠ i) → oi.apart ops oj = true) →
      i ∈ Region.ready md ops listed → YieldsM P ops C oi v a →
      mAnyR rr PP P md ops S C Q fuel (listed.setIfInBounds i true) D (a.put oi.dst v) → mAnyR rr PP P md ops S C Q (fuel + 1) listed D a := by
  intro fuel
  induction fuel with
  | zero =>
    intro listed D a _ hr hy H
    refine ⟨fun h => (by rw [h] at hr; cases hr), fun j hj => ?_⟩
    by_cases hji : j = i
    · subst hji; exact hy.opR hi hS H
    · have := ready_mono hj hji
      rw [H.1] at this
      cases this
  | succ fuel ih =>
    intro listed D a hfree hr hy H
    refine ⟨fun h => (by rw [h] at hr; cases hr), fun j hj => ?_⟩
    by_cases hji : j = i
    · subst hji; exact hy.opR hi hS H
    · have h1 := H.2 j (ready_mono hj hji)
      obtain ⟨hjun, oj, hoj, hall⟩ := mem_ready.1 hj
      have hnot : ∀ e ∈ oj.after, Region.binds md e = true → e.on ≠ i := fun e he hb heq => by
        have h1 := hall e he hb
        have h0 := (mem_ready.1 hr).1
        rw [heq] at h1
        rcases Nat.lt_or_ge i listed.size with h' | h'
        · simp [h'] at h0 h1; rw [h0] at h1; cases h1
        · simp [Array.getElem?_eq_none h'] at h1
      have h2 := mOpR_put hnd hoj (hfree j oj hoj hji hjun hnot) (fun cs b => hsel i oi cs b hi) (fun cs b => hsel j oj cs b hoj) hy h1
      have hfree' : ∀ k ok, ops[k]? = some ok → k ≠ i → (listed.setIfInBounds j true).getD k true = false →
          (∀ e ∈ ok.after, Region.binds md e = true → e.on ≠ i) → oi.apart ops ok = true := fun k ok hk hki hun hno => by
        refine hfree k ok hk hki ?_ hno
        by_cases hjk : j = k
        · subst hjk; exact hjun
        · rw [getD_set_ne true hjk] at hun; exact hun
      refine mOpR_mono (fun D' a' h3 => ih (listed.setIfInBounds j true) D' a' hfree' (ready_mono hr (Ne.symm hji)) h3.1 ?_) h2
      rw [Array.setIfInBounds_comm _ _ hji]
      exact h3.2

/-- The lexical walk. -/
def wpMixR (rr : Option Nat) (PP : List Deferred → List PanicEntry → World → Prop) (P : Program) (ops : Array Oper) (S : List Nat) (C : World → Prop) (Q : (World → Prop) → Act → Prop) : List Oper → Nat → (World → Prop) → Act → Prop
  | [], _, D, a => Q D a
  | o :: rest, k, D, a => if Region.wanted o (yielded ops a.tmps) then
      if S.contains k then ∀ w, D w → o.wpIn (WF rr) 0 P a w (fun a' w' => a'.defers = a.defers ∧ ∃ D', Fine ops C k D' ∧ D' w' ∧ wpMixR rr PP P ops S C Q rest (k + 1) D' a') (QP PP)
      else ∃ v, quietM P C o a v ∧ wpMixR rr PP P ops S C Q rest (k + 1) D (a.put o.dst v)
    else wpMixR rr PP P ops S C Q rest (k + 1) D (a.put o.dst undef)

theorem mAnyR_lex {Q : (World → Prop) → Act → Prop} (hs : Region.noSelect ops = true) (hnd : noDefer ops = true) : ∀ (l : List Oper) (k : Nat) (listed : Array Bool) (D : World → Prop) (a : Act), (∀ j, l[j]? = ops[k + j]?) →
    mixFrom md ops S l.length k listed = true → wpMixR rr PP P ops S C Q l k D a → mAnyR rr PP P md ops S C Q l.length listed D a
  | [], _, _, _, _, _, hB, h => ⟨by simpa [mixFrom] using hB, h⟩
  | o :: l, k, listed, D, a, hl, hB, h => by
    have h0 : ops[k]? = some o := by simpa using (hl 0).symm
    simp only [List.length_cons, mixFrom, Bool.and_eq_true] at hB
    obtain ⟨hr, hB'⟩ := hB
    have hst : mOpR rr PP P ops S C D k (fun D' a' => wpMixR rr PP P ops S C Q l (k + 1) D' a') a := by unfold mOpR; simp only [h0]; exact h
    have hnext := fun D' a' (h : wpMixR rr PP P ops S C Q l (k + 1) D' a') => mAnyR_lex (Q := Q) hs hnd l (k + 1) (listed.setIfInBounds k true) D' a' (fun j => by have := hl (j + 1); simpa [Nat.add_assoc, Nat.add_comm 1 j] using this) hB' h
    cases hS : S.contains k with
    | true =>
      rw [hS] at hr
      have hr' : Region.ready md ops listed = [k] := by simpa using hr
      refine ⟨fun h => (by rw [hr'] at h; cases h), fun i hi => ?_⟩
      rw [hr'] at hi
      have : i = k := by simpa using hi
      subst this
      exact mOpR_mono hnext hst
    | false =>
      rw [hS] at hr
      simp only [Bool.false_eq_true, if_false, Bool.and_eq_true] at hr
      obtain ⟨v, hy, hK⟩ := yieldsM_of_opR h0 hS hst
      exact mAnyR_first (noDefer_spec hnd) h0 hS (Region.noSelect_spec hs) l.length listed D a (Region.free_spec h0 hr.2) (by simpa using hr.1) hy (hnext _ _ hK)

theorem wpIn_region_mixR {id : Nat} {Q : Exit → Act → World → Prop} {a : Act} {w : World} {l : List Oper} (S : List Nat) (C D : World → Prop) (hm : P.follows .mixedOrders = true) (hB : mixB .any l.toArray S = true) (hg : Good C D)
    (hP : ∀ a ch w, PP a.defers ch w → Q (.panic ch) a w)
    (hD : D { w with drawn := w.drawn + 1 }) (h : wpMixR rr PP P l.toArray S C (fun D a' => ∀ w', D w' → Q .normal a' w') l 0 D a) : (Code.region id l.toArray true).wpIn (WF rr) 0 P Q a w := by
  simp only [mixB, Bool.and_eq_true] at hB
  refine wpIn_region_any hm (wpAnyIn_of_mR (S := S) (noDefer_spec hB.1.2) (Q := fun D a' => ∀ w', D w' → Q .normal a' w') (fun D a w h hw => h w hw) hP _ _ D _ _ (.inl hg) hD ?_)
  have := mAnyR_lex (rr := rr) (PP := PP) (P := P) (C := C) (md := .any) (S := S) hB.1.1 hB.1.2 l 0 (Array.replicate l.toArray.size false) D a (by simp) (by simpa using hB.2) h
  simpa using this

theorem wpMixR_of_quiet {Q : Act → Prop} {Q' : (World → Prop) → Act → Prop} {D : World → Prop} (h : ∀ a, Q a → Q' D a) : ∀ (l : List Oper) (k : Nat) (a : Act), wpQM P ops C Q l a → wpMixR rr PP P ops [] C Q' l k D a
  | [], _, a, hq => h a hq
  | o :: l, k, a, hq => by
    simp only [wpQM] at hq
    simp only [wpMixR, List.contains_nil, Bool.false_eq_true, if_false]
    split
    · rename_i hw
      simp only [hw, if_true] at hq
      obtain ⟨v, h1, h2⟩ := hq
      exact ⟨v, h1, wpMixR_of_quiet h l _ _ h2⟩
    · rename_i hw
      simp only [hw] at hq
      exact wpMixR_of_quiet h l _ _ hq

end mixedR

def PPx (x : Cx) (ds : List Deferred) (ch : List PanicEntry) (w : World) : Prop := ∀ a : Act, a.defers = ds → x.Q (.panic ch) a w
abbrev Cx.nxR (x : Cx) : Cx := ⟨x.P, x.r, x.w0, QP (PPx x)⟩

def TMR (x : Cx) (S : List Nat) (k : Nat) (ops : Array Oper) (rest : List Oper) (ks : List KI) (E : Env) (Hb H : List Seg) : Prop :=
  ∀ a, E.ok a → (∃ w, St x.w0 Hb w) → wpMixR x.r (PPx x) x.P ops S (St x.w0 Hb) (fun D a' => ∀ w', D w' → Qk x ks .normal a' w') rest k (St x.w0 H) a
def MJR (x : Cx) (S : List Nat) (k : Nat) (ops : Array Oper) (rest : List Oper) (ks : List KI) (ds : List Deferred) (Hb : List Seg) (a : Act) (w : World) : Prop :=
  a.defers = ds ∧ ∃ D', Fine ops (St x.w0 Hb) (k - 1) D' ∧ D' w ∧ wpMixR x.r (PPx x) x.P ops S (St x.w0 Hb) (fun D a' => ∀ w', D w' → Qk x ks .normal a' w') rest k D' a

section
variable {x : Cx} {S : List Nat} {k : Nat} {ops : Array Oper} {rest : List Oper} {ks : List KI} {E : Env} {Hb H : List Seg}

theorem t_regMR {id : Nat} {l : List Oper} (S : List Nat) (Hb : List Seg) (hm : x.P.follows .mixedOrders = true) (hB : mixB .any l.toArray S = true) [SubH Hb H] (h : TMR x S 0 l.toArray l ks E Hb H) : T x ks (.region id l.toArray true) E H := by
  intro a w e s
  exact wpIn_region_mixR S (St x.w0 Hb) (St x.w0 H) hm hB st_good (fun a ch w hp => by rw [Qk_panic]; exact hp a rfl) s.drew (h a e ⟨w, s.sub⟩)
theorem t_regDR {id : Nat} {l : List Oper} (hm : x.P.follows .mixedOrders = true) (hB : mixB .any l.toArray [] = true) (h : TO x true l.toArray l ks E H) : T x ks (.region id l.toArray true) E H := by
  intro a w e s
  exact wpIn_region_mixR [] (St x.w0 H) (St x.w0 H) hm hB ⟨fun _ _ h hb => h.below hb, fun _ h => h⟩ (fun a ch w hp => by rw [Qk_panic]; exact hp a rfl) s.drew (wpMixR_of_quiet (PP := PPx x) (fun a' h' => h') l 0 a (h a e))

theorem tmr_nil (h : TX x .normal ks E H) : TMR x S k ops [] ks E Hb H := fun a e _ w s => h a w e s
theorem tmr_q {o : Oper} (E' : Env) (hS : S.contains k = false) (hq : TO x.nx true ops [o] [.inv (fun a _ => E'.ok a)] E Hb) (h : TMR x S (k + 1) ops rest ks E' Hb H) : TMR x S k ops (o :: rest) ks E Hb H := by
  intro a e hne
  have h1 := hq a e
  have ⟨w, hw⟩ := hne
  simp only [wpQM] at h1
  simp only [wpMixR, hS, Bool.false_eq_true, if_false]
  split
  · rename_i hwt
    simp only [hwt, if_true] at h1
    obtain ⟨v, h2, h3⟩ := h1
    exact ⟨v, h2, h _ (h3 w hw) hne⟩
  · rename_i hwt
    simp only [hwt] at h1
    exact h _ (h1 w hw) hne
theorem tmrq_end {E : Env} {x : Cx} {ops : Array Oper} {H : List Seg} : TO x true ops [] [.inv (fun a _ => E.ok a)] E H := fun _ e _ _ => e
theorem tmr_s {o : Oper} (hS : S.contains k = true) (hs : TO x.nxR false ops [o] [.inv (MJR x S (k + 1) ops rest ks E.ds Hb)] E H) (hnd : ∀ c, o.op ≠ .defer c) (hg : o.guard = none) : TMR x S k ops (o :: rest) ks E Hb H := by
  intro a e hne
  have hw : Region.wanted o (yielded ops a.tmps) = true := by unfold Region.wanted; rw [hg]
  simp only [wpMixR, hS, hw, if_true]
  intro w s
  have h1 := hs a w e s
  simp only [wpListIn, hw, if_true] at h1
  refine ⟨fun _ _ => trivial, ?_⟩
  have h2 := h1.2
  have h2' : o.uponIn (WF x.r) 0 x.P a (MJR x S (k + 1) ops rest ks E.ds Hb) (Exit.then (MJR x S (k + 1) ops rest ks E.ds Hb) (QP (PPx x))) ((o.semAt x.r a.eval).run x.P w) := h2
  have hL : LetsOut (Exit.then (MJR x S (k + 1) ops rest ks E.ds Hb) (QP (PPx x))) → LetsOut (QP (PPx x)) := fun ⟨_, _, h⟩ => ⟨a, w, h⟩
  have h3 : o.uponIn (WF x.r) 0 x.P a (MJR x S (k + 1) ops rest ks E.ds Hb) (QP (PPx x)) ((o.semAt x.r a.eval).run x.P w) := by
    generalize (o.semAt x.r a.eval).run x.P w = r at h2'
    unfold Oper.uponIn at *
    split <;> simp only at h2'
    · exact h2'
    · exact h2'
    · exact h2'
    · exact ⟨h2'.1, h2'.2.mono fun e w' he => by
        cases e with
        | returned v => exact he
        | panicked c => exact he
        | outgrown => exact hL he⟩
    · exact h2'
    · exact ⟨h2'.1, h2'.2.mono fun e w' he => by
        cases e with
        | returned v => exact he
        | panicked c => exact he
        | outgrown => exact hL he⟩
    · exact h2'
  refine uponR_mono (fun a' w' h' => ?_) h3
  obtain ⟨h4, D', h5, h6, h7⟩ := h'
  exact ⟨h4.trans e.ds.symm, D', h5, h6, h7⟩
theorem tmr_se {ds : List Deferred} [SubH Hb H] (hds : E.ds = ds) (h : TMR x S k ops rest ks E Hb H) : TO x.nxR false ops [] [.inv (MJR x S k ops rest ks ds Hb)] E H := fun a w e s =>
  ⟨e.ds.trans hds, St x.w0 H, .inr st_good, s, h a e ⟨w, s.sub⟩⟩
theorem tmr_sl {ds : List Deferred} (hl : lastB ops = true) (hk : Nat.beq k ops.size = true) (hds : E.ds = ds) (h : TX x .normal ks E H) : TO x.nxR false ops [] [.inv (MJR x S k ops [] ks ds Hb)] E H := fun a w e s =>
  ⟨e.ds.trans hds, St x.w0 H, .inl ⟨hl, by have := Nat.eq_of_beq_eq_true hk; have h0 : 0 < ops.size := (by unfold lastB at hl; rcases Nat.eq_zero_or_pos ops.size with h0 | h0; (rw [h0] at hl; rw [Array.getElem?_eq_none (by omega)] at hl; cases hl); exact h0); omega⟩, s, fun w' hw' => h a w' e hw'⟩
end
end Go.Sx



namespace Go.Sx
open Go Go.RowKit
open Go.ChangeMaps (setBlock)

section
variable {x : Cx} {d : Bool} {ops : Array Oper} {rest : List Oper} {ks : List KI} {n : Nat} {m : List (Nat × Value)} {ds : List Deferred} {H H2 : List Seg}
variable {ty : TypeId} {pos : String} {aft : Array Edge} {dd : Nat}

theorem to_insN {t kt et b1 b2 b3 : TypeId} {zz zk : List ZV} {y i z : Operand} {r : Nat} {q : Int} {v1 v2 : Int} {G : Int → Option Sp} (hy : ev m y = some (.map (some r))) (hi : ev m i = some (.int .i64 q)) (hz : ev m z = some (spV (v1, v2)))
    [ho : OwnAt r H (isN G) H2] [ht : Ty x.P t ⟨.map kt et, b1, b2, zz⟩] [hk : Ty x.P kt ⟨.int .i64, 1, b3, zk⟩]
    (h : TO x false ops rest ks ⟨n, m, ds⟩ (.own r (isN (updO G q (v1, v2))) :: H2)) : TO x false ops (⟨none, .insert t y i z, ty, pos, aft, none⟩ :: rest) ks ⟨n, m, ds⟩ H :=
  to_step0 (fun _ h => by cases h) (fun a w e s => by
    have s2 := s.perm ho.perm
    obtain ⟨o, h1, l, c, h2, hok⟩ := s.own_at (b := r)
    simp only [isNE] at h2; subst h2
    obtain ⟨r', h5, h6⟩ := findNow_N (kk := .i64) (l := l) q 0
    have fin : ∀ l' c', OkN l' c' (updO G q (v1, v2)) → ∃ w', (setObj r (.map (l'.map mkE).toArray c')).run x.P w = .ok () w' ∧ ∃ H', St x.w0 H' w' ∧ TO x false ops rest ks ⟨n, m, ds⟩ H' := fun l' c' hok' => by
      obtain ⟨w', r1, r2, r3, r4, r5, r6, r7⟩ := run_setObj (P := x.P) (o := .map (l'.map mkE).toArray c') h1
      exact ⟨w', r1, _, s2.upd r5 r6 r7 r3 (fun k hk => r4 k (by simp [Seg.lo, Seg.hi] at hk; omega)) (s' := .own r (isN (updO G q (v1, v2)))) rfl rfl ⟨_, r2, l', c', rfl, hok'⟩, h⟩
    match r', h5, h6 with
    | none, h5, h6 =>
      have hne := lget_none h6
      obtain ⟨w', hw, hres⟩ := fin (l ++ [(q, (v1, v2), c)]) (c + 1) ⟨by
          rw [List.map_append, List.nodup_append]
          exact ⟨hok.keys, by simp, fun a ha b hb => by
            simp at hb; subst hb
            obtain ⟨e', he', rfl⟩ := List.mem_map.1 ha
            exact hne e' he'⟩,
        by
          rw [List.map_append, List.nodup_append]
          exact ⟨hok.borns, by simp, fun a ha b hb => by
            simp at hb; subst hb
            obtain ⟨e', he', rfl⟩ := List.mem_map.1 ha
            exact Nat.ne_of_lt (hok.lt e' he')⟩,
        fun e' he' => by
          rcases List.mem_append.1 he' with he' | he'
          · exact Nat.lt_succ_of_lt (hok.lt e' he')
          · simp at he'; subst he'; exact Nat.lt_succ_self _,
        fun k => by
          simp only [updO]
          by_cases hkq : k = q
          · subst hkq
            rw [if_pos rfl, lget_app hne]; simp [lget]
          · rw [if_neg hkq, ← hok.get]
            exact lget_end hkq⟩
      refine ⟨w', ?_, hres⟩
      simp only [execOp]; rw [e.ev hy, e.ev hi, e.ev hz]
      have hpush : (l.map mkE).toArray.push { key := .int .i64 q, val := spV (v1, v2), born := c } = ((l ++ [(q, (v1, v2), c)]).map mkE).toArray := by
        apply Array.toList_inj.1; simp [mkE]
      simp only [Instr.mapUpdate, Sem.run_bind, run_underlying ht.map, Result.andThen, run_getObj h1, run_checkKey, Instr.findKey, run_underlying hk.int, h5, run_ok, hpush, hw]
    | some (j, u), h5, ⟨p, e1, q', h7, h8, h9, _, h10⟩ =>
      have hkey : (((l.map mkE).toArray[j]?).map (·.key)).getD (.int .i64 q) = .int .i64 q := by
        rw [h7, h8]; simp [mkE, h9]
      have hmod : (l.map mkE).toArray.modify j (fun e => { e with key := .int .i64 q, val := spV (v1, v2) }) = ((p ++ (q, (v1, v2), e1.2.2) :: q').map mkE).toArray := by
        apply Array.toList_inj.1
        rw [Array.toList_modify, h7, h8, Nat.zero_add]
        simp only [List.map_append, List.map_cons]
        have := modify_mid (p.map mkE) (q'.map mkE) (mkE e1) (fun e => { e with key := .int .i64 q, val := spV (v1, v2) })
        rw [List.length_map] at this
        rw [this]; rfl
      have hkeys : ((p ++ (q, (v1, v2), e1.2.2) :: q').map (·.1)) = l.map (·.1) := by rw [h7]; simp [h9]
      have hborns : ((p ++ (q, (v1, v2), e1.2.2) :: q').map (·.2.2)) = l.map (·.2.2) := by rw [h7]; simp
      have hpne : ∀ e ∈ p, e.1 ≠ q := fun e' he' hh => by
        have hk1 := hok.keys
        rw [h7, List.map_append, List.nodup_append] at hk1
        exact hk1.2.2 e'.1 (List.mem_map.2 ⟨e', he', rfl⟩) e1.1 (by simp) (hh.trans h9.symm)
      obtain ⟨w', hw, hres⟩ := fin (p ++ (q, (v1, v2), e1.2.2) :: q') c ⟨by rw [hkeys]; exact hok.keys, by rw [hborns]; exact hok.borns, fun e' he' => by
          rcases List.mem_append.1 he' with he' | he'
          · exact hok.lt e' (by rw [h7]; exact List.mem_append_left _ he')
          · rcases List.mem_cons.1 he' with rfl | he'
            · exact hok.lt e1 (by rw [h7]; simp)
            · exact hok.lt e' (by rw [h7]; exact List.mem_append_right _ (List.mem_cons_of_mem _ he')),
        fun k => by
          simp only [updO]
          by_cases hkq : k = q
          · subst hkq
            rw [if_pos rfl, lget_app hpne]; simp [lget]
          · rw [if_neg hkq, ← hok.get, h7]
            exact lget_mid hkq (fun hh => hkq (hh.trans h9))⟩
      have hks : ∀ w, (Instr.keyThatStays (.int .i64 q) (.int .i64 q)).run x.P w = .ok (.int .i64 q) w := fun w => by
        have : Instr.sameBits 10000 (.int .i64 q) (.int .i64 q) = true := by simp [Instr.sameBits]
        simp only [Instr.keyThatStays, this, if_true, run_ok]
      refine ⟨w', ?_, hres⟩
      simp only [execOp]; rw [e.ev hy, e.ev hi, e.ev hz]
      simp only [Instr.mapUpdate, Sem.run_bind, run_underlying ht.map, Result.andThen, run_getObj h1, run_checkKey, Instr.findKey, run_underlying hk.int, h5, run_ok, hkey, hks, hmod, hw])

/-- An array that is built of scalars but for the first. -/
theorem to_ba1 {t e b1 b2 len b3 : TypeId} {ek : TK} {zz ez : List ZV} {l : List (Nat × Operand)} {ps : List (Nat × Value)} {b0 : Value} {base vs : List Value} (hl : evp m l = some ps) [ht : Ty x.P t ⟨.array len e, b1, b2, zz⟩] [he : Ty x.P e ⟨ek, 1, b3, ez⟩] [hz : ZVals zz (b0 :: base)]
    [hr : SclOf ps 1 vs] (hlen : Nat.beq vs.length base.length = true) (hd : Nat.blt dd n = true)
    (h : TO x d ops rest ks ⟨n, (dd, .agg (b0 :: vs).toArray) :: m, ds⟩ H) : TO x d ops (⟨some dd, .build t l.toArray, ty, pos, aft, none⟩ :: rest) ks ⟨n, m, ds⟩ H :=
  to_pure _ (fun _ h => by cases h) (fun a w e s => by
    obtain ⟨rows, hr1, hr2, hr3⟩ := hr.eq
    obtain ⟨v, g1, g2, g3⟩ := run_zeroValue (P := x.P) (w := w) (t := t) (vs := b0 :: base)
    have hps := e.evp hl
    have hmap : l.toArray.map (fun (p : Nat × Operand) => (p.1, a.eval p.2)) = ps.toArray := by
      rw [List.map_toArray, hps]
    have hfill : Instr.fill (fun i => some (i * 1, 1)) (b0 :: base).toArray ps = some (b0 :: vs).toArray := by
      have hlen2 : vs.length = rows.length := by rw [hr3]; exact (flatten_len (sz := 1) hr2).trans (Nat.mul_one _)
      have := fill_rows (sz := 1) rows [[b0]] base ps hr2 (fun r h => by rw [List.mem_singleton.1 h]; rfl) (by rw [Nat.mul_one, ← hlen2]; exact (Nat.eq_of_beq_eq_true hlen).symm) (by simpa using hr1.eq.1) hr1.eq.2
      rw [hr3]
      simpa using this
    simp only [execOp]
    rw [show (fun (x : Nat × Operand) => match x with | (i, x) => (i, a.eval x)) = (fun (p : Nat × Operand) => (p.1, a.eval p.2)) from rfl, hmap]
    simp only [Instr.build, Sem.run_bind, g1, g2, Result.andThen, run_underlying ht.array, he.sizeOf, hfill]
    rfl) hd h

end
end Go.Sx



namespace Go.Sx
open Go Go.RowKit

/-! ### Functions whose loops range over functions: a mark a round -/

def dfs (Ds : List Nat) : List Seg := Ds.map fun D => .own D isDf
def marks (Ds : List Nat) : List Deferred := Ds.map mark
class MarkAt (Ds : List Nat) (H : List Seg) (H2 : outParam (List Seg)) : Prop where
  perm : H.Perm (dfs Ds ++ H2)
instance MarkAt.nil (H : List Seg) : MarkAt [] H H := ⟨.refl _⟩
instance MarkAt.here (Ds : List Nat) : MarkAt Ds (dfs Ds) [] := ⟨by simp⟩
instance MarkAt.there (Ds : List Nat) (s : Seg) (H H2 : List Seg) [h : MarkAt Ds H H2] : MarkAt Ds (s :: H) (s :: H2) := ⟨(h.perm.cons s).trans List.perm_middle.symm⟩

section loops
variable {x : Cx} {ks : List KI} {H : List Seg}
def LoopEndD {ι : Type} (w0 : World) (n : Nat) (DS : ι → List Deferred) (I : ι → Prop) (M : ι → List (Nat × Value)) (S : ι → List Seg) (μ : ι → Nat) (i : ι) (a : Act) (w : World) : Prop :=
  ∃ j, I j ∧ μ j < μ i ∧ Env.ok ⟨n, M j, DS j⟩ a ∧ St w0 (S j) w
theorem t_loopD {ι : Type} {n : Nat} {m : List (Nat × Value)} {ds : List Deferred} {c : Code} (DS : ι → List Deferred) (I : ι → Prop) (M : ι → List (Nat × Value)) (S : ι → List Seg) (μ : ι → Nat) (i0 : ι) (H0 : List Seg) (hH : S i0 = H0) (h0 : I i0) (hd : DS i0 = ds)
    (hm : AllLk m (M i0)) [hs : SubH H0 H] (round : ∀ i, I i → T x (.inv (LoopEndD x.w0 n DS I M S μ i) :: ks) c ⟨n, M i, DS i⟩ (S i)) : T x ks (.loop c) ⟨n, m, ds⟩ H := by
  subst hH; subst hd
  intro a w e s
  refine wpIn_loopI (fun i a w => I i ∧ Env.ok ⟨n, M i, DS i⟩ a ∧ St x.w0 (S i) w) μ i0 ⟨h0, e.sub hm, s.sub⟩ ?_
  rintro i a w ⟨hi, he, hs⟩
  refine wpIn_mono (round i hi a w he hs) ?_
  intro e' a' w' hq
  cases e' with
  | normal =>
    obtain ⟨j, hj, hlt, hej, hsj⟩ := hq
    exact ⟨j, ⟨hj, hej, hsj⟩, hlt⟩
  | _ => exact hq
theorem tn_loopD {ι : Type} {n : Nat} {m : List (Nat × Value)} {ds : List Deferred} {DS : ι → List Deferred} {I : ι → Prop} {M : ι → List (Nat × Value)} {S : ι → List Seg} {μ : ι → Nat} {i : ι} (j : ι) (H' : List Seg) (hH : S j = H') (hj : I j) (hlt : μ j < μ i) (hd : DS j = ds)
    (hm : AllLk m (M j)) [SubH H' H] : TX x .normal (.inv (LoopEndD x.w0 n DS I M S μ i) :: ks) ⟨n, m, ds⟩ H := by
  subst hH; subst hd
  exact fun _ _ e s => ⟨j, hj, hlt, e.sub hm, s.sub⟩
end loops

/-- A round's end, where the round says yes or gives up. -/
theorem t_rendX {P : Program} {l B : Nat} {w : World} {E : Env} {H H2 : List Seg} {K : LKey} {F : List PanicEntry → World → Prop} {S'' : List Seg} (S' : List Seg) (hS : S'' = S') [h : OwnAt l H (isLp K .busy none) H2] [hs : SnapAt w H2 B w.heap.size] [hsub : SubH S' H2]
    (hh : ∀ s ∈ S', s.hi ≤ B) (hl : l < B) : TX ⟨P, some l, w, roundPost P l (ItX (.bool true) B (StB B (.own l (isLp K .ready none) :: S'')) F w)⟩ .normal [] E H := fun a w' e s => by
  subst hS
  obtain ⟨o, h1, fn, tmps, df, rfl, h3⟩ := s.own_at (b := l)
  have s2 := s.put h1 (q := isLp K .ready none) (o := .loop { state := .ready, pending := none, fn, tmps, params := #[K.p], assign := K.asg, body := K.body, defers := df }) ⟨fn, tmps, df, rfl, h3⟩
  haveI : SnapAt w (.own l (isLp K .ready none) :: H2) B w.heap.size := ⟨List.mem_cons_of_mem _ hs.mem⟩
  haveI : SubH (.own l (isLp K .ready none) :: S'') (.own l (isLp K .ready none) :: H2) := inferInstance
  refine ⟨_, _, run_endRound none h1, keep_of s2, .inl ⟨rfl, s2.toB ?_⟩⟩
  intro z hz
  rcases List.mem_cons.1 hz with rfl | hz
  · exact hl
  · exact hh z hz

section rets
variable {P : Program} {fn : Func} {w : World} {R : Nat → World → Value → Prop} {ks : List KI} {n : Nat} {m : List (Nat × Value)} {H H2 : List Seg}
theorem body_retMs {Ds : List Nat} {v : Value} [hD : MarkAt Ds H H2] [hmem : SnapAt w H2 0 w.heap.size] (hrun : ∀ a w', Env.ok ⟨n, m, marks Ds⟩ a → St w H2 w' → (results fn a.tmps).run P w' = .ok v w')
    (hR : ∀ w', St w H2 w' → R w.heap.size w' v) : ∀ a w', Env.ok ⟨n, m, marks Ds⟩ a → St w H w' → bodyPostM (WF none) 0 P fn (Ret w R) .ret a w' := by
  intro a w' e s
  show LeavesInM (WF none) 0 P fn a.tmps (Ret w R) a.defers .returning w'
  rw [e.ds]
  have key : ∀ (Ds : List Nat) (w' : World), St w (dfs Ds ++ H2) w' → LeavesInM (WF none) 0 P fn a.tmps (Ret w R) (marks Ds) .returning w' := by
    intro Ds
    induction Ds with
    | nil =>
      intro w' s
      exact ⟨v, hrun a _ e s, v, rfl, St.below0 s hmem.mem, hR _ s⟩
    | cons D Ds ih =>
      intro w' s
      obtain ⟨o, h1, h2⟩ := s.ok (.own D isDf) (List.mem_cons_self ..)
      simp only [isDf] at h2
      subst h2
      have s2 : St w (.own D (fun _ => True) :: (dfs Ds ++ H2)) (w'.putObj D (.deferred none)) := by
        refine St.upd (s := .own D isDf) s rfl rfl rfl World.putObj_size (fun k hk => World.putObj_heap_other (by simp [Seg.lo, Seg.hi] at hk; omega)) rfl rfl ⟨_, World.putObj_heap_same (Array.getElem?_eq_some_iff.1 h1).1, trivial⟩
      exact ⟨by simp, .inl ⟨D, _, rfl, run_takeDeferred h1, ih _ s2.tail⟩⟩
  exact key Ds w' (s.perm hD.perm)
theorem t_ret1Ms {Ds : List Nat} [hD : MarkAt Ds H H2] [hmem : SnapAt w H2 0 w.heap.size] {r1 : ResultVar} {v1 : Value} (hr : fn.results = #[r1]) (h1 : ResOk P w ⟨n, m, marks Ds⟩ H2 r1 v1) (hR : ∀ w', St w H2 w' → R w.heap.size w' v1) :
    T ⟨P, none, w, bodyPostM (WF none) 0 P fn (Ret w R)⟩ ks .ret ⟨n, m, marks Ds⟩ H :=
  t_ret (body_retMs (Ds := Ds) (fun a w' e s => run_results (l := [r1]) (vs := [v1]) hr rfl (fun i r' v' h h' => by
    match i with
    | 0 => cases h; cases h'; exact h1 a w' e s
    | i + 1 => simp at h)) hR)
theorem t_ret2Ms {Ds : List Nat} [hD : MarkAt Ds H H2] [hmem : SnapAt w H2 0 w.heap.size] {r1 r2 : ResultVar} {v1 v2 : Value} (hr : fn.results = #[r1, r2]) (h1 : ResOk P w ⟨n, m, marks Ds⟩ H2 r1 v1) (h2 : ResOk P w ⟨n, m, marks Ds⟩ H2 r2 v2) (hR : ∀ w', St w H2 w' → R w.heap.size w' (.tuple #[v1, v2])) :
    T ⟨P, none, w, bodyPostM (WF none) 0 P fn (Ret w R)⟩ ks .ret ⟨n, m, marks Ds⟩ H :=
  t_ret (body_retMs (Ds := Ds) (fun a w' e s => run_results (l := [r1, r2]) (vs := [v1, v2]) hr rfl (fun i r' v' h h' => by
    match i with
    | 0 => cases h; cases h'; exact h1 a w' e s
    | 1 => cases h; cases h'; exact h2 a w' e s
    | i + 2 => simp at h)) hR)
end rets
end Go.Sx


namespace Go.Sx
open Go Go.RowKit

/-! ### What comes of something that gives up with a list, or with a text -/

inductive Out2 where
  | ok | fd (a : Option Addr) (n c : Nat) | no (s : ByteArray)
def Out2.er : Out2 → Int
  | .ok => 5
  | .fd _ _ _ => 0
  | .no _ => 4
def Out2.e0 : Out2 → Int
  | .ok => 5
  | _ => 0
def Out2.sl : Out2 → Value
  | .fd a n c => .slice a n c
  | _ => .slice none 0 0
/-- tf, tn: the two types with which one gives up. -/
def outE2 (tf tn : TypeId) : Out2 → Ending → Prop
  | .ok, e => e = .returned (.tuple #[])
  | .fd a n c, e => e = .panicked (pan tf (.agg [.slice a n c].toArray))
  | .no s, e => e = .panicked (pan tn (.agg [.string s].toArray))
def DoPost2 (tf tn B : Nat) (p : Out2 → World → Prop) (w : World) : Ending → World → Prop := fun e w' => ∃ o, outE2 tf tn o e ∧ Keep B w w' ∧ p o w'
def Out2.mode (tf tn : TypeId) : Out2 → FrameMode
  | .ok => .returning
  | .fd a n c => .panicking (pan tf (.agg [.slice a n c].toArray))
  | .no s => .panicking (pan tn (.agg [.string s].toArray))
def AttPost2 (B : Nat) (p : Out2 → World → Prop) (w : World) : Ending → World → Prop := fun e w' => ∃ o : Out2, e = .returned (.tuple #[o.sl, .int .i64 o.er]) ∧ Keep B w w' ∧ p o w'
end Go.Sx


namespace Go.Sx
open Go Go.RowKit

theorem wpK_block {P : Program} {f0 : FuncId} {id : Nat} {c : Code} {Q : Exit → Act → World → Prop} {a : Act} {w : World} (h : wpK P f0 c (Exit.inBlock id Q) a w) : wpK P f0 (.block id c) Q a w := by
  intro b k cs hro hbf
  have hr := room_WF (r := none) (cs.length + 1 + 0)
  have hb : (WF none).fn b.fn := trivial
  have h0 : (lone (b.atR a (.code (.block id c) :: k)) cs w).fenced P (WF none) := fenced_calm hb hr rfl
  obtain ⟨e, a₁, w₁, hq, harr⟩ := h b (.inBlock id :: k) cs hro hbf
  cases e with
  | normal => exact ⟨.normal, a₁, w₁, hq, .head h0 stepR_block (StepsIn.trans harr (.one (fenced_calm hb hr rfl) stepR_inBlock))⟩
  | exit id' =>
    by_cases hid : id' = id
    · simp only [Exit.inBlock, hid, if_true] at hq
      exact ⟨.normal, a₁, w₁, hq, .head h0 stepR_block (harr.1 k (by simp [exitTo, hid]))⟩
    · simp only [Exit.inBlock, hid, if_false] at hq
      have this : (id == id') = false := by simp; exact fun h => hid h.symm
      have hx : exitTo id' (.inBlock id :: k) = exitTo id' k := by simp [exitTo, this]
      exact ⟨.exit id', a₁, w₁, hq, fun k' hk => .head h0 stepR_block (harr.1 k' (by rw [hx]; exact hk)),
        fun hr' hk => let ⟨k₁, h1, h2⟩ := harr.2 hr' (by rw [hx]; exact hk); ⟨k₁, h1, .head h0 stepR_block h2⟩⟩
  | goto l =>
    have hx : gotoIn l (.inBlock id :: k) = gotoIn l k := by simp [gotoIn]
    exact ⟨_, a₁, w₁, hq, fun k' hk => .head h0 stepR_block (harr.1 k' (by rw [hx]; exact hk)),
      fun hr' hk => let ⟨k₁, h1, h2⟩ := harr.2 hr' (by rw [hx]; exact hk); ⟨k₁, h1, .head h0 stepR_block h2⟩⟩
  | ret => exact ⟨_, a₁, w₁, hq, .of_steps (.one h0 stepR_block) harr⟩
  | panic ch => exact ⟨_, a₁, w₁, hq, .of_steps (.one h0 stepR_block) harr⟩
  | outgrown => exact ⟨_, a₁, w₁, hq, .of_steps (.one h0 stepR_block) harr⟩
theorem tk_block {P : Program} {f0 : FuncId} {w0 : World} {Q : Exit → Act → World → Prop} {id : Nat} {c : Code} {E : Env} {H : List Seg} (h : Tkn P f0 w0 (Exit.inBlock id Q) c E H) : Tkn P f0 w0 Q (.block id c) E H := fun a w e s => wpK_block (h a w e s)

theorem Ro.put {w : World} {lo hi D : Nat} {a : Option Addr} {n cap sz : Nat} {xs : List (List Value)} {x : Option (List Deferred)} {o : Obj} (h : Ro w lo hi a n cap sz xs) (hD : w.heap[D]? = some (.deferred x)) : Ro (w.putObj D o) lo hi a n cap sz xs := by
  refine ⟨h.len, h.each, h.le, ?_⟩
  rcases h.here with h0 | ⟨ad, h1, h2, h3, h4, h5⟩
  · exact .inl h0
  · refine .inr ⟨ad, h1, h2, h3, h4, fun i x hx j v hv => ?_⟩
    have hc := h5 i x hx j v hv
    have hne : ad.block ≠ D := by
      intro hh
      subst hh
      simp [World.cell?, hD] at hc
    simp only [World.cell?, World.putObj_heap_other hne] at hc ⊢
    exact hc

/-- Of what a call has made, one map is kept. -/
theorem St.snapN {w0 w w1 : World} {H H2 : List Seg} {lo hi r c : Nat} {l : List En} (s : St w0 H w) [hp : Pick (.snap lo hi w1) H H2] (h : NB w1 lo hi r l c) : St w0 (.own r (isNE l c) :: H2) w := by
  have s2 := s.perm hp.perm
  have h1 := s2.ok _ (List.mem_cons_self ..)
  have hap := List.pairwise_cons.1 s2.apart
  have hle := s2.le _ (List.mem_cons_self ..)
  have hl := h.lo
  have hh := h.hi
  refine ⟨s.os, s.tape, s.output, s.ge, ?_, ?_, ?_⟩
  · intro t ht
    rcases List.mem_cons.1 ht with rfl | ht
    · simp only [Seg.hi] at hle ⊢; omega
    · exact s2.le _ (List.mem_cons_of_mem _ ht)
  · intro t ht
    rcases List.mem_cons.1 ht with rfl | ht
    · exact ⟨_, (h1 r h.lo h.hi).trans h.here, rfl⟩
    · exact s2.ok _ (List.mem_cons_of_mem _ ht)
  · refine List.pairwise_cons.2 ⟨fun t ht => ?_, hap.2⟩
    rcases hap.1 t ht with h3 | h3
    · left; simp only [Seg.hi] at h3 ⊢; omega
    · right; simp only [Seg.lo] at h3 ⊢; omega
theorem tx_snapN {x : Cx} {ks : List KI} {e : Exit} {E : Env} {H H2 : List Seg} {lo hi r c : Nat} {w1 : World} {l : List En} (h : NB w1 lo hi r l c) [hp : Pick (.snap lo hi w1) H H2] (k : TX x e ks E (.own r (isNE l c) :: H2)) : TX x e ks E H := fun a w ea s => k a w ea (s.snapN h)
theorem tk_fact {P : Program} {f0 : FuncId} {w0 : World} {Q : Exit → Act → World → Prop} {c : Code} {E : Env} {H : List Seg} {p : Prop} (hp : p) (h : Tkn P f0 w0 Q c E (.reg 0 0 (fun _ => p) :: H)) : Tkn P f0 w0 Q c E H := fun a w e s => h a w e (s.fact hp)
theorem St.fact_of {w0 w : World} {H : List Seg} {p : Prop} (s : St w0 H w) (hm : .reg 0 0 (fun _ => p) ∈ H) : p := by
  obtain ⟨_, h, _⟩ := s.ok _ hm
  exact h
theorem own_above {w0 w w1 : World} {H H2 : List Seg} {D : Nat} {p : Obj → Prop} (s : St w0 H w) [h : OwnAt D H p H2] [hs : SnapAt w1 H2 0 w1.heap.size] : w1.heap.size ≤ D := by
  have h1 := (List.pairwise_cons.1 (s.perm h.perm).apart).1 _ hs.mem
  rcases h1 with h2 | h2
  · simp [Seg.hi, Seg.lo] at h2
  · simpa [Seg.hi, Seg.lo] using h2
theorem put_old {w0 w w1 : World} {H H2 : List Seg} {D : Nat} {p : Obj → Prop} {o : Obj} (s : St w0 H w) [h : OwnAt D H p H2] [hs : SnapAt w1 H2 0 w1.heap.size] : w1.heap.size ≤ w.heap.size ∧ ∀ k, k < w1.heap.size → (w.putObj D o).heap[k]? = w1.heap[k]? := by
  have hD := own_above (w1 := w1) s (D := D)
  have hm : .snap 0 w1.heap.size w1 ∈ H := h.perm.mem_iff.2 (List.mem_cons_of_mem _ hs.mem)
  exact ⟨s.le _ hm, fun k hk => (World.putObj_heap_other (by omega)).trans (s.ok _ hm k (Nat.zero_le _) hk)⟩
theorem own_df {w0 w : World} {H H2 : List Seg} {D : Nat} (s : St w0 H w) [h : OwnAt D H isDf H2] : w.heap[D]? = some (.deferred (some [])) := by
  obtain ⟨o, h1, h2⟩ := s.own_at (b := D)
  rw [h1, h2]
theorem below_put {w w3 : World} {D : Nat} {o : Obj} (hos : w3.os = w.os ∧ w3.tape = w.tape ∧ w3.output = w.output) (h : w.heap.size ≤ w3.heap.size ∧ ∀ k, k < w.heap.size → (w3.putObj D o).heap[k]? = w.heap[k]?) : RowKit.Below w.heap.size w (w3.putObj D o) :=
  ⟨hos.1, hos.2.1, hos.2.2, by rw [World.putObj_size]; exact h.1, h.2⟩
end Go.Sx


namespace Go.Sx
open Go Go.RowKit

/-! ### Ranges over functions whose rounds make memory: segments instead of a region -/

def StL (H : List Seg) (w : World) : Prop := (∀ s ∈ H, s.hi ≤ w.heap.size) ∧ (∀ s ∈ H, s.ok w) ∧ H.Pairwise Seg.apart
def Ext (w w' : World) : Prop := w'.os = w.os ∧ w'.tape = w.tape ∧ w'.output = w.output ∧ w.heap.size ≤ w'.heap.size
theorem St.stL {w0 w : World} {H : List Seg} (s : St w0 H w) : StL H w := ⟨s.le, s.ok, s.apart⟩
theorem StL.st {w0 w : World} {H : List Seg} (s : StL H w) (h : Ext w0 w) : St w0 H w := ⟨h.1, h.2.1, h.2.2.1, h.2.2.2, s.1, s.2.1, s.2.2⟩
theorem St.ext {w0 w : World} {H : List Seg} (s : St w0 H w) : Ext w0 w := ⟨s.os, s.tape, s.output, s.ge⟩
theorem Ext.refl (w : World) : Ext w w := ⟨rfl, rfl, rfl, Nat.le_refl _⟩
theorem Ext.trans {a b c : World} (h : Ext a b) (k : Ext b c) : Ext a c := ⟨k.1.trans h.1, k.2.1.trans h.2.1, k.2.2.1.trans h.2.2.1, Nat.le_trans h.2.2.2 k.2.2.2⟩
theorem StL.perm {w : World} {H H' : List Seg} (s : StL H w) (p : H.Perm H') : StL H' w := (s.st (Ext.refl w)).perm p |>.stL

/-- What stands ahead of the end of the segments. -/
class TailR (A H : List Seg) (R : outParam (List Seg)) : Prop where
  perm : H.Perm (A ++ R)
instance TailR.refl (A : List Seg) : TailR A A [] := ⟨by simp⟩
instance TailR.cons (A H R : List Seg) (s : Seg) [h : TailR A H R] : TailR A (s :: H) (s :: R) := ⟨(h.perm.cons s).trans List.perm_middle.symm⟩

instance MarkAt.own (D : Nat) (Ds : List Nat) (H H1 H2 : List Seg) [hp : Pick (.own D isDf) H H1] [h : MarkAt Ds H1 H2] : MarkAt (D :: Ds) H H2 := ⟨hp.perm.trans (h.perm.cons _)⟩
theorem rb_lo {w : World} {lo hi b : Nat} {cs : List Value} (h : Rb w lo hi b cs) : Rb w 0 hi b cs := ⟨Nat.zero_le _, h.hi, h.here⟩

/-- All that lay there at the start, as segments. -/
theorem t_unsnap {x : Cx} {ks : List KI} {c : Code} {E : Env} {H H2 S0 : List Seg} (hS : StL S0 x.w0) [hp : Pick (.snap 0 x.w0.heap.size x.w0) H H2] (H' : List Seg) (hq : H'.Perm (H2 ++ S0)) (h : T x ks c E H') : T x ks c E H := fun a w e s => by
  refine h a w e ?_
  have s2 := s.perm hp.perm
  have hap := List.pairwise_cons.1 s2.apart
  have hok := s2.ok _ (List.mem_cons_self ..)
  refine (St.perm (w0 := x.w0) (H := H2 ++ S0) ⟨s.os, s.tape, s.output, s.ge, ?_, ?_, ?_⟩ hq.symm)
  · intro t ht
    rcases List.mem_append.1 ht with ht | ht
    · exact s2.le _ (List.mem_cons_of_mem _ ht)
    · exact Nat.le_trans (hS.1 t ht) s.ge
  · intro t ht
    rcases List.mem_append.1 ht with ht | ht
    · exact s2.ok _ (List.mem_cons_of_mem _ ht)
    · exact Seg.ok_congr (fun k _ h2 => hok k (Nat.zero_le _) (Nat.lt_of_lt_of_le h2 (hS.1 t ht))) (hS.2.1 t ht)
  · refine List.pairwise_append.2 ⟨hap.2, hS.2.2, fun t ht u hu => ?_⟩
    have h1 := hap.1 t ht
    have h2 := hS.1 u hu
    rcases h1 with h1 | h1
    · right; simp only [Seg.hi] at h1; omega
    · left; simp only [Seg.lo] at h1; omega

section
variable {x : Cx} {ops : Array Oper} {rest : List Oper} {ks : List KI} {n : Nat} {m : List (Nat × Value)} {ds : List Deferred} {H : List Seg}
variable {ty : TypeId} {pos : String} {aft : Array Edge} {dd : Nat}
theorem to_callYL {β : Type} {y : Nat} {g : Operand} {l : List Operand} {ts : Array TypeId} {av : List Value} {A R : List Seg} (Sb : β → List Seg) (H2 : β → List Seg) (hg : ev m g = some (.func (.yield y) #[] #[])) (hl : evs m l = some av) (hx : x.r = none)
    [hr : TailR A H R] (hH2 : ∀ b, H2 b = R ++ Sb b)
    (hc : ∀ R w, StL (A ++ R) w → YC x.P y av.toArray w (fun e w' => e = .returned (.bool true) ∧ Ext w w' ∧ ∃ b, StL (Sb b ++ R) w')) (hd : Nat.blt dd n = true)
    (ht : ∀ b, TO x false ops rest ks ⟨n, (dd, .bool true) :: m, ds⟩ (H2 b)) :
    TO x false ops (⟨some dd, .call ⟨.value g, l.toArray, ts⟩, ty, pos, aft, none⟩ :: rest) ks ⟨n, m, ds⟩ H := by
  intro a w e s
  refine wpListIn_plain rfl fun K hK => ?_
  refine ⟨fun _ _ => trivial, ?_⟩
  rw [Oper.semAt_eq _ _ _ (fun _ h => by cases h), exec_yield (e.ev hg) (e.evs hl)]
  obtain ⟨f, tmps, asg, body, h3, h4⟩ := hc R w (s.stL.perm hr.perm)
  rw [h3]
  refine ⟨(fun h => by cases h), ?_⟩
  rw [hx]
  refine h4.mono ?_
  rintro en w' ⟨rfl, he, b, hb⟩
  refine hK _ _ (ht b _ _ (e.put hd _) ?_)
  rw [hH2]
  exact (hb.perm List.perm_append_comm).st (s.ext.trans he)
end

theorem t_rfL {x : Cx} {ks : List KI} {g : Operand} {p : Nat} {asg body : Code} {n : Nat} {m : List (Nat × Value)} {ds : List Deferred} {H : List Seg} {gf : Nat} {lb : List Value} (H0 : List Seg) (hr : x.r = none) (hg : ev m g = some (.func (.func gf) #[] lb.toArray)) [hfn : FnOk x.P gf]
    {β : Type} (Sf : β → List Seg) [hsub : SubH H0 H]
    (hseq : ∀ (K : LKey) (l D : Nat) (w₂ : World), K = ⟨n, m, p, asg, body⟩ → St x.w0 (.own l (isLp K .ready none) :: .own D isDf :: H0) w₂ →
      Calls x.P gf (#[.func (.yield l) #[] #[]] ++ lb.toArray) w₂ (fun e w' => e = .returned (.tuple #[]) ∧ Ext w₂ w' ∧ ∃ b, StL (.own l (isLp K .ready none) :: .own D isDf :: Sf b) w'))
    (hdone : ∀ D b, TX x .normal ks ⟨n, m, mark D :: ds⟩ (.own D isDf :: Sf b)) : T x ks (.rangeFunc g #[p] asg body) ⟨n, m, ds⟩ H := by
  intro a w e s
  rw [hr]
  refine wpIn_rangeFunc fun fn _ => ?_
  have hev : a.eval g = .func (.func gf) #[] lb.toArray := e.ev hg
  let K : LKey := ⟨n, m, p, asg, body⟩
  let w₁ : World := (w.alloc (.deferred (some []))).alloc (.loop { state := .ready, pending := none, fn, tmps := a.tmps, params := #[p], assign := asg, body, defers := w.heap.size })
  have s0 : St x.w0 H0 w := s.sub
  have s1 : St x.w0 (.own w.heap.size isDf :: H0) (w.alloc (.deferred (some []))) := s0.alloc (p := isDf) rfl
  have s2 : St x.w0 (.own (w.heap.size + 1) (isLp K .ready none) :: .own w.heap.size isDf :: H0) w₁ := by
    have := s1.alloc (o := .loop { state := .ready, pending := none, fn, tmps := a.tmps, params := #[p], assign := asg, body, defers := w.heap.size }) (p := isLp K .ready none) ⟨fn, a.tmps, w.heap.size, rfl, ⟨e.size, rfl, e.get⟩⟩
    rw [World.size_alloc] at this
    exact this
  have hres : (resolve a.eval (rangeCall g (w.heap.size + 1)) 0).run x.P w₁ = .ok { target := .fn (.func gf) lb.toArray, args := #[] ++ #[Value.func (.yield (w.heap.size + 1)) #[] #[]] } w₁ := by
    simp only [resolve, hev, List.map_toArray, List.map_cons, List.map_nil, show ∀ v, a.eval (.const v) = v from fun _ => rfl, Deferred.ofValue, run_ok]
  refine ⟨w.heap.size + 1, [mark w.heap.size], w₁, _, w₁, gf, #[.func (.yield (w.heap.size + 1)) #[] #[]] ++ lb.toArray, w₁, run_enterLoop_outer fn a.tmps #[p] asg body, hres, fun _ _ => trivial, ?_, (fun h => by cases h), ?_⟩
  · simp only [invoke]
    rw [show (#[] ++ #[Value.func (Fn.yield (w.heap.size + 1)) #[] #[]] ++ lb.toArray : Array Value) = #[Value.func (Fn.yield (w.heap.size + 1)) #[] #[]] ++ lb.toArray from by simp]
    exact hfn.run _ _
  refine callsIn_WF ((hseq K _ _ w₁ rfl s2).mono ?_)
  rintro _ w₃ ⟨rfl, hk, b, h⟩
  have e' : Env.ok ⟨n, m, mark w.heap.size :: ds⟩ { a with defers := [mark w.heap.size] ++ a.defers } := ⟨e.size, by show [mark w.heap.size] ++ a.defers = mark w.heap.size :: ds; rw [show a.defers = ds from e.ds]; rfl, e.get⟩
  have s3 : St x.w0 (.own (w.heap.size + 1) (isLp K .ready none) :: .own w.heap.size isDf :: Sf b) w₃ := h.st (s2.ext.trans hk)
  obtain ⟨o, h1, fn', tmps, df, rfl, h3⟩ := s3.own_at (b := w.heap.size + 1) (p := isLp K .ready none)
  have s4 := s3.put h1 (q := fun _ => True) (o := .loop { state := .exhausted, pending := none, fn := fn', tmps, params := #[K.p], assign := K.asg, body := K.body, defers := df }) trivial
  exact ⟨_, _, run_endLoop h1 (by simp), hdone _ b _ _ e' s4.tail⟩

theorem yc_roundL {P : Program} {l : Nat} {w : World} {K : LKey} {H : List Seg} {v : Value} {R : Ending → World → Prop} {n : Nat} {m : List (Nat × Value)} {p : Nat} {asg body : Code} (hK : K = ⟨n, m, p, asg, body⟩) (hs : StL (.own l (isLp K .ready none) :: H) w) (hp' : Nat.blt p n = true)
    (h' : T ⟨P, some l, w, QF⟩ [.inv (RJ P l body R)] asg ⟨n, (p, v) :: m, []⟩ (.own l (isLp K .ready none) :: H)) : YC P l #[v] w R := by
  subst hK
  have s := hs.st (Ext.refl w)
  obtain ⟨o, h1, fn, tmps, df, rfl, h3⟩ := s.own_at (b := l) (p := isLp ⟨n, m, p, asg, body⟩ .ready none)
  refine ⟨_, _, _, _, run_yield h1 rfl, roundIn_of_wpIn trivial ?_⟩
  have he := h3.put hp' v
  have := h' { tmps := tmps.setIfInBounds p v, defers := [] } w he s
  have hf : Array.foldl (fun (tmps : Array Value) (x : Nat × Value) => match x with | (t, a) => tmps.setIfInBounds t a) tmps (#[p].zip #[v]) = tmps.setIfInBounds p v := by simp
  simp only [hf]
  exact this

theorem t_rendL {P : Program} {l : Nat} {w : World} {E : Env} {H H2 : List Seg} {K : LKey} {β : Type} {G : β → List Seg} (b : β) (S' : List Seg) (hS : G b = .own l (isLp K .ready none) :: S') [h : OwnAt l H (isLp K .busy none) H2] [hsub : SubH S' H2] :
    TX ⟨P, some l, w, roundPost P l (fun e w' => e = .returned (.bool true) ∧ Ext w w' ∧ ∃ b, StL (G b) w')⟩ .normal [] E H := fun a w' e s => by
  obtain ⟨o, h1, fn, tmps, df, rfl, h3⟩ := s.own_at (b := l)
  have s2 := s.put h1 (q := isLp K .ready none) (o := .loop { state := .ready, pending := none, fn, tmps, params := #[K.p], assign := K.asg, body := K.body, defers := df }) ⟨fn, tmps, df, rfl, h3⟩
  haveI : SubH (.own l (isLp K .ready none) :: S') (.own l (isLp K .ready none) :: H2) := inferInstance
  refine ⟨_, _, run_endRound none h1, rfl, s2.ext, b, ?_⟩
  rw [hS]
  exact (s2.sub (H' := .own l (isLp K .ready none) :: S')).stL
end Go.Sx


namespace Go.Sx
open Go Go.RowKit

/-! ## A slice of a whole array of the call's own -/

section
variable {x : Cx} {d : Bool} {ops : Array Oper} {rest : List Oper} {ks : List KI} {n dd : Nat} {m : List (Nat × Value)} {ds : List Deferred} {H : List Seg} {ty : TypeId} {pos : String} {aft : Array Edge}

theorem run_slAr {P : Program} {t e b1 b2 len : TypeId} {zz : List ZV} {ei : TI} [ht : Ty P t ⟨.array len e, b1, b2, zz⟩] [he : Ty P e ei] {b : Nat} {w : World} :
    (Instr.sliceAt t (.pointer (some ⟨b, 0, none⟩)) none none none).run P w = .ok (.slice (some (if len = 0 then ⟨b, 0, none⟩ else (⟨b, 0, none⟩ : Addr).add (0 * ei.size))) (len - 0) (len - 0)) w := by
  simp only [Instr.sliceAt, Sem.run_bind, run_underlying ht.array, Result.andThen, Instr.sureAddr, Instr.sliceBounds, run_ok, he.sizeOf]
theorem to_slAr {t e b1 b2 len : TypeId} {zz : List ZV} {ei : TI} {y : Operand} {b : Nat} (hy : ev m y = some (.pointer (some ⟨b, 0, none⟩))) [ht : Ty x.P t ⟨.array len e, b1, b2, zz⟩] [he : Ty x.P e ei] (hd : Nat.blt dd n = true)
    (h : TO x d ops rest ks ⟨n, (dd, .slice (some ⟨b, 0, none⟩) len len) :: m, ds⟩ H) : TO x d ops (⟨some dd, .slice t y none none none, ty, pos, aft, none⟩ :: rest) ks ⟨n, m, ds⟩ H :=
  to_pure _ (fun _ h => by cases h) (fun a' w ea s => by
    simp only [execOp, Option.map_none]; rw [ea.ev hy]
    rw [Sem.run_bind, run_slAr (ei := ei) (e := e) (b1 := b1) (b2 := b2) (zz := zz) (len := len)]
    have h1 : (⟨b, 0, none⟩ : Addr).add (0 * ei.size) = ⟨b, 0, none⟩ := by
      rw [Nat.zero_mul, Addr.add_none]
    simp only [h1, ite_self, Nat.sub_zero]; rfl) hd h
/-- 's[:h]' of a string -/
theorem to_ssH {t b1 b2 : TypeId} {zz : List ZV} {y hiO : Operand} {l : List UInt8} {q : Nat} (hy : ev m y = some (.string ⟨l.toArray⟩)) (hh : ev m hiO = some (.int .i64 (Int.ofNat q))) [ht : Ty x.P t ⟨.string, b1, b2, zz⟩]
    (hq : q ≤ l.length) (hd : Nat.blt dd n = true) (h : TO x d ops rest ks ⟨n, (dd, .string ⟨(l.take q).toArray⟩) :: m, ds⟩ H) :
    TO x d ops (⟨some dd, .slice t y none (some hiO) none, ty, pos, aft, none⟩ :: rest) ks ⟨n, m, ds⟩ H :=
  to_pure _ (fun _ h => by cases h) (fun a' w ea s => by
    have hsz : ByteArray.size ⟨l.toArray⟩ = l.length := by simp [ByteArray.size]
    simp only [execOp, Option.map_none, Option.map_some]; rw [ea.ev hy, ea.ev hh]
    simp only [Instr.sliceAt, Sem.run_bind, run_underlying ht.string, Result.andThen, Instr.slice, Instr.sliceBounds, run_ok, hsz, run_bound q l.length _ hq, Option.isSome_none, Bool.false_eq_true, if_false, bytes_extract, List.drop_zero, Nat.sub_zero]) hd h
theorem flat_at {sz : Nat} {xs : List (List Value)} (he : ∀ x ∈ xs, x.length = sz) {i j : Nat} {x : List Value} {v : Value} (hx : xs[i]? = some x) (hv : x[j]? = some v) : xs.flatten[i * sz + j]? = some v := flatten_get he hx hv
theorem own_row {w0 w : World} {H H2 : List Seg} {b t n sz : Nat} {xs : List (List Value)} {cs : List Value} (s : St w0 H w) [ho : OwnAt b H (isC cs t) H2] (hc : cs = xs.flatten) (hn : xs.length = n) (he : ∀ x ∈ xs, x.length = sz) : Ro w 0 w.heap.size (some ⟨b, 0, none⟩) n n sz xs := by
  obtain ⟨o, h1, h2⟩ := s.own_at (b := b)
  have hb : b < w.heap.size := (Array.getElem?_eq_some_iff.1 h1).1
  refine ⟨hn, he, Nat.le_refl _, .inr ⟨_, rfl, rfl, Nat.zero_le _, hb, fun i x hx j v hv => ?_⟩⟩
  rw [h2] at h1
  have h3 := flat_at he hx hv
  rw [← hc] at h3
  simpa [World.cell?, h1] using h3
end
end Go.Sx


namespace Go.Sx
open Go Go.RowKit

/-! ## Guards in mixed regions that may panic -/

section
variable {x : Cx} {S : List Nat} {k : Nat} {ops : Array Oper} {rest : List Oper} {ks : List KI} {E : Env} {Hb H : List Seg}

/-- A guarded operation, as without a guard. -/
theorem tmr_gt {op : Op} {ty : TypeId} {pos : String} {aft : Array Edge} {dst : Option Nat} {j : Nat} {want : Bool} {s : Nat}
    (hs : (ops[j]?).bind (·.dst) = some s) (hv : lk E.m s = some (.bool want)) (h : TMR x S k ops (⟨dst, op, ty, pos, aft, none⟩ :: rest) ks E Hb H) : TMR x S k ops (⟨dst, op, ty, pos, aft, some (j, want)⟩ :: rest) ks E Hb H := by
  intro a e hne
  have hw : Region.wanted ⟨dst, op, ty, pos, aft, some (j, want)⟩ (yielded ops a.tmps) = true := by
    simp [Region.wanted, yielded, hs, e.get _ _ hv]
  have h1 := h a e hne
  simp only [wpMixR, Region.wanted, if_true] at h1
  simp only [wpMixR, hw, if_true]
  exact h1

theorem tmr_gf {n : Nat} {m : List (Nat × Value)} {ds : List Deferred} {op : Op} {ty : TypeId} {pos : String} {aft : Array Edge} {dd : Nat} {j : Nat} {want : Bool} {s : Nat} {u : Value}
    (hs : (ops[j]?).bind (·.dst) = some s) (hv : lk m s = some u) (hu : (match u with | .bool b => b == want | _ => false) = false) (hd : Nat.blt dd n = true)
    (h : TMR x S (k + 1) ops rest ks ⟨n, (dd, undef) :: m, ds⟩ Hb H) : TMR x S k ops (⟨some dd, op, ty, pos, aft, some (j, want)⟩ :: rest) ks ⟨n, m, ds⟩ Hb H := by
  intro a e hne
  have hw : Region.wanted ⟨some dd, op, ty, pos, aft, some (j, want)⟩ (yielded ops a.tmps) = false := by
    have := e.get _ _ hv
    simp only [Region.wanted, yielded, hs, Option.bind_some, this]
    cases u <;> simp_all
  simp only [wpMixR, hw]
  exact h _ (e.put hd undef) hne

theorem tmr_gs {n : Nat} {m : List (Nat × Value)} {ds : List Deferred} {o : Oper} {j : Nat} {want b : Bool} {s : Nat}
    (_hg : o.guard = some (j, want)) (_hs : (ops[j]?).bind (·.dst) = some s) (hv : lk m s = some (.bool b))
    (ht : b = true → TMR x S k ops (o :: rest) ks ⟨n, (s, .bool true) :: m, ds⟩ Hb H) (hf : b = false → TMR x S k ops (o :: rest) ks ⟨n, (s, .bool false) :: m, ds⟩ Hb H) : TMR x S k ops (o :: rest) ks ⟨n, m, ds⟩ Hb H := by
  have key : ∀ a, Env.ok ⟨n, m, ds⟩ a → Env.ok ⟨n, (s, .bool b) :: m, ds⟩ a := by
    intro a e
    refine ⟨e.size, e.ds, fun t u hu => ?_⟩
    simp only [lk] at hu
    cases hb : Nat.beq s t with
    | true =>
      rw [hb] at hu; cases hu
      have e' : s = t := Nat.eq_of_beq_eq_true hb
      subst e'; exact e.get _ _ hv
    | false => rw [hb] at hu; exact e.get _ _ hu
  cases b with
  | true => exact fun a e hne => ht rfl a (key a e) hne
  | false => exact fun a e hne => hf rfl a (key a e) hne

end
end Go.Sx


namespace Go.Sx
open Go Go.RowKit

/-! ### Such regions in an order of our own, where an operation may give up -/

section mixedPR
variable {P : Program} {ops : Array Oper} {md : Region.Mode} {C : World → Prop} {S : List Nat} {rr : Option Nat} {PP : List Deferred → List PanicEntry → World → Prop}

def wpOrdR (rr : Option Nat) (PP : List Deferred → List PanicEntry → World → Prop) (P : Program) (ops : Array Oper) (S : List Nat) (C : World → Prop) (Q : (World → Prop) → Act → Prop) : List (Nat × Oper) → (World → Prop) → Act → Prop
  | [], D, a => Q D a
  | (k, o) :: rest, D, a => if Region.wanted o (yielded ops a.tmps) then
      if S.contains k then ∀ w, D w → o.wpIn (WF rr) 0 P a w (fun a' w' => a'.defers = a.defers ∧ ∃ D', Fine ops C k D' ∧ D' w' ∧ wpOrdR rr PP P ops S C Q rest D' a') (QP PP)
      else ∃ v, quietM P C o a v ∧ wpOrdR rr PP P ops S C Q rest D (a.put o.dst v)
    else wpOrdR rr PP P ops S C Q rest D (a.put o.dst undef)

theorem mAny_ordR {Q : (World → Prop) → Act → Prop} (hs : Region.noSelect ops = true) (hnd : noDefer ops = true) : ∀ (l : List (Nat × Oper)) (listed : Array Bool) (D : World → Prop) (a : Act), (∀ p ∈ l, ops[p.1]? = some p.2) →
    ordFrom md ops S l listed = true → wpOrdR rr PP P ops S C Q l D a → mAnyR rr PP P md ops S C Q l.length listed D a
  | [], _, _, _, _, hB, h => ⟨by simpa [ordFrom] using hB, h⟩
  | (k, o) :: l, listed, D, a, hl, hB, h => by
    have h0 : ops[k]? = some o := hl (k, o) (List.mem_cons_self ..)
    simp only [ordFrom, Bool.and_eq_true] at hB
    obtain ⟨hr, hB'⟩ := hB
    have hst : mOpR rr PP P ops S C D k (fun D' a' => wpOrdR rr PP P ops S C Q l D' a') a := by unfold mOpR; simp only [h0]; exact h
    have hnext := fun D' a' (h : wpOrdR rr PP P ops S C Q l D' a') => mAny_ordR (Q := Q) hs hnd l (listed.setIfInBounds k true) D' a' (fun p hp => hl p (List.mem_cons_of_mem _ hp)) hB' h
    cases hS : S.contains k with
    | true =>
      rw [hS] at hr
      have hr' : Region.ready md ops listed = [k] := by simpa using hr
      refine ⟨fun h => (by rw [hr'] at h; cases h), fun i hi => ?_⟩
      rw [hr'] at hi
      have : i = k := by simpa using hi
      subst this
      exact mOpR_mono hnext hst
    | false =>
      rw [hS] at hr
      simp only [Bool.false_eq_true, if_false, Bool.and_eq_true] at hr
      obtain ⟨v, hy, hK⟩ := yieldsM_of_opR h0 hS hst
      exact mAnyR_first (noDefer_spec hnd) h0 hS (Region.noSelect_spec hs) l.length listed D a (Region.free_spec h0 hr.2) (by simpa using hr.1) hy (hnext _ _ hK)

theorem wpIn_region_ordR {id : Nat} {Q : Exit → Act → World → Prop} {a : Act} {w : World} {l : List Oper} (S L : List Nat) (C D : World → Prop) (hm : P.follows .mixedOrders = true) (hB : ordB l S L = true) (hg : Good C D) (hP : ∀ a ch w, PP a.defers ch w → Q (.panic ch) a w)
    (hD : D { w with drawn := w.drawn + 1 }) (h : wpOrdR rr PP P l.toArray S C (fun D a' => ∀ w', D w' → Q .normal a' w') (plan l L) D a) : (Code.region id l.toArray true).wpIn (WF rr) 0 P Q a w := by
  simp only [ordB, Bool.and_eq_true] at hB
  refine wpIn_region_any hm (wpAnyIn_of_mR (S := S) (noDefer_spec hB.1.1.2) (Q := fun D a' => ∀ w', D w' → Q .normal a' w') (fun D a w h hw => h w hw) hP _ _ D _ _ (.inl hg) hD ?_)
  have := mAny_ordR (rr := rr) (PP := PP) (P := P) (C := C) (md := .any) (S := S) hB.1.1.1 hB.1.1.2 (plan l L) (Array.replicate l.toArray.size false) D a plan_at hB.2 h
  rw [Nat.eq_of_beq_eq_true hB.1.2] at this
  exact this
end mixedPR

def TPR (x : Cx) (S : List Nat) (ops : Array Oper) (rest : List (Nat × Oper)) (ks : List KI) (E : Env) (Hb H : List Seg) : Prop :=
  ∀ a, E.ok a → (∃ w, St x.w0 Hb w) → wpOrdR x.r (PPx x) x.P ops S (St x.w0 Hb) (fun D a' => ∀ w', D w' → Qk x ks .normal a' w') rest (St x.w0 H) a

def MPR (x : Cx) (S : List Nat) (k : Nat) (ops : Array Oper) (rest : List (Nat × Oper)) (ks : List KI) (ds : List Deferred) (Hb : List Seg) (a : Act) (w : World) : Prop :=
  a.defers = ds ∧ ∃ D', Fine ops (St x.w0 Hb) (k - 1) D' ∧ D' w ∧ wpOrdR x.r (PPx x) x.P ops S (St x.w0 Hb) (fun D a' => ∀ w', D w' → Qk x ks .normal a' w') rest D' a

section
variable {x : Cx} {S : List Nat} {k : Nat} {ops : Array Oper} {rest : List (Nat × Oper)} {ks : List KI} {E : Env} {Hb H : List Seg}

theorem t_regPR {id : Nat} {l : List Oper} (S L : List Nat) (Hb : List Seg) (hm : x.P.follows .mixedOrders = true) (hB : ordB l S L = true) [SubH Hb H] (h : TPR x S l.toArray (plan l L) ks E Hb H) : T x ks (.region id l.toArray true) E H := by
  intro a w e s
  exact wpIn_region_ordR S L (St x.w0 Hb) (St x.w0 H) hm hB st_good (fun a ch w hp => by rw [Qk_panic]; exact hp a rfl) s.drew (h a e ⟨w, s.sub⟩)

theorem tpr_nil (h : TX x .normal ks E H) : TPR x S ops [] ks E Hb H := fun a e _ w s => h a w e s

/-- A quiet operation: its rule, applied to it alone. -/
theorem tpr_q {o : Oper} (E' : Env) (hS : S.contains k = false) (hq : TO x.nx true ops [o] [.inv (fun a _ => E'.ok a)] E Hb) (h : TPR x S ops rest ks E' Hb H) : TPR x S ops ((k, o) :: rest) ks E Hb H := by
  intro a e hne
  have h1 := hq a e
  have ⟨w, hw⟩ := hne
  simp only [wpQM] at h1
  simp only [wpOrdR, hS, Bool.false_eq_true, if_false]
  split
  · rename_i hwt
    simp only [hwt, if_true] at h1
    obtain ⟨v, h2, h3⟩ := h1
    exact ⟨v, h2, h _ (h3 w hw) hne⟩
  · rename_i hwt
    simp only [hwt] at h1
    exact h _ (h1 w hw) hne

theorem tprq_end {E : Env} {x : Cx} {ops : Array Oper} {H : List Seg} : TO x true ops [] [.inv (fun a _ => E.ok a)] E H := fun _ e _ _ => e

/-- One that turns the world. -/
theorem tpr_s {o : Oper} (hS : S.contains k = true) (hs : TO x.nxR false ops [o] [.inv (MPR x S (k + 1) ops rest ks E.ds Hb)] E H) (hnd : ∀ c, o.op ≠ .defer c) (hg : o.guard = none) : TPR x S ops ((k, o) :: rest) ks E Hb H := by
  intro a e hne
  have hw : Region.wanted o (yielded ops a.tmps) = true := by unfold Region.wanted; rw [hg]
  simp only [wpOrdR, hS, hw, if_true]
  intro w s
  have h1 := hs a w e s
  simp only [wpListIn, hw, if_true] at h1
  refine ⟨fun _ _ => trivial, ?_⟩
  have h2 := h1.2
  have h2' : o.uponIn (WF x.r) 0 x.P a (MPR x S (k + 1) ops rest ks E.ds Hb) (Exit.then (MPR x S (k + 1) ops rest ks E.ds Hb) (QP (PPx x))) ((o.semAt x.r a.eval).run x.P w) := h2
  have hL : LetsOut (Exit.then (MPR x S (k + 1) ops rest ks E.ds Hb) (QP (PPx x))) → LetsOut (QP (PPx x)) := fun ⟨_, _, h⟩ => ⟨a, w, h⟩
  have h3 : o.uponIn (WF x.r) 0 x.P a (MPR x S (k + 1) ops rest ks E.ds Hb) (QP (PPx x)) ((o.semAt x.r a.eval).run x.P w) := by
    generalize (o.semAt x.r a.eval).run x.P w = r at h2'
    unfold Oper.uponIn at *
    split <;> simp only at h2'
    · exact h2'
    · exact h2'
    · exact h2'
    · exact ⟨h2'.1, h2'.2.mono fun e w' he => by
        cases e with
        | returned v => exact he
        | panicked c => exact he
        | outgrown => exact hL he⟩
    · exact h2'
    · exact ⟨h2'.1, h2'.2.mono fun e w' he => by
        cases e with
        | returned v => exact he
        | panicked c => exact he
        | outgrown => exact hL he⟩
    · exact h2'
  refine uponR_mono (fun a' w' h' => ?_) h3
  obtain ⟨h4, D', h5, h6, h7⟩ := h'
  exact ⟨h4.trans e.ds.symm, D', h5, h6, h7⟩
theorem tpr_se {ds : List Deferred} [SubH Hb H] (hds : E.ds = ds) (h : TPR x S ops rest ks E Hb H) : TO x.nxR false ops [] [.inv (MPR x S k ops rest ks ds Hb)] E H := fun a w e s =>
  ⟨e.ds.trans hds, St x.w0 H, .inr st_good, s, h a e ⟨w, s.sub⟩⟩

theorem tpr_se2 {ds : List Deferred} (hsub : ∀ w, St x.w0 H w → St x.w0 Hb w) (hds : E.ds = ds) (h : TPR x S ops rest ks E Hb H) : TO x.nxR false ops [] [.inv (MPR x S k ops rest ks ds Hb)] E H := fun a w e s =>
  ⟨e.ds.trans hds, St x.w0 H, .inr ⟨fun _ _ h hb => h.below hb, hsub⟩, s, h a e ⟨w, hsub w s⟩⟩

/-- Behind the last operation of all. -/
theorem tpr_sl {ds : List Deferred} (hl : lastB ops = true) (hk : Nat.beq k ops.size = true) (hds : E.ds = ds) (h : TX x .normal ks E H) : TO x.nxR false ops [] [.inv (MPR x S k ops [] ks ds Hb)] E H := fun a w e s =>
  ⟨e.ds.trans hds, St x.w0 H, .inl ⟨hl, by have := Nat.eq_of_beq_eq_true hk; have h0 : 0 < ops.size := (by unfold lastB at hl; rcases Nat.eq_zero_or_pos ops.size with h0 | h0; (rw [h0] at hl; rw [Array.getElem?_eq_none (by omega)] at hl; cases hl); exact h0); omega⟩, s, fun w' hw' => h a w' e hw'⟩

/-- A guarded operation, as without a guard. -/
theorem tpr_gt {op : Op} {ty : TypeId} {pos : String} {aft : Array Edge} {dst : Option Nat} {j : Nat} {want : Bool} {s : Nat}
    (hs : (ops[j]?).bind (·.dst) = some s) (hv : lk E.m s = some (.bool want)) (h : TPR x S ops ((k, ⟨dst, op, ty, pos, aft, none⟩) :: rest) ks E Hb H) : TPR x S ops ((k, ⟨dst, op, ty, pos, aft, some (j, want)⟩) :: rest) ks E Hb H := by
  intro a e hne
  have hw : Region.wanted ⟨dst, op, ty, pos, aft, some (j, want)⟩ (yielded ops a.tmps) = true := by
    simp [Region.wanted, yielded, hs, e.get _ _ hv]
  have h1 := h a e hne
  simp only [wpOrdR, Region.wanted, if_true] at h1
  simp only [wpOrdR, hw, if_true]
  exact h1

theorem tpr_gf {n : Nat} {m : List (Nat × Value)} {ds : List Deferred} {op : Op} {ty : TypeId} {pos : String} {aft : Array Edge} {dd : Nat} {j : Nat} {want : Bool} {s : Nat} {u : Value}
    (hs : (ops[j]?).bind (·.dst) = some s) (hv : lk m s = some u) (hu : (match u with | .bool b => b == want | _ => false) = false) (hd : Nat.blt dd n = true)
    (h : TPR x S ops rest ks ⟨n, (dd, undef) :: m, ds⟩ Hb H) : TPR x S ops ((k, ⟨some dd, op, ty, pos, aft, some (j, want)⟩) :: rest) ks ⟨n, m, ds⟩ Hb H := by
  intro a e hne
  have hw : Region.wanted ⟨some dd, op, ty, pos, aft, some (j, want)⟩ (yielded ops a.tmps) = false := by
    have := e.get _ _ hv
    simp only [Region.wanted, yielded, hs, Option.bind_some, this]
    cases u <;> simp_all
  simp only [wpOrdR, hw]
  exact h _ (e.put hd undef) hne

theorem tpr_gs {n : Nat} {m : List (Nat × Value)} {ds : List Deferred} {o : Oper} {j : Nat} {want b : Bool} {s : Nat}
    (_hg : o.guard = some (j, want)) (_hs : (ops[j]?).bind (·.dst) = some s) (hv : lk m s = some (.bool b))
    (ht : b = true → TPR x S ops ((k, o) :: rest) ks ⟨n, (s, .bool true) :: m, ds⟩ Hb H) (hf : b = false → TPR x S ops ((k, o) :: rest) ks ⟨n, (s, .bool false) :: m, ds⟩ Hb H) : TPR x S ops ((k, o) :: rest) ks ⟨n, m, ds⟩ Hb H := by
  have key : ∀ a, Env.ok ⟨n, m, ds⟩ a → Env.ok ⟨n, (s, .bool b) :: m, ds⟩ a := by
    intro a e
    refine ⟨e.size, e.ds, fun t u hu => ?_⟩
    simp only [lk] at hu
    cases hb : Nat.beq s t with
    | true =>
      rw [hb] at hu; cases hu
      have e' : s = t := Nat.eq_of_beq_eq_true hb
      subst e'; exact e.get _ _ hv
    | false => rw [hb] at hu; exact e.get _ _ hu
  cases b with
  | true => exact fun a e hne => ht rfl a (key a e) hne
  | false => exact fun a e hne => hf rfl a (key a e) hne

end

end Go.Sx


namespace Go.Sx
open Go Go.RowKit
theorem run_eqFN {P : Program} {t : TypeId} {v : Value} {b : Bool} (hu : (match P.underlying t with | some (.func _ _ _) => true | _ => false) = true) (hv : (v = .nilFunc ∧ b = true) ∨ ((∃ f a c, v = .func f a c) ∧ b = false)) (w : World) : (Op.equal t v .nilFunc).run P w = .ok b w := by
  have key : ∀ k, (Op.equalIn (k + 1) t v .nilFunc).run P w = .ok b w := fun k => by
    cases hq : P.underlying t with
    | none => rw [hq] at hu; cases hu
    | some d =>
      rw [hq] at hu
      cases d with
      | func a b' c =>
        rcases hv with ⟨rfl, rfl⟩ | ⟨⟨f, a', c', rfl⟩, rfl⟩
        · simp only [Op.equalIn, Sem.run_bind, run_underlying hq, Result.andThen, run_ok]
        · simp only [Op.equalIn, Sem.run_bind, run_underlying hq, Result.andThen, run_ok]
      | _ => simp at hu
  exact key 9999
section
variable {x : Cx} {d : Bool} {ops : Array Oper} {rest : List Oper} {ks : List KI} {n : Nat} {m : List (Nat × Value)} {ds : List Deferred} {H H2 : List Seg}
variable {ty : TypeId} {pos : String} {aft : Array Edge} {dd : Nat}
/-- 'f != nil', f a function -/
theorem to_nefF {t t2 : TypeId} {y z : Operand} {f : Fn} {a c : Array Value} (hy : ev m y = some (.func f a c)) (hz : ev m z = some .nilFunc) (hu : (match x.P.underlying t with | some (.func _ _ _) => true | _ => false) = true)
    (hd : Nat.blt dd n = true) (hh : TO x d ops rest ks ⟨n, (dd, .bool true) :: m, ds⟩ H) : TO x d ops (⟨some dd, .binOp .neq t y z t2, ty, pos, aft, none⟩ :: rest) ks ⟨n, m, ds⟩ H :=
  to_bin hy hz (fun w => by
    have e : (eqGuard .neq t y z (.func f a c) .nilFunc).run x.P w = .ok () w := rfl
    simp only [Sem.run_bind, e, Result.andThen, binOp, run_eqFN hu (.inr ⟨⟨f, a, c, rfl⟩, rfl⟩), run_ok]; rfl) hd hh
theorem to_nefN {t t2 : TypeId} {y z : Operand} (hy : ev m y = some .nilFunc) (hz : ev m z = some .nilFunc) (hu : (match x.P.underlying t with | some (.func _ _ _) => true | _ => false) = true)
    (hd : Nat.blt dd n = true) (hh : TO x d ops rest ks ⟨n, (dd, .bool false) :: m, ds⟩ H) : TO x d ops (⟨some dd, .binOp .neq t y z t2, ty, pos, aft, none⟩ :: rest) ks ⟨n, m, ds⟩ H :=
  to_bin hy hz (fun w => by
    have e : (eqGuard .neq t y z .nilFunc .nilFunc).run x.P w = .ok () w := rfl
    simp only [Sem.run_bind, e, Result.andThen, binOp, run_eqFN hu (.inl ⟨rfl, rfl⟩), run_ok]; rfl) hd hh
end
end Go.Sx


namespace Go.Sx
open Go Go.RowKit
/-! ### Maps whose keys are two ints, which remember what a function gives -/
abbrev pairV (a b : Int) : Value := .agg #[.int .i64 a, .int .i64 b]
class KeyP (P : Program) (kt : TypeId) : Prop where
  chk : ∀ (e : Bool) (a b : Int) (w : World), (Instr.checkKey e 10000 kt (pairV a b)).run P w = .ok () w
  eq : ∀ (a b c d : Int) (w : World), (Op.equal kt (pairV a b) (pairV c d)).run P w = .ok (decide (a = c) && decide (b = d)) w
  wide : (match P.underlying kt with | some (.array _ _) | some (.struct _) => true | _ => false) = true
def mmOk (L : Int → Int → Value) (es : List MapEntry) : Prop := ∀ e ∈ es, ∃ c d, e.key = pairV c d ∧ e.val = L c d
def isMm (L : Int → Int → Value) (o : Obj) : Prop := ∃ es c, o = .map es c ∧ mmOk L es.toList
theorem find_mm {P : Program} {kt : TypeId} [hk : KeyP P kt] {L : Int → Int → Value} {a b : Int} {w : World} : ∀ (es : List MapEntry) (i : Nat), mmOk L es →
    ∃ r, (Instr.findAsking kt (pairV a b) es i).run P w = .ok r w ∧ (r = none ∨ ∃ j, r = some (j, L a b) ∧ i ≤ j ∧ ∃ e, es[j - i]? = some e ∧ e.key = pairV a b)
  | [], i, _ => ⟨none, by simp [Instr.findAsking], .inl rfl⟩
  | e :: es, i, h => by
    obtain ⟨c, d, h1, h2⟩ := h e (List.mem_cons_self ..)
    have heq := hk.eq a b c d w
    by_cases hc : a = c ∧ b = d
    · obtain ⟨rfl, rfl⟩ := hc
      refine ⟨some (i, e.val), ?_, .inr ⟨i, by rw [h2], Nat.le_refl _, e, by simp, h1⟩⟩
      simp only [decide_true, Bool.and_self] at heq
      simp only [Instr.findAsking, Sem.run_bind, h1, heq, Result.andThen, if_true, run_ok]
    · have hf : (decide (a = c) && decide (b = d)) = false := by
        rw [Bool.eq_false_iff]
        intro hh
        simp only [Bool.and_eq_true, decide_eq_true_eq] at hh
        exact hc hh
      rw [hf] at heq
      obtain ⟨r, hr, hres⟩ := find_mm (P := P) (kt := kt) (a := a) (b := b) (w := w) es (i + 1) (fun e he => h e (List.mem_cons_of_mem _ he))
      refine ⟨r, ?_, ?_⟩
      · simp only [Instr.findAsking, Sem.run_bind, h1, heq, Result.andThen, Bool.false_eq_true, if_false]
        exact hr
      · rcases hres with h3 | ⟨j, h3, h4, e', h5, h6⟩
        · exact .inl h3
        · refine .inr ⟨j, h3, by omega, e', ?_, h6⟩
          rw [show j - i = (j - (i + 1)) + 1 by omega]; simpa using h5
theorem same_pair (a b : Int) : Instr.sameBits 10000 (pairV a b) (pairV a b) = true := by
  have key : ∀ n, Instr.sameBits (n + 1) (pairV a b) (pairV a b) = true := fun n => by
    simp [Instr.sameBits]
  exact key 9999
section
variable {x : Cx} {d : Bool} {ops : Array Oper} {rest : List Oper} {ks : List KI} {n : Nat} {m : List (Nat × Value)} {ds : List Deferred} {H H2 : List Seg}
variable {ty : TypeId} {pos : String} {aft : Array Edge} {dd : Nat}
theorem to_mkmm {t : TypeId} (L : Int → Int → Value) (hd : Nat.blt dd n = true)
    (h : ∀ r, TO x false ops rest ks ⟨n, (dd, .map (some r)) :: m, ds⟩ (.own r (isMm L) :: H)) :
    TO x false ops (⟨some dd, .makeMap t none, ty, pos, aft, none⟩ :: rest) ks ⟨n, m, ds⟩ H :=
  to_step (fun _ h => by cases h) (fun a w e s => by
    refine ⟨.map (some w.heap.size), w.alloc (.map #[] 0), ?_, _, s.alloc (p := isMm L) ⟨#[], 0, rfl, (fun _ h => by cases h)⟩, h w.heap.size⟩
    simp only [execOp, Option.map_none, Instr.makeMap, Sem.run_bind, run_newObj, Result.andThen, run_ok]) hd
/-- 'v, met := m[k]': what is met is right. -/
theorem to_lkmm {t kt et b1 b2 : TypeId} {zz : List ZV} {y i : Operand} {r : Nat} {a b : Int} {z : Value} {L : Int → Int → Value} (hy : ev m y = some (.map (some r))) (hi : ev m i = some (pairV a b))
    [ho : OwnAt r H (isMm L) H2] [ht : Ty x.P t ⟨.map kt et, b1, b2, zz⟩] [hk : KeyP x.P kt] (hz : ∀ w, (zeroValue et).run x.P w = .ok z w) (hd : Nat.blt dd n = true)
    (h1 : TO x false ops rest ks ⟨n, (dd, .tuple #[L a b, .bool true]) :: m, ds⟩ H) (h2 : TO x false ops rest ks ⟨n, (dd, .tuple #[z, .bool false]) :: m, ds⟩ H) :
    TO x false ops (⟨some dd, .lookup t y i true, ty, pos, aft, none⟩ :: rest) ks ⟨n, m, ds⟩ H := by
  intro a' w e s
  obtain ⟨o, g1, es, c, rfl, g3⟩ := s.own_at (b := r)
  obtain ⟨q, hq, hres⟩ := find_mm (P := x.P) (kt := kt) (a := a) (b := b) (w := w) es.toList 0 g3
  rcases hres with rfl | ⟨j, rfl, _⟩
  · refine to_step (fun _ h => by cases h) (fun a' w' e' s' => ?_) hd a' w e s
    by_cases hw : w' = w
    · subst hw
      refine ⟨_, w', ?_, H, s', h2⟩
      simp only [execOp]; rw [e'.ev hy, e'.ev hi]
      simp only [Instr.lookup, Sem.run_bind, run_underlying ht.map, Result.andThen, run_getObj g1, hk.chk, run_findKey_eq w' hk.wide, hq, hz, run_ok, if_true]
    · obtain ⟨o, k1, es', c', rfl, k3⟩ := s'.own_at (b := r)
      obtain ⟨q', hq', hres'⟩ := find_mm (P := x.P) (kt := kt) (a := a) (b := b) (w := w') es'.toList 0 k3
      rcases hres' with rfl | ⟨j', rfl, _⟩
      · refine ⟨_, w', ?_, H, s', h2⟩
        simp only [execOp]; rw [e'.ev hy, e'.ev hi]
        simp only [Instr.lookup, Sem.run_bind, run_underlying ht.map, Result.andThen, run_getObj k1, hk.chk, run_findKey_eq w' hk.wide, hq', hz, run_ok, if_true]
      · refine ⟨_, w', ?_, H, s', h1⟩
        simp only [execOp]; rw [e'.ev hy, e'.ev hi]
        simp only [Instr.lookup, Sem.run_bind, run_underlying ht.map, Result.andThen, run_getObj k1, hk.chk, run_findKey_eq w' hk.wide, hq', run_ok, if_true]
  · refine to_step (fun _ h => by cases h) (fun a' w' e' s' => ?_) hd a' w e s
    obtain ⟨o, k1, es', c', rfl, k3⟩ := s'.own_at (b := r)
    obtain ⟨q', hq', hres'⟩ := find_mm (P := x.P) (kt := kt) (a := a) (b := b) (w := w') es'.toList 0 k3
    rcases hres' with rfl | ⟨j', rfl, _⟩
    · refine ⟨_, w', ?_, H, s', h2⟩
      simp only [execOp]; rw [e'.ev hy, e'.ev hi]
      simp only [Instr.lookup, Sem.run_bind, run_underlying ht.map, Result.andThen, run_getObj k1, hk.chk, run_findKey_eq w' hk.wide, hq', hz, run_ok, if_true]
    · refine ⟨_, w', ?_, H, s', h1⟩
      simp only [execOp]; rw [e'.ev hy, e'.ev hi]
      simp only [Instr.lookup, Sem.run_bind, run_underlying ht.map, Result.andThen, run_getObj k1, hk.chk, run_findKey_eq w' hk.wide, hq', run_ok, if_true]
/-- 'm[k] = v', v what is right. -/
theorem to_mupmm {t kt et b1 b2 : TypeId} {zz : List ZV} {y i z : Operand} {r : Nat} {a b : Int} {v : Value} {L : Int → Int → Value} (hy : ev m y = some (.map (some r))) (hi : ev m i = some (pairV a b)) (hz : ev m z = some v) (hv : v = L a b)
    [ho : OwnAt r H (isMm L) H2] [ht : Ty x.P t ⟨.map kt et, b1, b2, zz⟩] [hk : KeyP x.P kt]
    (h : TO x false ops rest ks ⟨n, m, ds⟩ (.own r (isMm L) :: H2)) : TO x false ops (⟨none, .mapUpdate t y i z, ty, pos, aft, none⟩ :: rest) ks ⟨n, m, ds⟩ H :=
  to_step0 (fun _ h => by cases h) (fun a' w e s => by
    have s2 := s.perm ho.perm
    obtain ⟨o, h1, es, c, rfl, h3⟩ := s.own_at (b := r)
    obtain ⟨q, hq, hres⟩ := find_mm (P := x.P) (kt := kt) (a := a) (b := b) (w := w) es.toList 0 h3
    have fin : ∀ es' c', mmOk L es'.toList → ∃ w', (setObj r (.map es' c')).run x.P w = .ok () w' ∧ ∃ H', St x.w0 H' w' ∧ TO x false ops rest ks ⟨n, m, ds⟩ H' := fun es' c' hes => by
      obtain ⟨w', r1, r2, r3, r4, r5, r6, r7⟩ := run_setObj (P := x.P) (o := .map es' c') h1
      exact ⟨w', r1, _, s2.upd r5 r6 r7 r3 (fun k hk => r4 k (by simp [Seg.lo, Seg.hi] at hk; omega)) (s' := .own r (isMm L)) rfl rfl ⟨_, r2, es', c', rfl, hes⟩, h⟩
    rcases hres with rfl | ⟨j, rfl, _, e1, he1, hek⟩
    · obtain ⟨w', hw, hr⟩ := fin (es.push { key := pairV a b, val := v, born := c }) (c + 1) (fun e he => by
        simp at he
        rcases he with he | rfl
        · exact h3 e (by simpa using he)
        · exact ⟨a, b, rfl, hv⟩)
      refine ⟨w', ?_, hr⟩
      simp only [execOp]; rw [e.ev hy, e.ev hi, e.ev hz]
      simp only [Instr.mapUpdate, Sem.run_bind, run_underlying ht.map, Result.andThen, run_getObj h1, hk.chk, run_findKey_eq w hk.wide, hq, run_ok, hw]
    · have hkey : ((es[j]?).map (·.key)).getD (pairV a b) = pairV a b := by
        rw [← Array.getElem?_toList, show j = j - 0 from rfl, he1]; simp [hek]
      obtain ⟨w', hw, hr⟩ := fin (es.modify j fun e => { e with key := pairV a b, val := v }) c (fun e he => by
        rw [Array.toList_modify] at he
        obtain ⟨k, hkk⟩ := List.mem_iff_getElem?.1 he
        rw [List.getElem?_modify] at hkk
        split at hkk
        · cases hq2 : es.toList[k]? with
          | none => rw [hq2] at hkk; cases hkk
          | some e2 =>
            rw [hq2] at hkk
            cases hkk
            exact ⟨a, b, rfl, hv⟩
        · cases hq2 : es.toList[k]? with
          | none => rw [hq2] at hkk; cases hkk
          | some e2 =>
            rw [hq2] at hkk
            cases hkk
            exact h3 _ (List.mem_of_getElem? hq2))
      refine ⟨w', ?_, hr⟩
      simp only [execOp]; rw [e.ev hy, e.ev hi, e.ev hz]
      simp only [Instr.mapUpdate, Sem.run_bind, run_underlying ht.map, Result.andThen, run_getObj h1, hk.chk, run_findKey_eq w hk.wide, hq, Instr.keyThatStays, hkey, same_pair, if_true, run_ok, hw])
end
end Go.Sx


namespace Go.Sx
open Go Go.RowKit
/-! A drawn region in which two operations that turn the world may come in either order. -/
def preFrom (md : Region.Mode) (ops : Array Oper) (S : List Nat) : List (Nat × Oper) → Array Bool → Bool
  | [], _ => true
  | (k, _) :: l, listed => (if S.contains k then Region.ready md ops listed == [k] else (Region.ready md ops listed).contains k && Region.free md ops listed k) && preFrom md ops S l (listed.setIfInBounds k true)
def setAll : List (Nat × Oper) → Array Bool → Array Bool
  | [], b => b
  | p :: l, b => setAll l (b.setIfInBounds p.1 true)
def forkFrom (md : Region.Mode) (ops : Array Oper) (S : List Nat) : List (Nat × Oper) → List (Nat × Oper) → Array Bool → Bool
  | (k1, _) :: l1, (k2, _) :: l2, listed => S.contains k1 && S.contains k2 && (Region.ready md ops listed == [k1, k2]) && ordFrom md ops S l1 (listed.setIfInBounds k1 true) && ordFrom md ops S l2 (listed.setIfInBounds k2 true)
  | _, _, _ => false
section
variable {P : Program} {ops : Array Oper} {md : Region.Mode} {C : World → Prop} {S : List Nat}
theorem mAny_pre {Q Q' : (World → Prop) → Act → Prop} (hs : Region.noSelect ops = true) (hnd : noDefer ops = true) {m : Nat} : ∀ (l : List (Nat × Oper)) (listed : Array Bool) (D : World → Prop) (a : Act), (∀ p ∈ l, ops[p.1]? = some p.2) →
    preFrom md ops S l listed = true → wpOrd P ops S C Q l D a → (∀ D a, Q D a → mAny P md ops S C Q' m (setAll l listed) D a) → mAny P md ops S C Q' (l.length + m) listed D a
  | [], _, _, _, _, _, h, hf => by simpa [setAll] using hf _ _ h
  | (k, o) :: l, listed, D, a, hl, hB, h, hf => by
    have h0 : ops[k]? = some o := hl (k, o) (List.mem_cons_self ..)
    simp only [preFrom, Bool.and_eq_true] at hB
    obtain ⟨hr, hB'⟩ := hB
    have hst : mOp P ops S C D k (fun D' a' => wpOrd P ops S C Q l D' a') a := by unfold mOp; simp only [h0]; exact h
    have hnext := fun D' a' (h : wpOrd P ops S C Q l D' a') => mAny_pre (Q := Q) (Q' := Q') (m := m) hs hnd l (listed.setIfInBounds k true) D' a' (fun p hp => hl p (List.mem_cons_of_mem _ hp)) hB' h hf
    rw [List.length_cons, show l.length + 1 + m = (l.length + m) + 1 by omega]
    cases hS : S.contains k with
    | true =>
      rw [hS] at hr
      have hr' : Region.ready md ops listed = [k] := by simpa using hr
      refine ⟨fun h => (by rw [hr'] at h; cases h), fun i hi => ?_⟩
      rw [hr'] at hi
      have : i = k := by simpa using hi
      subst this
      exact mOp_mono hnext hst
    | false =>
      rw [hS] at hr
      simp only [Bool.false_eq_true, if_false, Bool.and_eq_true] at hr
      obtain ⟨v, hy, hK⟩ := yieldsM_of_op h0 hS hst
      exact mAny_first (noDefer_spec hnd) h0 hS (Region.noSelect_spec hs) (l.length + m) listed D a (Region.free_spec h0 hr.2) (by simpa using hr.1) hy (hnext _ _ hK)
theorem mAny_fork {Q : (World → Prop) → Act → Prop} (hs : Region.noSelect ops = true) (hnd : noDefer ops = true) : ∀ (l1 l2 : List (Nat × Oper)) (listed : Array Bool) (D : World → Prop) (a : Act), (∀ p ∈ l1, ops[p.1]? = some p.2) → (∀ p ∈ l2, ops[p.1]? = some p.2) → l1.length = l2.length →
    forkFrom md ops S l1 l2 listed = true → wpOrd P ops S C Q l1 D a → wpOrd P ops S C Q l2 D a → mAny P md ops S C Q l1.length listed D a
  | [], _, _, _, _, _, _, _, hB, _, _ => by simp [forkFrom] at hB
  | _ :: _, [], _, _, _, _, _, _, hB, _, _ => by simp [forkFrom] at hB
  | (k1, o1) :: l1, (k2, o2) :: l2, listed, D, a, hl1, hl2, hlen, hB, h1, h2 => by
    simp only [forkFrom, Bool.and_eq_true] at hB
    obtain ⟨⟨⟨⟨hS1, hS2⟩, hr⟩, hB1⟩, hB2⟩ := hB
    have hr' : Region.ready md ops listed = [k1, k2] := by simpa using hr
    have e1 : ops[k1]? = some o1 := hl1 (k1, o1) (List.mem_cons_self ..)
    have e2 : ops[k2]? = some o2 := hl2 (k2, o2) (List.mem_cons_self ..)
    have s1 : mOp P ops S C D k1 (fun D' a' => wpOrd P ops S C Q l1 D' a') a := by unfold mOp; simp only [e1]; exact h1
    have s2 : mOp P ops S C D k2 (fun D' a' => wpOrd P ops S C Q l2 D' a') a := by unfold mOp; simp only [e2]; exact h2
    have hlen2 : l1.length = l2.length := by simpa using hlen
    refine ⟨fun h => (by rw [hr'] at h; cases h), fun i hi => ?_⟩
    rw [hr'] at hi
    simp only [List.mem_cons, List.not_mem_nil, or_false] at hi
    rcases hi with rfl | rfl
    · exact mOp_mono (fun D' a' h => mAny_ord (Q := Q) hs hnd l1 _ D' a' (fun p hp => hl1 p (List.mem_cons_of_mem _ hp)) hB1 h) s1
    · refine mOp_mono (fun D' a' h => ?_) s2
      have := mAny_ord (Q := Q) hs hnd l2 _ D' a' (fun p hp => hl2 p (List.mem_cons_of_mem _ hp)) hB2 h
      rw [← hlen2] at this; exact this
end
def ordF (l : List Oper) (S L0 L1 L2 : List Nat) : Bool := Region.noSelect l.toArray && noDefer l.toArray && Nat.beq ((plan l L0).length + (plan l L1).length) l.toArray.size && Nat.beq (plan l L1).length (plan l L2).length && preFrom .any l.toArray S (plan l L0) (Array.replicate l.toArray.size false) && forkFrom .any l.toArray S (plan l L1) (plan l L2) (setAll (plan l L0) (Array.replicate l.toArray.size false))
theorem wpIn_region_fork {P : Program} {id : Nat} {Q : Exit → Act → World → Prop} {a : Act} {w : World} {l : List Oper} (S L0 L1 L2 : List Nat) (C D : World → Prop) (hm : P.follows .mixedOrders = true) (hB : ordF l S L0 L1 L2 = true) (hg : Good C D)
    (hD : D { w with drawn := w.drawn + 1 }) (h : wpOrd P l.toArray S C (fun D a' => wpOrd P l.toArray S C (fun D a' => ∀ w', D w' → Q .normal a' w') (plan l L1) D a' ∧ wpOrd P l.toArray S C (fun D a' => ∀ w', D w' → Q .normal a' w') (plan l L2) D a') (plan l L0) D a) : (Code.region id l.toArray true).wpIn (WF none) 0 P Q a w := by
  simp only [ordF, Bool.and_eq_true] at hB
  obtain ⟨⟨⟨⟨⟨hB1, hB2⟩, hB3⟩, hB4⟩, hB5⟩, hB6⟩ := hB
  refine wpIn_region_any hm (wpAnyIn_of_m (S := S) (noDefer_spec hB2) (Q := fun D a' => ∀ w', D w' → Q .normal a' w') (fun D a w h hw => h w hw) _ _ D _ _ (.inl hg) hD ?_)
  have := mAny_pre (P := P) (C := C) (md := .any) (S := S) hB1 hB2 (m := (plan l L1).length) (Q' := fun D a' => ∀ w', D w' → Q .normal a' w') (plan l L0) (Array.replicate l.toArray.size false) D a plan_at hB5 h
    (fun D a hh => mAny_fork hB1 hB2 (plan l L1) (plan l L2) _ D a plan_at plan_at (Nat.eq_of_beq_eq_true hB4) hB6 hh.1 hh.2)
  rw [Nat.eq_of_beq_eq_true hB3] at this
  exact this
def TFk (x : Cx) (S : List Nat) (ops : Array Oper) (rest l1 l2 : List (Nat × Oper)) (ks : List KI) (E : Env) (Hb H : List Seg) : Prop :=
  ∀ a, E.ok a → (∃ w, St x.w0 Hb w) → wpOrd x.P ops S (St x.w0 Hb) (fun D a' => wpOrd x.P ops S (St x.w0 Hb) (fun D a' => ∀ w', D w' → Qk x ks .normal a' w') l1 D a' ∧ wpOrd x.P ops S (St x.w0 Hb) (fun D a' => ∀ w', D w' → Qk x ks .normal a' w') l2 D a') rest (St x.w0 H) a
section
variable {x : Cx} {S : List Nat} {k : Nat} {ops : Array Oper} {rest l1 l2 : List (Nat × Oper)} {ks : List KI} {E : Env} {Hb H : List Seg}
theorem t_regF {id : Nat} {l : List Oper} (S L0 L1 L2 : List Nat) (Hb : List Seg) (hr : x.r = none) (hm : x.P.follows .mixedOrders = true) (hB : ordF l S L0 L1 L2 = true) [SubH Hb H] (h : TFk x S l.toArray (plan l L0) (plan l L1) (plan l L2) ks E Hb H) : T x ks (.region id l.toArray true) E H := by
  intro a w e s
  rw [hr]
  exact wpIn_region_fork S L0 L1 L2 (St x.w0 Hb) (St x.w0 H) hm hB st_good s.drew (h a e ⟨w, s.sub⟩)
theorem tf_fork (h1 : TP x S ops l1 ks E Hb H) (h2 : TP x S ops l2 ks E Hb H) : TFk x S ops [] l1 l2 ks E Hb H := fun a e hne => ⟨h1 a e hne, h2 a e hne⟩
theorem tf_q {o : Oper} (E' : Env) (hS : S.contains k = false) (hq : TO x.nx true ops [o] [.inv (fun a _ => E'.ok a)] E Hb) (h : TFk x S ops rest l1 l2 ks E' Hb H) : TFk x S ops ((k, o) :: rest) l1 l2 ks E Hb H := by
  intro a e hne
  have h1 := hq a e
  have ⟨w, hw⟩ := hne
  simp only [wpQM] at h1
  simp only [wpOrd, hS, Bool.false_eq_true, if_false]
  split
  · rename_i hwt
    simp only [hwt, if_true] at h1
    obtain ⟨v, h2, h3⟩ := h1
    exact ⟨v, h2, h _ (h3 w hw) hne⟩
  · rename_i hwt
    simp only [hwt] at h1
    exact h _ (h1 w hw) hne
theorem tfq_end {E : Env} {x : Cx} {ops : Array Oper} {H : List Seg} : TO x true ops [] [.inv (fun a _ => E.ok a)] E H := fun _ e _ _ => e
end

/-! ### Loops, unrolled -/
def UN (x : Cx) (ks : List KI) (c : Code) : Nat → Act → World → Prop
  | 0 => fun _ _ => False
  | k + 1 => fun a w => c.wpIn (WF x.r) 0 x.P (Qk x (.inv (UN x ks c k) :: ks)) a w
theorem t_unrollN {x : Cx} {ks : List KI} {c : Code} {E : Env} {H : List Seg} (N : Nat) (h : T x (.inv (UN x ks c N) :: ks) c E H) : T x ks (.loop c) E H := fun a w e s => by
  refine wpIn_loopI (UN x ks c) (fun i => i) (N + 1) (h a w e s) ?_
  intro i a w hi
  cases i with
  | zero => exact hi.elim
  | succ k =>
    refine wpIn_mono hi ?_
    intro e' a' w' hq
    cases e' with
    | normal => exact ⟨k, hq, Nat.lt_succ_self k⟩
    | _ => exact hq
theorem tn_unroll {x : Cx} {ks : List KI} {c : Code} {E : Env} {H : List Seg} {k : Nat} (h : T x (.inv (UN x ks c k) :: ks) c E H) : TX x .normal (.inv (UN x ks c (k + 1)) :: ks) E H := tn_inv (fun a w e s => h a w e s)
section
variable {x : Cx} {d : Bool} {ops : Array Oper} {rest : List Oper} {ks : List KI} {n : Nat} {m : List (Nat × Value)} {ds : List Deferred} {H : List Seg}
/-- What a temporary holds, in other words. -/
theorem to_fixv {s : Nat} {v v' : Value} (hv : lk m s = some v) (hb : v = v') (h : TO x d ops rest ks ⟨n, (s, v') :: m, ds⟩ H) : TO x d ops rest ks ⟨n, m, ds⟩ H := by
  subst hb
  have key : ∀ a, Env.ok ⟨n, m, ds⟩ a → Env.ok ⟨n, (s, v) :: m, ds⟩ a := by
    intro a e
    refine ⟨e.size, e.ds, fun t u hu => ?_⟩
    simp only [lk] at hu
    cases hb : Nat.beq s t with
    | true =>
      rw [hb] at hu; cases hu
      have e' : s = t := Nat.eq_of_beq_eq_true hb
      subst e'; exact e.get _ _ hv
    | false => rw [hb] at hu; exact e.get _ _ hu
  cases d with
  | false => exact fun a w e s => h a w (key a e) s
  | true => exact fun a e => h a (key a e)
end
end Go.Sx


namespace Go.Sx
open Go Go.RowKit
section
variable {x : Cx} {d : Bool} {ops : Array Oper} {rest : List Oper} {ks : List KI} {n : Nat} {m : List (Nat × Value)} {ds : List Deferred} {H H2 : List Seg}
variable {ty : TypeId} {pos : String} {aft : Array Edge} {dd : Nat}
theorem to_mkmmB {t : TypeId} (L : Int → Int → Value) (hd : Nat.blt dd n = true)
    (h : ∀ r, (∀ s ∈ H, s.hi ≤ r) → TO x false ops rest ks ⟨n, (dd, .map (some r)) :: m, ds⟩ (.own r (isMm L) :: H)) :
    TO x false ops (⟨some dd, .makeMap t none, ty, pos, aft, none⟩ :: rest) ks ⟨n, m, ds⟩ H :=
  to_step (fun _ h => by cases h) (fun a w e s => by
    refine ⟨.map (some w.heap.size), w.alloc (.map #[] 0), ?_, _, s.alloc (p := isMm L) ⟨#[], 0, rfl, (fun _ h => by cases h)⟩, h w.heap.size (fun q hq => s.le q hq)⟩
    simp only [execOp, Option.map_none, Instr.makeMap, Sem.run_bind, run_newObj, Result.andThen, run_ok]) hd
theorem St.snapMm {w0 w w1 : World} {H H2 : List Seg} {lo hi r : Nat} {L : Int → Int → Value} {o : Obj} (s : St w0 H w) [hp : Pick (.snap lo hi w1) H H2] (h1 : lo ≤ r) (h2 : r < hi) (ho : w1.heap[r]? = some o) (hm : isMm L o) : St w0 (.own r (isMm L) :: .snap lo r w1 :: H2) w := by
  have s2 := s.perm hp.perm
  have hle := s2.le _ (List.mem_cons_self ..)
  have hok := s2.ok _ (List.mem_cons_self ..)
  have hap := List.pairwise_cons.1 s2.apart
  simp only [Seg.hi] at hle
  refine ⟨s.os, s.tape, s.output, s.ge, ?_, ?_, ?_⟩
  · intro q hq
    simp only [List.mem_cons] at hq
    rcases hq with rfl | rfl | hq
    · exact Nat.le_trans h2 hle
    · exact Nat.le_trans (Nat.le_of_lt h2) hle
    · exact s2.le _ (List.mem_cons_of_mem _ hq)
  · intro q hq
    simp only [List.mem_cons] at hq
    rcases hq with rfl | rfl | hq
    · exact ⟨o, (hok r h1 h2).trans ho, hm⟩
    · exact fun k k1 k2 => hok k k1 (Nat.lt_trans k2 h2)
    · exact s2.ok _ (List.mem_cons_of_mem _ hq)
  · refine List.pairwise_cons.2 ⟨fun q hq => ?_, List.pairwise_cons.2 ⟨fun q hq => ?_, hap.2⟩⟩
    · rcases List.mem_cons.1 hq with rfl | hq
      · exact .inr (Nat.le_refl _)
      · rcases hap.1 q hq with h | h
        · exact .inl (Nat.le_trans h2 h)
        · exact .inr (Nat.le_trans h h1)
    · rcases hap.1 q hq with h | h
      · exact .inl (Nat.le_trans (Nat.le_of_lt h2) h)
      · exact .inr h
theorem to_snapMm {E : Env} {lo hi r : Nat} {L : Int → Int → Value} (w1 : World) [hp : Pick (.snap lo hi w1) H H2] (h1 : lo ≤ r) (h2 : r < hi) (ho : ∃ o, w1.heap[r]? = some o ∧ isMm L o) (h : TO x false ops rest ks E (.own r (isMm L) :: .snap lo r w1 :: H2)) : TO x false ops rest ks E H := fun a w e s =>
  let ⟨_, g1, g2⟩ := ho
  h a w e (s.snapMm h1 h2 g1 g2)
end
end Go.Sx


namespace Go.Sx
open Go Go.RowKit
/-! ### Maps of truths, known exactly; calls that hand a part of the segments over -/
def fdM (a b : Int) : List (Int × Int) → Option Nat
  | [] => none
  | p :: l => match decide (a = p.1) && decide (b = p.2) with
    | true => some 0
    | false => (fdM a b l).map (· + 1)
def insM (a b : Int) (ps : List (Int × Int)) : List (Int × Int) := match fdM a b ps with
  | some _ => ps
  | none => ps ++ [(a, b)]
def delM (a b : Int) (ps : List (Int × Int)) : List (Int × Int) := match fdM a b ps with
  | some j => ps.eraseIdx j
  | none => ps
def entM (p : Int × Int) : Value × Value := (pairV p.1 p.2, .bool true)
def isMb (ps : List (Int × Int)) (o : Obj) : Prop := ∃ es c, o = .map es c ∧ es.toList.map (fun e => (e.key, e.val)) = ps.map entM
theorem find_mb {P : Program} {kt : TypeId} [hk : KeyP P kt] {a b : Int} {w : World} : ∀ (es : List MapEntry) (ps : List (Int × Int)) (i : Nat), es.map (fun e => (e.key, e.val)) = ps.map entM →
    (Instr.findAsking kt (pairV a b) es i).run P w = .ok ((fdM a b ps).map fun j => (i + j, .bool true)) w
  | [], [], i, _ => by simp [Instr.findAsking, fdM]
  | [], p :: ps, i, h => by simp at h
  | e :: es, [], i, h => by simp at h
  | e :: es, p :: ps, i, h => by
    simp only [List.map_cons, List.cons.injEq] at h
    obtain ⟨h1, h2⟩ := h
    have hkey : e.key = pairV p.1 p.2 := congrArg Prod.fst h1
    have hval : e.val = .bool true := congrArg Prod.snd h1
    have heq := hk.eq a b p.1 p.2 w
    have ih := find_mb (P := P) (kt := kt) (a := a) (b := b) (w := w) es ps (i + 1) h2
    simp only [Instr.findAsking, Sem.run_bind, hkey, heq, Result.andThen]
    cases hc : decide (a = p.1) && decide (b = p.2) with
    | true => simp [fdM, hc, hval]
    | false =>
      simp only [Bool.false_eq_true, if_false, ih, fdM, hc, Option.map_map]
      congr 2
      funext j; simp only [Function.comp]; congr 1; omega
theorem fdM_lt {a b : Int} : ∀ {ps : List (Int × Int)} {j : Nat}, fdM a b ps = some j → j < ps.length ∧ ps[j]? = some (a, b)
  | [], j, h => by simp [fdM] at h
  | p :: ps, j, h => by
    simp only [fdM] at h
    split at h
    · rename_i hc
      cases h
      simp only [Bool.and_eq_true, decide_eq_true_eq] at hc
      refine ⟨by simp, ?_⟩
      obtain ⟨p1, p2⟩ := p
      simp only at hc
      rw [hc.1, hc.2]; rfl
    · cases hq : fdM a b ps with
      | none => rw [hq] at h; cases h
      | some k =>
        rw [hq] at h; cases h
        have := fdM_lt hq
        exact ⟨by simpa using this.1, by simpa using this.2⟩
class Mbl (w0 : World) (H : List Seg) (r : Nat) (ps : outParam (List (Int × Int))) : Prop where
  rd : ∀ w, St w0 H w → ∃ o, w.heap[r]? = some o ∧ isMb ps o
instance Mbl.own {w0 : World} {H H2 : List Seg} {r : Nat} {ps : List (Int × Int)} [ho : OwnAt r H (isMb ps) H2] : Mbl w0 H r ps := ⟨fun _ s => s.own_at (b := r)⟩
class MbB (w1 : outParam World) (lo hi : outParam Nat) (r : Nat) (ps : outParam (List (Int × Int))) : Prop where
  lo : lo ≤ r
  hi : r < hi
  here : ∃ o, w1.heap[r]? = some o ∧ isMb ps o
instance Mbl.mb {w0 w1 : World} {lo hi : Nat} {H : List Seg} {r : Nat} {ps : List (Int × Int)} [h : MbB w1 lo hi r ps] [hs : SnapAt w1 H lo hi] : Mbl w0 H r ps :=
  ⟨fun w s => by
    obtain ⟨o, h1, h2⟩ := h.here
    exact ⟨o, (s.ok _ hs.mem r h.lo h.hi).trans h1, h2⟩⟩
section
variable {x : Cx} {d : Bool} {ops : Array Oper} {rest : List Oper} {ks : List KI} {n : Nat} {m : List (Nat × Value)} {ds : List Deferred} {H H2 : List Seg}
variable {ty : TypeId} {pos : String} {aft : Array Edge} {dd : Nat}
theorem to_mkmb {t : TypeId} (hd : Nat.blt dd n = true)
    (h : ∀ r, TO x false ops rest ks ⟨n, (dd, .map (some r)) :: m, ds⟩ (.own r (isMb []) :: H)) :
    TO x false ops (⟨some dd, .makeMap t none, ty, pos, aft, none⟩ :: rest) ks ⟨n, m, ds⟩ H :=
  to_step (fun _ h => by cases h) (fun a w e s => by
    refine ⟨.map (some w.heap.size), w.alloc (.map #[] 0), ?_, _, s.alloc (p := isMb []) ⟨#[], 0, rfl, rfl⟩, h w.heap.size⟩
    simp only [execOp, Option.map_none, Instr.makeMap, Sem.run_bind, run_newObj, Result.andThen, run_ok]) hd
/-- 'm[k]', a truth -/
theorem to_lkmb {t kt et b1 b2 : TypeId} {zz : List ZV} {y i : Operand} {r : Nat} {a b : Int} {ps : List (Int × Int)} (hy : ev m y = some (.map (some r))) (hi : ev m i = some (pairV a b))
    [ho : Mbl x.w0 H r ps] [ht : Ty x.P t ⟨.map kt et, b1, b2, zz⟩] [hk : KeyP x.P kt] (hz : ∀ w, (zeroValue et).run x.P w = .ok (.bool false) w) (hd : Nat.blt dd n = true)
    (h : TO x d ops rest ks ⟨n, (dd, .bool (fdM a b ps).isSome) :: m, ds⟩ H) :
    TO x d ops (⟨some dd, .lookup t y i false, ty, pos, aft, none⟩ :: rest) ks ⟨n, m, ds⟩ H :=
  to_pure _ (fun _ h => by cases h) (fun a' w e s => by
    obtain ⟨o, k1, es, c, rfl, k3⟩ := ho.rd w s
    have hq := find_mb (P := x.P) (kt := kt) (a := a) (b := b) (w := w) es.toList ps 0 k3
    simp only [execOp]; rw [e.ev hy, e.ev hi]
    cases hf : fdM a b ps with
    | none =>
      rw [hf] at hq
      simp only [Option.map_none] at hq
      simp only [Instr.lookup, Sem.run_bind, run_underlying ht.map, Result.andThen, run_getObj k1, hk.chk, run_findKey_eq w hk.wide, hq, hz, run_ok, Bool.false_eq_true, if_false, Option.isSome_none]
    | some j =>
      rw [hf] at hq
      simp only [Option.map_some] at hq
      simp only [Instr.lookup, Sem.run_bind, run_underlying ht.map, Result.andThen, run_getObj k1, hk.chk, run_findKey_eq w hk.wide, hq, run_ok, Bool.false_eq_true, if_false, Option.isSome_some]) hd h
theorem ent_set {ps : List (Int × Int)} {es : List MapEntry} {j : Nat} {a b : Int} (h : es.map (fun e => (e.key, e.val)) = ps.map entM) (hj : ps[j]? = some (a, b)) : (es.modify j fun e => { e with key := pairV a b, val := .bool true }).map (fun e => (e.key, e.val)) = ps.map entM := by
  rw [← h]
  apply List.ext_getElem?
  intro k
  simp only [List.getElem?_map, List.getElem?_modify]
  have hk := congrArg (fun l => l[k]?) h
  simp only [List.getElem?_map] at hk
  cases he : es[k]? with
  | none => simp
  | some e =>
    rw [he] at hk
    by_cases hjk : j = k
    · subst hjk
      rw [hj] at hk
      simp only [Option.map_some, Option.some.injEq, entM] at hk
      simp [hk]
    · simp [hjk]
/-- 'm[k] = true' -/
theorem to_mupmb {t kt et b1 b2 : TypeId} {zz : List ZV} {y i z : Operand} {r : Nat} {a b : Int} {ps : List (Int × Int)} (hy : ev m y = some (.map (some r))) (hi : ev m i = some (pairV a b)) (hz : ev m z = some (.bool true))
    [ho : OwnAt r H (isMb ps) H2] [ht : Ty x.P t ⟨.map kt et, b1, b2, zz⟩] [hk : KeyP x.P kt]
    (h : TO x false ops rest ks ⟨n, m, ds⟩ (.own r (isMb (insM a b ps)) :: H2)) : TO x false ops (⟨none, .mapUpdate t y i z, ty, pos, aft, none⟩ :: rest) ks ⟨n, m, ds⟩ H :=
  to_step0 (fun _ h => by cases h) (fun a' w e s => by
    have s2 := s.perm ho.perm
    obtain ⟨o, h1, es, c, rfl, h3⟩ := s.own_at (b := r)
    have hq := find_mb (P := x.P) (kt := kt) (a := a) (b := b) (w := w) es.toList ps 0 h3
    have fin : ∀ es' c', es'.toList.map (fun e => (e.key, e.val)) = (insM a b ps).map entM → ∃ w', (setObj r (.map es' c')).run x.P w = .ok () w' ∧ ∃ H', St x.w0 H' w' ∧ TO x false ops rest ks ⟨n, m, ds⟩ H' := fun es' c' hes => by
      obtain ⟨w', r1, r2, r3, r4, r5, r6, r7⟩ := run_setObj (P := x.P) (o := .map es' c') h1
      exact ⟨w', r1, _, s2.upd r5 r6 r7 r3 (fun k hk => r4 k (by simp [Seg.lo, Seg.hi] at hk; omega)) (s' := .own r (isMb (insM a b ps))) rfl rfl ⟨_, r2, es', c', rfl, hes⟩, h⟩
    cases hf : fdM a b ps with
    | none =>
      rw [hf] at hq
      simp only [Option.map_none] at hq
      obtain ⟨w', hw, hr⟩ := fin (es.push { key := pairV a b, val := .bool true, born := c }) (c + 1) (by simp [insM, hf, h3, entM])
      refine ⟨w', ?_, hr⟩
      simp only [execOp]; rw [e.ev hy, e.ev hi, e.ev hz]
      simp only [Instr.mapUpdate, Sem.run_bind, run_underlying ht.map, Result.andThen, run_getObj h1, hk.chk, run_findKey_eq w hk.wide, hq, run_ok, hw]
    | some j =>
      rw [hf] at hq
      simp only [Option.map_some, Nat.zero_add] at hq
      obtain ⟨hlt, hat⟩ := fdM_lt hf
      have hkey : ((es[j]?).map (·.key)).getD (pairV a b) = pairV a b := by
        have hk2 := congrArg (fun l => l[j]?) h3
        simp only [List.getElem?_map, hat, Option.map_some, Array.getElem?_toList] at hk2
        cases he : es[j]? with
        | none => simp
        | some e2 =>
          rw [he] at hk2
          simp only [Option.map_some, Option.some.injEq, entM] at hk2
          simpa using congrArg Prod.fst hk2
      obtain ⟨w', hw, hr⟩ := fin (es.modify j fun e => { e with key := pairV a b, val := .bool true }) c (by
        rw [Array.toList_modify, ent_set h3 hat]; simp [insM, hf])
      refine ⟨w', ?_, hr⟩
      simp only [execOp]; rw [e.ev hy, e.ev hi, e.ev hz]
      simp only [Instr.mapUpdate, Sem.run_bind, run_underlying ht.map, Result.andThen, run_getObj h1, hk.chk, run_findKey_eq w hk.wide, hq, Instr.keyThatStays, hkey, same_pair, if_true, run_ok, hw])
theorem map_erIdx {α β : Type} (f : α → β) : ∀ (l : List α) (j : Nat), (l.eraseIdx j).map f = (l.map f).eraseIdx j
  | [], j => by simp
  | a :: l, 0 => by simp
  | a :: l, j + 1 => by simp [map_erIdx f l j]
theorem to_step0v {op : Op} (hdf : ∀ c, op ≠ .defer c)
    (h : ∀ a w, Env.ok ⟨n, m, ds⟩ a → St x.w0 H w → ∃ v w', (execOp a.eval ⟨none, op, ty, pos, aft, none⟩).run x.P w = .ok (.value v) w' ∧
      ∃ H', St x.w0 H' w' ∧ TO x false ops rest ks ⟨n, m, ds⟩ H') : TO x false ops (⟨none, op, ty, pos, aft, none⟩ :: rest) ks ⟨n, m, ds⟩ H := by
  intro a w e s
  obtain ⟨v, w', hr, H', s', hn⟩ := h a w e s
  refine wpListIn_plain rfl fun K hK => ?_
  refine ⟨fun _ _ => trivial, ?_⟩
  rw [Oper.semAt_eq _ _ _ hdf, hr]
  exact hK _ _ (hn _ _ e s')
/-- 'delete(m, k)' -/
theorem to_delmb {t kt et b1 b2 : TypeId} {zz : List ZV} {y i : Operand} {r : Nat} {a b : Int} {ps : List (Int × Int)} {tks : List TypeId} (hy : ev m y = some (.map (some r))) (hi : ev m i = some (pairV a b))
    [ho : OwnAt r H (isMb ps) H2] [ht : Ty x.P t ⟨.map kt et, b1, b2, zz⟩] [hk : KeyP x.P kt] 
    (h : TO x false ops rest ks ⟨n, m, ds⟩ (.own r (isMb (delM a b ps)) :: H2)) : TO x false ops (⟨none, .call ⟨.builtin .delete, #[y, i], (t :: tks).toArray⟩, ty, pos, aft, none⟩ :: rest) ks ⟨n, m, ds⟩ H :=
  to_step0v (fun _ h => by cases h) (fun a' w e s => by
    have s2 := s.perm ho.perm
    obtain ⟨o, h1, es, c, rfl, h3⟩ := s.own_at (b := r)
    have hq := find_mb (P := x.P) (kt := kt) (a := a) (b := b) (w := w) es.toList ps 0 h3
    have fin : ∀ es' c', es'.toList.map (fun e => (e.key, e.val)) = (delM a b ps).map entM → ∃ w', (setObj r (.map es' c')).run x.P w = .ok () w' ∧ ∃ H', St x.w0 H' w' ∧ TO x false ops rest ks ⟨n, m, ds⟩ H' := fun es' c' hes => by
      obtain ⟨w', r1, r2, r3, r4, r5, r6, r7⟩ := run_setObj (P := x.P) (o := .map es' c') h1
      exact ⟨w', r1, _, s2.upd r5 r6 r7 r3 (fun k hk => r4 k (by simp [Seg.lo, Seg.hi] at hk; omega)) (s' := .own r (isMb (delM a b ps))) rfl rfl ⟨_, r2, es', c', rfl, hes⟩, h⟩
    have hhead : ∀ (v : Value) (w' : World), (Builtin.delete_ (t :: tks).toArray ty #[.map (some r), pairV a b]).run x.P w = .ok v w' →
        (execOp a'.eval ⟨none, .call ⟨.builtin .delete, #[y, i], (t :: tks).toArray⟩, ty, pos, aft, none⟩).run x.P w = .ok (.value v) w' := by
      intro v w' hv
      simp only [execOp, resolve, List.map_toArray, List.map_cons, List.map_nil, e.ev hy, e.ev hi, Sem.run_bind, run_ok, Result.andThen, invoke, builtin]
      rw [hv]
    cases hf : fdM a b ps with
    | none =>
      rw [hf] at hq
      simp only [Option.map_none] at hq
      obtain ⟨w', hw, hr⟩ := fin es c (by simp [delM, hf, h3])
      refine ⟨.tuple #[], w', hhead (.tuple #[]) w' ?_, hr⟩
      simp only [Builtin.delete_, List.getElem?_toArray, List.getElem?_cons_zero, List.getElem?_cons_succ, Sem.run_bind, run_underlying ht.map, Result.andThen, run_getObj h1, hk.chk, run_findKey_eq w hk.wide, hq, run_ok, hw]
    | some j =>
      rw [hf] at hq
      simp only [Option.map_some, Nat.zero_add] at hq
      obtain ⟨hlt, hat⟩ := fdM_lt hf
      obtain ⟨w', hw, hr⟩ := fin (es.eraseIdxIfInBounds j) c (by
        rw [Array.toList_eraseIdxIfInBounds, map_erIdx, h3, ← map_erIdx]; simp [delM, hf])
      refine ⟨.tuple #[], w', hhead (.tuple #[]) w' ?_, hr⟩
      simp only [Builtin.delete_, List.getElem?_toArray, List.getElem?_cons_zero, List.getElem?_cons_succ, Sem.run_bind, run_underlying ht.map, Result.andThen, run_getObj h1, hk.chk, run_findKey_eq w hk.wide, hq, run_ok, hw])
theorem to_nc {y : Operand} {a : Addr} (hy : ev m y = some (.pointer (some a))) (hd : Nat.blt dd n = true) (h : TO x d ops rest ks ⟨n, (dd, .pointer (some a)) :: m, ds⟩ H) :
    TO x d ops (⟨some dd, .nilCheck y, ty, pos, aft, none⟩ :: rest) ks ⟨n, m, ds⟩ H :=
  to_pure _ (fun _ h => by cases h) (fun a' w e s => by simp only [execOp]; rw [e.ev hy]; rfl) hd h
/-- What stands among the segments, and the rest. -/
class SplitH (A H : List Seg) (R : outParam (List Seg)) : Prop where
  perm : H.Perm (A ++ R)
instance SplitH.nil (H : List Seg) : SplitH [] H H := ⟨by simp⟩
instance SplitH.cons (s : Seg) (A H H2 R : List Seg) [hp : Pick s H H2] [h : SplitH A H2 R] : SplitH (s :: A) H R := ⟨hp.perm.trans (h.perm.cons s)⟩
/-- What a call gives that is handed some segments and hands others back. -/
def FrR {β : Type} (v : Value) (Sb : β → List Seg) (R : List Seg) (w : World) : Ending → World → Prop := fun e w' => e = .returned v ∧ Ext w w' ∧ ∃ b, StL (Sb b ++ R) w'
theorem to_callL {β : Type} {f : Nat} {g : Operand} {l : List Operand} {ts : Array TypeId} {f0 c0 av : List Value} {R : List Seg} {v : Value} (A : List Seg) (Sb : β → List Seg) (hg : ev m g = some (.func (.func f) f0.toArray c0.toArray)) [FnOk x.P f] (hl : evs m l = some av)
    [hr : SplitH A H R] (hc : ∀ R w, StL (A ++ R) w → Calls x.P f (f0 ++ (av ++ c0)).toArray w (FrR v Sb R w)) (hd : Nat.blt dd n = true)
    (ht : ∀ b, TO x false ops rest ks ⟨n, (dd, v) :: m, ds⟩ (Sb b ++ R)) :
    TO x false ops (⟨some dd, .call ⟨.value g, l.toArray, ts⟩, ty, pos, aft, none⟩ :: rest) ks ⟨n, m, ds⟩ H := by
  intro a w e s
  refine wpListIn_plain rfl fun K hK => ?_
  refine ⟨fun _ _ => trivial, ?_⟩
  rw [Oper.semAt_eq _ _ _ (fun _ h => by cases h), exec_call (e.ev hg) (e.evs hl)]
  refine ⟨(fun h => by cases h), callsIn_WF ((hc R w (s.stL.perm hr.perm)).mono ?_)⟩
  rintro _ w' ⟨rfl, he, b, hb⟩
  exact hK _ _ (ht b _ _ (e.put hd v) (hb.st (s.ext.trans he)))
end
theorem frR_of {β : Type} {v : Value} {Sb : β → List Seg} {R H : List Seg} {w w' : World} (b : β) (s : St w H w') [h : SubH (Sb b ++ R) H] : FrR v Sb R w (.returned v) w' := ⟨rfl, s.ext, b, s.sub.stL⟩
theorem frR_of2 {β : Type} {v : Value} {Sb : β → List Seg} {R H : List Seg} {w w' : World} (b : β) (s : St w H w') (S' : List Seg) (hS : Sb b = S') [h : SubH (S' ++ R) H] : FrR v Sb R w (.returned v) w' := ⟨rfl, s.ext, b, by rw [hS]; exact s.sub.stL⟩
end Go.Sx


namespace Go.Sx
open Go Go.RowKit
/-! ### Drawn regions in every order, with what quiet operations read known until all have read -/
section mixed
variable {P : Program} {ops : Array Oper} {md : Region.Mode} {S : List Nat}
def gOp (P : Program) (ops : Array Oper) (S : List Nat) (Cq Cf D : World → Prop) (i : Nat) (K : (World → Prop) → Act → Prop) (a : Act) : Prop :=
  match ops[i]? with
  | none => K D a
  | some o => if Region.wanted o (yielded ops a.tmps) then
      if S.contains i then ∀ w, D w → o.wpIn (WF none) 0 P a w (fun a' w' => a'.defers = a.defers ∧ ∃ D', Fine ops Cf i D' ∧ D' w' ∧ K D' a') QF
      else ∃ v, quietM P Cq o a v ∧ K D (a.put o.dst v)
    else K D (a.put o.dst undef)
theorem gOp_mono {Cq Cf D : World → Prop} {i : Nat} {a : Act} {K K' : (World → Prop) → Act → Prop} (h : ∀ D a, K D a → K' D a) (hh : gOp P ops S Cq Cf D i K a) : gOp P ops S Cq Cf D i K' a := by
  unfold gOp at *
  split
  · exact h _ _ (by simpa [*] using hh)
  · rename_i o ho
    simp only [ho] at hh
    split
    · rename_i hw
      simp only [hw, if_true] at hh
      split
      · rename_i hs
        simp only [hs, if_true] at hh
        intro w hD
        refine ⟨(hh w hD).1, upon_mono (fun a' w' h' => ?_) (hh w hD).2⟩
        obtain ⟨h1, D', h2, h3, h4⟩ := h'
        exact ⟨h1, D', h2, h3, h _ _ h4⟩
      · rename_i hs
        simp only [hs] at hh
        obtain ⟨v, h1, h2⟩ := hh
        exact ⟨v, h1, h _ _ h2⟩
    · rename_i hw; simp only [hw] at hh; exact h _ _ hh
def gAny (P : Program) (md : Region.Mode) (ops : Array Oper) (S : List Nat) (C : Bool → World → Prop) (c : Nat) (Q : (World → Prop) → Act → Prop) : Nat → Array Bool → (World → Prop) → Act → Prop
  | 0, listed, D, a => Region.ready md ops listed = [] ∧ Q D a
  | fuel + 1, listed, D, a =>
    (Region.ready md ops listed = [] → Q D a) ∧
    ∀ i ∈ Region.ready md ops listed, gOp P ops S (C (listed.getD c false)) (C ((listed.setIfInBounds i true).getD c false)) D i (fun D' a' => gAny P md ops S C c Q fuel (listed.setIfInBounds i true) D' a') a
theorem Good.weak {C C' D : World → Prop} (h : Good C D) (hc : ∀ w, C w → C' w) : Good C' D := ⟨h.below, fun w hw => hc w (h.sub w hw)⟩
theorem getD_set_true (listed : Array Bool) (i c : Nat) (h : listed.getD c false = true) : (listed.setIfInBounds i true).getD c false = true := by
  by_cases hic : i = c
  · subst hic
    have hlt : i < listed.size := by
      rcases Nat.lt_or_ge i listed.size with h' | h'
      · exact h'
      · simp [Array.getElem?_eq_none h'] at h
    simp [hlt]
  · rw [getD_set_ne false hic]; exact h
theorem getD_grow {C : Bool → World → Prop} {c : Nat} (hC0 : ∀ w, C false w → C true w) (listed : Array Bool) (i : Nat) : ∀ w, C (listed.getD c false) w → C ((listed.setIfInBounds i true).getD c false) w := by
  intro w h
  cases hb : listed.getD c false with
  | true => rw [getD_set_true listed i c hb]; rw [hb] at h; exact h
  | false =>
    rw [hb] at h
    cases hb2 : (listed.setIfInBounds i true).getD c false with
    | true => exact hC0 w h
    | false => exact h
theorem wpAnyIn_of_g (hnd : ∀ (j : Nat) (o : Oper) c, ops[j]? = some o → o.op ≠ .defer c) {C : Bool → World → Prop} {c : Nat} (hC0 : ∀ w, C false w → C true w) {Q : (World → Prop) → Act → Prop} {Q' : Exit → Act → World → Prop} (hQ : ∀ D a w, Q D a → D w → Q' .normal a w) :
    ∀ (fuel : Nat) (listed : Array Bool) (D : World → Prop) (a : Act) (w : World), (Good (C (listed.getD c false)) D ∨ Region.ready .any ops listed = []) → D w → gAny P .any ops S C c Q fuel listed D a → wpAnyIn (WF none) 0 P .any ops Q' fuel listed a w
  | 0, _, _, _, _, _, hw, h => ⟨h.1, hQ _ _ _ h.2 hw⟩
  | fuel + 1, listed, D, _, w, hg, hw, h => by
    refine ⟨fun h0 => hQ _ _ _ (h.1 h0) hw, fun i hi => ?_⟩
    have hg : Good (C (listed.getD c false)) D := by
      rcases hg with hg | hg
      · exact hg
      · rw [hg] at hi; cases hi
    have hg' : Good (C ((listed.setIfInBounds i true).getD c false)) D := hg.weak (getD_grow hC0 listed i)
    have h2 := h.2 i hi
    unfold gOp at h2
    unfold wpOpIn
    split
    · rename_i ho; simp only [ho] at h2; exact wpAnyIn_of_g hnd hC0 hQ fuel _ _ _ _ (.inl hg') hw h2
    · rename_i o ho
      simp only [ho] at h2
      split
      · rename_i hwt
        simp only [hwt, if_true] at h2
        split at h2
        · refine ⟨(h2 w hw).1, upon_mono (fun a' w' h' => ?_) (h2 w hw).2⟩
          obtain ⟨_, D', h4, h5, h6⟩ := h'
          rcases h4 with ⟨hl, hn⟩ | h4
          · exact wpAnyIn_of_g hnd hC0 hQ fuel _ _ _ _ (.inr (last_done hl hn hi)) h5 h6
          · exact wpAnyIn_of_g hnd hC0 hQ fuel _ _ _ _ (.inl h4) h5 h6
        · obtain ⟨v, h3, h4⟩ := h2
          have h5 := h3 w (hg.sub w hw)
          refine ⟨fun _ _ => trivial, ?_⟩
          rw [Oper.semAt_eq _ _ _ (fun c => hnd i o c ho)]
          generalize (execOp _ _).run P w = r at *
          cases r with
          | halt x w' => exact h5.elim
          | ok x w' =>
            cases x <;> simp only at h5 <;> simp only [Oper.uponIn]
            case value u => rw [h5.1, h5.2]; exact wpAnyIn_of_g hnd hC0 hQ fuel _ _ _ _ (.inl hg') hw h4
            case skip => rw [h5.1, ← h5.2]; exact wpAnyIn_of_g hnd hC0 hQ fuel _ _ _ _ (.inl hg') hw h4
            case enter f args =>
              rw [h5.1]
              refine ⟨(fun h => by cases h), callsIn_WF (h5.2.mono ?_)⟩
              rintro _ w'' ⟨rfl, hb⟩
              exact wpAnyIn_of_g hnd hC0 hQ fuel _ _ _ _ (.inl hg') (hg.below _ _ hw hb) h4
      · rename_i hwt
        simp only [hwt] at h2
        exact ⟨fun _ _ => trivial, wpAnyIn_of_g hnd hC0 hQ fuel _ _ _ _ (.inl hg') hw h2⟩
theorem YieldsM.gop {Cy Cq Cf D : World → Prop} {i : Nat} {o : Oper} {v : Value} {a : Act} (hc : ∀ w, Cq w → Cy w) (hi : ops[i]? = some o) (hS : S.contains i = false) (hy : YieldsM P ops Cy o v a) {K : (World → Prop) → Act → Prop} (h : K D (a.put o.dst v)) : gOp P ops S Cq Cf D i K a := by
  unfold gOp
  simp only [hi]
  rcases hy with ⟨hw, hv⟩ | ⟨hw, rfl⟩
  · simp only [hw, if_true, hS]; exact ⟨v, fun w hw => hv w (hc w hw), h⟩
  · simp only [hw, Bool.false_eq_true, if_false]; exact h
theorem gOp_put (hnd : ∀ (j : Nat) (o : Oper) c, ops[j]? = some o → o.op ≠ .defer c) {Cy Cq Cf D : World → Prop} {j : Nat} {oi oj : Oper} {v : Value} (hj : ops[j]? = some oj) (hap : oi.apart ops oj = true)
    (hsi : ∀ cs b, oi.op ≠ .select cs b) (hsj : ∀ cs b, oj.op ≠ .select cs b) {K : (World → Prop) → Act → Prop} {a : Act}
    (hy : YieldsM P ops Cy oi v a) (h : gOp P ops S Cq Cf D j K (a.put oi.dst v)) :
    gOp P ops S Cq Cf D j (fun D' a' => YieldsM P ops Cy oi v a' ∧ K D' (a'.put oi.dst v)) a := by
  have hndj : ∀ c, oj.op ≠ .defer c := fun c => hnd j oj c hj
  obtain ⟨h1, h2, h3⟩ := Oper.apart_spec hap
  have keep : ∀ (a : Act), YieldsM P ops Cy oi v a → ∀ u, YieldsM P ops Cy oi v (a.put oj.dst u) := fun a hy u =>
    hy.of_same (execOp_put oi hsi a oj.dst u h3) (wanted_put oi a oj.dst u h3)
  unfold gOp at *
  simp only [hj] at *
  rw [wanted_put oj a oi.dst v h1] at h
  split
  · rename_i hw
    simp only [hw, if_true] at h
    split
    · rename_i hs
      simp only [hs, if_true] at h
      intro w hD
      have h4 := (h w hD).2
      refine ⟨fun _ _ => trivial, ?_⟩
      rw [Oper.semAt_eq _ _ _ hndj] at h4 ⊢
      rw [execOp_put oj hsj a oi.dst v h1] at h4
      have hdef : ∀ (dd : Option Tmp) (u : Value) (a : Act), (a.put dd u).defers = a.defers := fun dd u a => by cases dd <;> rfl
      refine upon_put (fun u w' h' => ?_) (fun x w' h' => ?_) h4
      · obtain ⟨e1, D', e2, e3, e4⟩ := h'
        exact ⟨by rw [hdef], D', e2, e3, keep a hy u, by rw [← Act.put_comm a v u h2]; exact e4⟩
      · have := h'.1
        rw [hdef] at this
        have := congrArg List.length this
        simp at this
    · rename_i hs
      simp only [hs] at h
      obtain ⟨u, hu, hn⟩ := h
      refine ⟨u, fun w hw' => ?_, keep a hy u, by rw [← Act.put_comm a v u h2]; exact hn⟩
      have := hu w hw'
      rwa [execOp_put oj hsj a oi.dst v h1] at this
  · rename_i hw
    simp only [hw] at h
    exact ⟨keep a hy _, by rw [← Act.put_comm a v undef h2]; exact h⟩
/-- While i is to come, none of Dl can. -/
def dlB (md : Region.Mode) (ops : Array Oper) (i : Nat) (Dl : List Nat) : Bool := Dl.all fun d => match ops[d]? with
  | some od => od.after.any fun e => Region.binds md e && (e.on == i || Dl.contains e.on)
  | none => false
def pend (listed : Array Bool) (Dl : List Nat) : Bool := Dl.all fun d => listed.getD d true == false
theorem pend_set {listed : Array Bool} {i j : Nat} {Dl : List Nat} (hB : dlB md ops i Dl = true) (hp : pend listed Dl = true) (hi : listed.getD i true = false) (hj : j ∈ Region.ready md ops listed) : pend (listed.setIfInBounds j true) Dl = true := by
  simp only [pend, List.all_eq_true, beq_iff_eq] at *
  intro d hd
  by_cases hjd : j = d
  · subst hjd
    obtain ⟨h1, oj, hoj, hall⟩ := mem_ready.1 hj
    have hb := (List.all_eq_true.1 hB) j hd
    rw [hoj] at hb
    obtain ⟨e, he, hb2⟩ := Array.any_eq_true'.1 hb
    simp only [Bool.and_eq_true, Bool.or_eq_true, beq_iff_eq] at hb2
    have h2 := hall e he hb2.1
    rcases hb2.2 with h3 | h3
    · rw [h3] at h2
      rcases Nat.lt_or_ge i listed.size with h' | h'
      · simp [h'] at hi h2; rw [hi] at h2; cases h2
      · simp [Array.getElem?_eq_none h'] at hi
    · have h4 := hp e.on (by simpa using h3)
      rcases Nat.lt_or_ge e.on listed.size with h' | h'
      · simp [h'] at h4 h2; rw [h4] at h2; cases h2
      · simp [Array.getElem?_eq_none h'] at h4
  · rw [getD_set_ne true hjd]; exact hp d hd
theorem pend_c {listed : Array Bool} {c : Nat} {Dl : List Nat} (hp : pend listed Dl = true) (hc : c ∈ Dl) : listed.getD c false = false := by
  have := (List.all_eq_true.1 hp) c hc
  simp only [beq_iff_eq] at this
  rcases Nat.lt_or_ge c listed.size with h' | h'
  · simp [h'] at this ⊢; exact this
  · simp [Array.getElem?_eq_none h'] at this
theorem gAny_first (hnd : ∀ (j : Nat) (o : Oper) c, ops[j]? = some o → o.op ≠ .defer c) {C : Bool → World → Prop} {c : Nat} {Cy : World → Prop} {Q : (World → Prop) → Act → Prop} {i : Nat} {oi : Oper} {v : Value} (Dl : List Nat) (hDl : dlB md ops i Dl = true) (hCy : (∀ b w, C b w → Cy w) ∨ (c ∈ Dl ∧ ∀ w, C false w → Cy w)) (hic : i ≠ c) (hi : ops[i]? = some oi) (hS : S.contains i = false) (hsel : ∀ (j : Nat) (o : Oper) cs b, ops[j]? = some o → o.op ≠ .select cs b) :
    ∀ (fuel : Nat) (listed : Array Bool) (D : World → Prop) (a : Act), pend listed Dl = true →
      (∀ j oj, ops[j]? = some oj → j ≠ i → listed.getD j true = false → (∀ e ∈ oj.after, Region.binds md e = true → e.on ≠ i) → oi.apart ops oj = true) →
      i ∈ Region.ready md ops listed → YieldsM P ops Cy oi v a →
      gAny P md ops S C c Q fuel (listed.setIfInBounds i true) D (a.put oi.dst v) → gAny P md ops S C c Q (fuel + 1) listed D a := by
  have hsub : ∀ listed : Array Bool, pend listed Dl = true → ∀ w, C (listed.getD c false) w → Cy w := by
    intro listed hp w hw
    rcases hCy with h | ⟨h1, h2⟩
    · exact h _ w hw
    · rw [pend_c hp h1] at hw; exact h2 w hw
  intro fuel
  induction fuel with
  | zero =>
    intro listed D a hp _ hr hy H
    refine ⟨fun h => (by rw [h] at hr; cases hr), fun j hj => ?_⟩
    by_cases hji : j = i
    · subst hji; exact hy.gop (hsub listed hp) hi hS H
    · have := ready_mono hj hji
      rw [H.1] at this
      cases this
  | succ fuel ih =>
    intro listed D a hp hfree hr hy H
    refine ⟨fun h => (by rw [h] at hr; cases hr), fun j hj => ?_⟩
    by_cases hji : j = i
    · subst hji; exact hy.gop (hsub listed hp) hi hS H
    · have h1 := H.2 j (ready_mono hj hji)
      obtain ⟨hjun, oj, hoj, hall⟩ := mem_ready.1 hj
      have hnot : ∀ e ∈ oj.after, Region.binds md e = true → e.on ≠ i := fun e he hb heq => by
        have h1 := hall e he hb
        have h0 := (mem_ready.1 hr).1
        rw [heq] at h1
        rcases Nat.lt_or_ge i listed.size with h' | h'
        · simp [h'] at h0 h1; rw [h0] at h1; cases h1
        · simp [Array.getElem?_eq_none h'] at h1
      have h2 := gOp_put hnd hoj (hfree j oj hoj hji hjun hnot) (fun cs b => hsel i oi cs b hi) (fun cs b => hsel j oj cs b hoj) hy h1
      rw [getD_set_ne false hic, Array.setIfInBounds_comm _ _ (Ne.symm hji), getD_set_ne false hic] at h2
      have hfree' : ∀ k ok, ops[k]? = some ok → k ≠ i → (listed.setIfInBounds j true).getD k true = false →
          (∀ e ∈ ok.after, Region.binds md e = true → e.on ≠ i) → oi.apart ops ok = true := fun k ok hk hki hun hno => by
        refine hfree k ok hk hki ?_ hno
        by_cases hjk : j = k
        · subst hjk; exact hjun
        · rw [getD_set_ne true hjk] at hun; exact hun
      refine gOp_mono (fun D' a' h3 => ih (listed.setIfInBounds j true) D' a' (pend_set hDl hp (mem_ready.1 hr).1 hj) hfree' (ready_mono hr (Ne.symm hji)) h3.1 h3.2) h2
end mixed
end Go.Sx


namespace Go.Sx
open Go Go.RowKit
/-! ### The judgement for a drawn region in every order: Hb1 holds until operation c is done, Hb2 from then on -/
def Cc (x : Cx) (Hb1 Hb2 : List Seg) : Bool → World → Prop
  | false => St x.w0 Hb1
  | true => St x.w0 Hb2
def TA (x : Cx) (S : List Nat) (c : Nat) (Hb1 Hb2 : List Seg) (ops : Array Oper) (n : Nat) (listed : Array Bool) (ks : List KI) (E : Env) (H : List Seg) : Prop :=
  ∀ a, E.ok a → (∃ w, St x.w0 H w) → gAny x.P .any ops S (Cc x Hb1 Hb2) c (fun D a' => ∀ w', D w' → Qk x ks .normal a' w') n listed (St x.w0 H) a
def MA (x : Cx) (S : List Nat) (c : Nat) (Hb1 Hb2 : List Seg) (ops : Array Oper) (k n : Nat) (listed : Array Bool) (ks : List KI) (ds : List Deferred) (a : Act) (w : World) : Prop :=
  a.defers = ds ∧ ∃ D', Fine ops (Cc x Hb1 Hb2 (listed.getD c false)) k D' ∧ D' w ∧ gAny x.P .any ops S (Cc x Hb1 Hb2) c (fun D a' => ∀ w', D w' → Qk x ks .normal a' w') n listed D' a
section
variable {x : Cx} {S : List Nat} {c : Nat} {Hb1 Hb2 : List Seg} {ops : Array Oper} {n : Nat} {listed : Array Bool} {ks : List KI} {E : Env} {H : List Seg}
theorem t_regA {id : Nat} {l : List Oper} (S : List Nat) (c : Nat) (Hb1 Hb2 : List Seg) (N : Nat) (hN : l.toArray.size = N) (hr : x.r = none) (hm : x.P.follows .mixedOrders = true) (hB : (Region.noSelect l.toArray && noDefer l.toArray) = true) (hc0 : (Array.replicate N false).getD c false = false) [h12 : SubH Hb2 Hb1] [SubH Hb1 H]
    (h : TA x S c Hb1 Hb2 l.toArray N (Array.replicate N false) ks E H) : T x ks (.region id l.toArray true) E H := by
  intro a w e s
  rw [hr]
  simp only [Bool.and_eq_true] at hB
  refine wpIn_region_any hm (wpAnyIn_of_g (S := S) (c := c) (C := Cc x Hb1 Hb2) (noDefer_spec hB.2) (fun w hw => ?_) (Q := fun D a' => ∀ w', D w' → Qk x ks .normal a' w') (fun D a w h hw => h w hw) _ _ (St x.w0 H) _ _ (.inl ?_) s.drew ?_)
  · exact St.sub (h := hw)
  · rw [hN, hc0]; exact ⟨fun _ _ hd hb => hd.below hb, fun w hw => St.sub (h := hw)⟩
  · rw [hN]; exact h a e ⟨w, s⟩
theorem ta_nil (hB : (Region.ready .any ops listed).isEmpty = true) (h : TX x .normal ks E H) : TA x S c Hb1 Hb2 ops n listed ks E H := fun a e _ => by
  have hB' : Region.ready .any ops listed = [] := by simpa using hB
  cases n with
  | zero => exact ⟨hB', fun w' hw => h a w' e hw⟩
  | succ n => exact ⟨fun _ w' hw => h a w' e hw, fun i hi => by rw [hB'] at hi; cases hi⟩
def qB (S : List Nat) (ops : Array Oper) (listed : Array Bool) (k c : Nat) (Dl : List Nat) : Bool :=
  Region.noSelect ops && noDefer ops && !S.contains k && (Region.ready .any ops listed).contains k && Region.free .any ops listed k && (k != c) && dlB .any ops k Dl && pend listed Dl
theorem ta_qq {o : Oper} {E' : Env} {Hb : List Seg} {k : Nat} (Dl : List Nat) (hB : qB S ops listed k c Dl = true) (ho : nthO ops.toList k = some o) (hC : (∀ b w, Cc x Hb1 Hb2 b w → St x.w0 Hb w) ∨ (c ∈ Dl ∧ ∀ w, Cc x Hb1 Hb2 false w → St x.w0 Hb w)) [SubH Hb H]
    (hq : TO x.nx true ops [o] [.inv (fun a _ => E'.ok a)] E Hb) (h : TA x S c Hb1 Hb2 ops n (listed.setIfInBounds k true) ks E' H) : TA x S c Hb1 Hb2 ops (n + 1) listed ks E H := by
  intro a e hne
  simp only [qB, Bool.and_eq_true] at hB
  obtain ⟨⟨⟨⟨⟨⟨⟨hB1, hB2⟩, hB3⟩, hB4⟩, hB5⟩, hB6⟩, hB7⟩, hB8⟩ := hB
  have ho' : ops[k]? = some o := by rw [nthO_eq] at ho; simpa using ho
  have hS : S.contains k = false := by simpa using hB3
  have h1 := hq a e
  have hne2 := hne
  obtain ⟨w, hw⟩ := hne
  have hwb : St x.w0 Hb w := hw.sub
  simp only [wpQM] at h1
  by_cases hwt : Region.wanted o (yielded ops a.tmps) = true
  · simp only [hwt, if_true] at h1
    obtain ⟨v, h2, h3⟩ := h1
    exact gAny_first (noDefer_spec hB2) (Cy := St x.w0 Hb) Dl hB7 hC (by simpa using hB6) ho' hS (Region.noSelect_spec hB1) n listed _ a hB8 (Region.free_spec ho' hB5) (by simpa using hB4) (.inl ⟨hwt, h2⟩) (h _ (h3 w hwb) hne2)
  · simp only [hwt] at h1
    exact gAny_first (noDefer_spec hB2) (Cy := St x.w0 Hb) Dl hB7 hC (by simpa using hB6) ho' hS (Region.noSelect_spec hB1) n listed _ a hB8 (Region.free_spec ho' hB5) (by simpa using hB4) (.inr ⟨by simpa using hwt, rfl⟩) (h _ (h1 w hwb) hne2)
/-- A quiet operation that reads; Dl: what comes between it and c, with c. -/
theorem ta_q1 {o : Oper} (E' : Env) {k : Nat} (Dl : List Nat) (hB : qB S ops listed k c Dl = true) (hc : Dl.contains c = true) (ho : nthO ops.toList k = some o) [SubH Hb1 H]
    (hq : TO x.nx true ops [o] [.inv (fun a _ => E'.ok a)] E Hb1) (h : TA x S c Hb1 Hb2 ops n (listed.setIfInBounds k true) ks E' H) : TA x S c Hb1 Hb2 ops (n + 1) listed ks E H :=
  ta_qq Dl hB ho (.inr ⟨by simpa using hc, fun _ h => h⟩) hq h
/-- A quiet operation that needs little. -/
theorem ta_q2 {o : Oper} (E' : Env) {k : Nat} (hB : qB S ops listed k c [] = true) (ho : nthO ops.toList k = some o) [h12 : SubH Hb2 Hb1] [SubH Hb2 H]
    (hq : TO x.nx true ops [o] [.inv (fun a _ => E'.ok a)] E Hb2) (h : TA x S c Hb1 Hb2 ops n (listed.setIfInBounds k true) ks E' H) : TA x S c Hb1 Hb2 ops (n + 1) listed ks E H :=
  ta_qq [] hB ho (.inl fun b w hw => by cases b with | false => exact St.sub (h := hw) | true => exact hw) hq h
theorem wanted_none {ops : Array Oper} {o : Oper} {E : Env} (hg : o.guard = none) : ∀ a, E.ok a → Region.wanted o (yielded ops a.tmps) = true := fun a _ => by unfold Region.wanted; rw [hg]
theorem wanted_t {ops : Array Oper} {op : Op} {ty : TypeId} {pos : String} {aft : Array Edge} {dst : Option Nat} {j : Nat} {want : Bool} {s : Nat} {E : Env} (hs : (ops[j]?).bind (·.dst) = some s) (hv : lk E.m s = some (.bool want)) : ∀ a, E.ok a → Region.wanted ⟨dst, op, ty, pos, aft, some (j, want)⟩ (yielded ops a.tmps) = true := fun a e => by
  simp [Region.wanted, yielded, hs, e.get _ _ hv]
def AllK : List Nat → (Nat → Prop) → Prop
  | [], _ => True
  | k :: l, p => p k ∧ AllK l p
theorem AllK.get {p : Nat → Prop} : ∀ {l : List Nat}, AllK l p → ∀ k ∈ l, p k
  | [], _, k, hk => by cases hk
  | j :: l, h, k, hk => by
    rcases List.mem_cons.1 hk with rfl | hk
    · exact h.1
    · exact AllK.get h.2 k hk
def SK (x : Cx) (S : List Nat) (c : Nat) (Hb1 Hb2 : List Seg) (ops : Array Oper) (n : Nat) (listed : Array Bool) (ks : List KI) (E : Env) (H : List Seg) (k : Nat) : Prop :=
  ∃ o, nthO ops.toList k = some o ∧ (∀ a, E.ok a → Region.wanted o (yielded ops a.tmps) = true) ∧ TO x.nx false ops [o] [.inv (MA x S c Hb1 Hb2 ops k n (listed.setIfInBounds k true) ks E.ds)] E H
theorem ta_fork (L : List Nat) (hB : (Region.ready .any ops listed == L && L.all fun k => S.contains k) = true) (hne : L.isEmpty = false) (h : AllK L (SK x S c Hb1 Hb2 ops n listed ks E H)) : TA x S c Hb1 Hb2 ops (n + 1) listed ks E H := by
  intro a e _
  simp only [Bool.and_eq_true, beq_iff_eq] at hB
  refine ⟨fun h0 => ?_, fun k hk => ?_⟩
  · rw [hB.1] at h0; rw [h0] at hne; cases hne
  · rw [hB.1] at hk
    obtain ⟨o, ho, hg, hs⟩ := h.get k hk
    have ho' : ops[k]? = some o := by rw [nthO_eq] at ho; simpa using ho
    have hS : S.contains k = true := (List.all_eq_true.1 hB.2) k hk
    have hw : Region.wanted o (yielded ops a.tmps) = true := hg a e
    unfold gOp
    simp only [ho', hw, if_true, hS]
    intro w s
    have h1 := hs a w e s
    simp only [wpListIn, hw, if_true] at h1
    refine ⟨fun _ _ => trivial, ?_⟩
    have h2 := h1.2
    generalize hMA : MA x S c Hb1 Hb2 ops k n (listed.setIfInBounds k true) ks E.ds = J at h2
    have hQ : Qk x.nx [.inv J] = Exit.then J QF := rfl
    rw [hQ] at h2
    have hL : LetsOut (Exit.then J QF) → LetsOut QF := fun ⟨_, _, h⟩ => ⟨a, w, h⟩
    have h2' : o.uponIn (WF none) 0 x.P a J (Exit.then J QF) ((o.semAt none a.eval).run x.P w) := h2
    have h3 : o.uponIn (WF none) 0 x.P a J QF ((o.semAt none a.eval).run x.P w) := by
      generalize (o.semAt none a.eval).run x.P w = r at h2'
      unfold Oper.uponIn at *
      split <;> simp only at h2'
      · exact h2'
      · exact h2'
      · exact h2'
      · exact ⟨h2'.1, h2'.2.mono fun e w' he => by
          cases e with
          | returned v => exact he
          | panicked c => exact he
          | outgrown => exact hL he⟩
      · exact h2'
      · exact ⟨h2'.1, h2'.2.mono fun e w' he => by
          cases e with
          | returned v => exact he
          | panicked c => exact he
          | outgrown => exact hL he⟩
      · exact h2'
    refine upon_mono (fun a' w' h' => ?_) h3
    subst hMA
    obtain ⟨h4, D', h5, h6, h7⟩ := h'
    exact ⟨h4.trans e.ds.symm, D', h5, h6, h7⟩
theorem ta_se1 {ds : List Deferred} {k : Nat} [h12 : SubH Hb2 Hb1] [SubH Hb1 H] (hds : E.ds = ds) (h : TA x S c Hb1 Hb2 ops n listed ks E H) : TO x.nx false ops [] [.inv (MA x S c Hb1 Hb2 ops k n listed ks ds)] E H := fun a w e s => by
  refine ⟨e.ds.trans hds, St x.w0 H, .inr ⟨fun _ _ h hb => h.below hb, fun w hw => ?_⟩, s, h a e ⟨w, s⟩⟩
  have h1 : St x.w0 Hb1 w := St.sub (h := hw)
  cases listed.getD c false with
  | false => exact h1
  | true => exact St.sub (h := h1)
theorem ta_se2 {ds : List Deferred} {k : Nat} [SubH Hb2 H] (hcut : listed.getD c false = true) (hds : E.ds = ds) (h : TA x S c Hb1 Hb2 ops n listed ks E H) : TO x.nx false ops [] [.inv (MA x S c Hb1 Hb2 ops k n listed ks ds)] E H := fun a w e s => by
  refine ⟨e.ds.trans hds, St x.w0 H, .inr ⟨fun _ _ h hb => h.below hb, fun w hw => ?_⟩, s, h a e ⟨w, s⟩⟩
  rw [hcut]; exact St.sub (h := hw)
end
class AppN (A R : List Seg) (H : outParam (List Seg)) : Prop where
  eq : A ++ R = H
instance AppN.nil (R : List Seg) : AppN [] R R := ⟨rfl⟩
instance AppN.cons (s : Seg) (A R H : List Seg) [h : AppN A R H] : AppN (s :: A) R (s :: H) := ⟨by rw [List.cons_append, h.eq]⟩
theorem to_nrm {x : Cx} {d : Bool} {ops : Array Oper} {rest : List Oper} {ks : List KI} {E : Env} {A R H : List Seg} [h : AppN A R H] (k : TO x d ops rest ks E H) : TO x d ops rest ks E (A ++ R) := by rw [h.eq]; exact k
theorem frR_of3 {β : Type} {v : Value} {Sb : β → List Seg} {R H : List Seg} {w w' : World} (b : β) (s : St w H w') (S' : List Seg) (hS : Sb b ++ R = S') [h : SubH S' H] : FrR v Sb R w (.returned v) w' := ⟨rfl, s.ext, b, by rw [hS]; exact s.sub.stL⟩
end Go.Sx


namespace Go.Sx
open Go Go.RowKit
/-! ### Slices held against nil; calls that are handed segments, with an end that is not looked into -/
theorem run_eqSF {P : Program} {t e b1 b2 : TypeId} {zz : List ZV} (ht : Ty P t ⟨.slice e, b1, b2, zz⟩) (a : Addr) (l c : Nat) (w : World) : (Op.equal t (.slice (some a) l c) (.slice none 0 0)).run P w = .ok false w := by
  have key : ∀ k, (Op.equalIn (k + 1) t (.slice (some a) l c) (.slice none 0 0)).run P w = .ok false w := fun k => by
    simp only [Op.equalIn, Sem.run_bind, run_underlying ht.slice, Result.andThen, run_ok]
  exact key 9999
class SplitT (A T H : List Seg) (R : outParam (List Seg)) : Prop where
  perm : H.Perm (A ++ (T ++ R))
instance SplitT.nil (T H R : List Seg) [h : TailR T H R] : SplitT [] T H R := ⟨h.perm⟩
instance SplitT.cons (s : Seg) (A T H H2 R : List Seg) [hp : Pick s H H2] [h : SplitT A T H2 R] : SplitT (s :: A) T H R := ⟨hp.perm.trans (h.perm.cons s)⟩
class App3 (A R T : List Seg) (H : outParam (List Seg)) : Prop where
  eq : A ++ (R ++ T) = H
instance App3.nil (T : List Seg) : App3 [] [] T T := ⟨rfl⟩
instance App3.rest (s : Seg) (R T H : List Seg) [h : App3 [] R T H] : App3 [] (s :: R) T (s :: H) := ⟨by have := h.eq; simp only [List.nil_append] at this; simp [this]⟩
instance App3.cons (s : Seg) (A R T H : List Seg) [h : App3 A R T H] : App3 (s :: A) R T (s :: H) := ⟨by rw [List.cons_append, h.eq]⟩
section
variable {x : Cx} {d : Bool} {ops : Array Oper} {rest : List Oper} {ks : List KI} {n : Nat} {m : List (Nat × Value)} {ds : List Deferred} {H H2 : List Seg}
variable {ty : TypeId} {pos : String} {aft : Array Edge} {dd : Nat}
theorem to_eqSF {t t2 e b1 b2 : TypeId} {zz : List ZV} {y z : Operand} {a : Addr} {l c : Nat} (hy : ev m y = some (.slice (some a) l c)) (hz : ev m z = some (.slice none 0 0)) [ht : Ty x.P t ⟨.slice e, b1, b2, zz⟩]
    (hd : Nat.blt dd n = true) (hh : TO x d ops rest ks ⟨n, (dd, .bool false) :: m, ds⟩ H) : TO x d ops (⟨some dd, .binOp .eql t y z t2, ty, pos, aft, none⟩ :: rest) ks ⟨n, m, ds⟩ H :=
  to_bin hy hz (fun w => by
    have e : (eqGuard .eql t y z (.slice (some a) l c) (.slice none 0 0)).run x.P w = .ok () w := rfl
    simp only [Sem.run_bind, e, Result.andThen, binOp, run_eqSF ht a l c, run_ok]) hd hh
theorem to_nrm3 {E : Env} {A R T H : List Seg} [h : App3 A R T H] (k : TO x d ops rest ks E H) : TO x d ops rest ks E (A ++ (R ++ T)) := by rw [h.eq]; exact k
theorem to_callT {β : Type} {f : Nat} {g : Operand} {l : List Operand} {ts : Array TypeId} {f0 c0 av : List Value} {R : List Seg} {v : Value} (A T Sb : List Seg) (T' : β → List Seg) (hg : ev m g = some (.func (.func f) f0.toArray c0.toArray)) [FnOk x.P f] (hl : evs m l = some av)
    [hr : SplitT A T H R] (hc : ∀ w, StL (A ++ (T ++ R)) w → Calls x.P f (f0 ++ (av ++ c0)).toArray w (fun e w' => e = .returned v ∧ Ext w w' ∧ ∃ b, StL (Sb ++ (T' b ++ R)) w')) (hd : Nat.blt dd n = true)
    (ht : ∀ b, TO x false ops rest ks ⟨n, (dd, v) :: m, ds⟩ (Sb ++ (R ++ T' b))) :
    TO x false ops (⟨some dd, .call ⟨.value g, l.toArray, ts⟩, ty, pos, aft, none⟩ :: rest) ks ⟨n, m, ds⟩ H := by
  intro a w e s
  refine wpListIn_plain rfl fun K hK => ?_
  refine ⟨fun _ _ => trivial, ?_⟩
  rw [Oper.semAt_eq _ _ _ (fun _ h => by cases h), exec_call (e.ev hg) (e.evs hl)]
  refine ⟨(fun h => by cases h), callsIn_WF ((hc w (s.stL.perm hr.perm)).mono ?_)⟩
  rintro _ w' ⟨rfl, he, b, hb⟩
  exact hK _ _ (ht b _ _ (e.put hd v) ((hb.perm (List.Perm.append_left _ List.perm_append_comm)).st (s.ext.trans he)))
theorem to_callYT {β : Type} {y : Nat} {g : Operand} {l : List Operand} {ts : Array TypeId} {av : List Value} {R : List Seg} (A T : List Seg) (T' : β → List Seg) (hg : ev m g = some (.func (.yield y) #[] #[])) (hl : evs m l = some av) (hx : x.r = none)
    [hr : SplitT A T H R] (hc : ∀ w, StL (A ++ (T ++ R)) w → YC x.P y av.toArray w (fun e w' => e = .returned (.bool true) ∧ Ext w w' ∧ ∃ b, StL (T' b ++ R) w')) (hd : Nat.blt dd n = true)
    (ht : ∀ b, TO x false ops rest ks ⟨n, (dd, .bool true) :: m, ds⟩ (R ++ T' b)) :
    TO x false ops (⟨some dd, .call ⟨.value g, l.toArray, ts⟩, ty, pos, aft, none⟩ :: rest) ks ⟨n, m, ds⟩ H := by
  intro a w e s
  refine wpListIn_plain rfl fun K hK => ?_
  refine ⟨fun _ _ => trivial, ?_⟩
  rw [Oper.semAt_eq _ _ _ (fun _ h => by cases h), exec_yield (e.ev hg) (e.evs hl)]
  obtain ⟨f, tmps, asg, body, h3, h4⟩ := hc w (s.stL.perm hr.perm)
  rw [h3]
  refine ⟨(fun h => by cases h), ?_⟩
  rw [hx]
  refine h4.mono ?_
  rintro en w' ⟨rfl, he, b, hb⟩
  exact hK _ _ (ht b _ _ (e.put hd _) ((hb.perm List.perm_append_comm).st (s.ext.trans he)))
/-- A call that is handed segments, and whose result is made of what it hands back. -/
theorem to_callB {β : Type} {f : Nat} {g : Operand} {l : List Operand} {ts : Array TypeId} {f0 c0 av : List Value} {R : List Seg} (A : List Seg) (v : β → Value) (Sb : β → List Seg) (hg : ev m g = some (.func (.func f) f0.toArray c0.toArray)) [FnOk x.P f] (hl : evs m l = some av)
    [hr : SplitH A H R] (hc : ∀ R w, StL (A ++ R) w → Calls x.P f (f0 ++ (av ++ c0)).toArray w (fun e w' => ∃ b, e = .returned (v b) ∧ Ext w w' ∧ StL (Sb b ++ R) w')) (hd : Nat.blt dd n = true)
    (ht : ∀ b, TO x false ops rest ks ⟨n, (dd, v b) :: m, ds⟩ (Sb b ++ R)) :
    TO x false ops (⟨some dd, .call ⟨.value g, l.toArray, ts⟩, ty, pos, aft, none⟩ :: rest) ks ⟨n, m, ds⟩ H := by
  intro a w e s
  refine wpListIn_plain rfl fun K hK => ?_
  refine ⟨fun _ _ => trivial, ?_⟩
  rw [Oper.semAt_eq _ _ _ (fun _ h => by cases h), exec_call (e.ev hg) (e.evs hl)]
  refine ⟨(fun h => by cases h), callsIn_WF ((hc R w (s.stL.perm hr.perm)).mono ?_)⟩
  rintro _ w' ⟨b, rfl, he, hb⟩
  exact hK _ _ (ht b _ _ (e.put hd _) (hb.st (s.ext.trans he)))
end
theorem rowOk_ge {w0 w w1 : World} {H : List Seg} {a : Option Addr} {n cap t sz lo hi : Nat} {xs : List (List Value)} (s : St w0 H w) (hm : .row a n cap t sz xs ∈ H) (h0 : .snap lo hi w1 ∈ H) (hlo : lo = 0) : Ro w hi w.heap.size a n cap sz xs := by
  subst hlo
  obtain ⟨p, q, rfl⟩ := List.append_of_mem hm
  have s2 := s.perm (List.perm_middle (a := Seg.row a n cap t sz xs) (l₁ := p) (l₂ := q))
  have h0' : .snap 0 hi w1 ∈ p ++ q := by
    simp only [List.mem_append, List.mem_cons] at h0 ⊢
    rcases h0 with h | h | h
    · exact .inl h
    · cases h
    · exact .inr h
  have hap := (List.pairwise_cons.1 s2.apart).1 _ h0'
  have hok := s2.ok _ (List.mem_cons_self ..)
  have hle := s2.le _ (List.mem_cons_self ..)
  have hro : Ro w 0 w.heap.size a n cap sz xs := RowOk.ro hok
  refine ⟨hro.len, hro.each, hro.le, ?_⟩
  rcases hro.here with h | ⟨ad, h1, h2, h3, h4, h5⟩
  · exact .inl h
  · refine .inr ⟨ad, h1, h2, ?_, h4, h5⟩
    subst h1
    simp only [Seg.apart, Seg.lo, Seg.hi] at hap
    rcases hap with h | h <;> omega
end Go.Sx

