/- The program's types and the first functions' contracts. No condition. -/
import Derived.Test.YtebellbkmioadaaGreatDoorOwnB
import Derived.Maps.RangeRun
import Derived.RangeFuncLeaves
import Derived.Test.YtebellbkmioadaaGreatDoorProg
set_option linter.unusedVariables false
set_option linter.unusedSimpArgs false

namespace Go.Sx
open Go Go.RowKit
open Go.ChangeMaps (setBlock)

/-! ## Maps from ints to pairs of ints, looked up with a word, written, and ranged over -/

abbrev Sp := Int × Int
/-- An entry: its key, its pair, its stamp. -/
abbrev En := Int × Sp × Nat
abbrev spV (v : Sp) : Value := .agg [.int .i64 v.1, .int .i64 v.2].toArray
def mkE (e : En) : MapEntry := { key := .int .i64 e.1, val := spV e.2.1, born := e.2.2 }
def lget : List En → Int → Option Sp
  | [], _ => none
  | e :: l, k => if k = e.1 then some e.2.1 else lget l k
structure OkN (l : List En) (c : Nat) (G : Int → Option Sp) : Prop where
  keys : (l.map (·.1)).Nodup
  borns : (l.map (·.2.2)).Nodup
  lt : ∀ e ∈ l, e.2.2 < c
  get : ∀ k, lget l k = G k
def isNE (l : List En) (c : Nat) (o : Obj) : Prop := o = .map (l.map mkE).toArray c
def isN (G : Int → Option Sp) (o : Obj) : Prop := ∃ l c, isNE l c o ∧ OkN l c G
def updO (G : Int → Option Sp) (k : Int) (v : Sp) : Int → Option Sp := fun j => if j = k then some v else G j

theorem lget_mem : ∀ {l : List En}, (l.map (·.1)).Nodup → ∀ e ∈ l, lget l e.1 = some e.2.1
  | [], _, e, h => by cases h
  | x :: l, hn, e, h => by
    have hn' := List.nodup_cons.1 (show (x.1 :: l.map (·.1)).Nodup from hn)
    rcases List.mem_cons.1 h with rfl | h
    · simp [lget]
    · have hne : e.1 ≠ x.1 := fun hh => hn'.1 (by rw [← hh]; exact List.mem_map.2 ⟨e, h, rfl⟩)
      simp only [lget, if_neg hne]
      exact lget_mem hn'.2 e h
theorem lget_some : ∀ {l : List En} {k : Int} {v : Sp}, lget l k = some v → ∃ e ∈ l, e.1 = k ∧ e.2.1 = v
  | [], k, v, h => by cases h
  | x :: l, k, v, h => by
    simp only [lget] at h
    by_cases hk : k = x.1
    · rw [if_pos hk] at h; cases h
      exact ⟨x, List.mem_cons_self .., hk.symm, rfl⟩
    · rw [if_neg hk] at h
      obtain ⟨e, h1, h2⟩ := lget_some h
      exact ⟨e, List.mem_cons_of_mem _ h1, h2⟩
theorem lget_none : ∀ {l : List En} {k : Int}, lget l k = none → ∀ e ∈ l, e.1 ≠ k
  | [], k, _, e, h => by cases h
  | x :: l, k, hg, e, h => by
    simp only [lget] at hg
    by_cases hk : k = x.1
    · rw [if_pos hk] at hg; cases hg
    · rw [if_neg hk] at hg
      rcases List.mem_cons.1 h with rfl | h
      · exact fun hh => hk hh.symm
      · exact lget_none hg e h

theorem findNow_N {kk : IntKind} : ∀ {l : List En} (k : Int) (i : Nat),
    ∃ r, Instr.findNow (.int kk) (.int .i64 k) (l.map mkE) i = some r ∧ (match r with
      | none => lget l k = none
      | some (j, v) => ∃ p e q, l = p ++ e :: q ∧ j = i + p.length ∧ e.1 = k ∧ v = spV e.2.1 ∧ lget l k = some e.2.1)
  | [], k, i => ⟨none, rfl, rfl⟩
  | e :: l, k, i => by
    by_cases hk : k = e.1
    · refine ⟨some (i, spV e.2.1), ?_, [], e, l, rfl, rfl, hk.symm, rfl, ?_⟩
      · simp [Instr.findNow, Instr.sameNow, mkE, hk]
      · simp [lget, hk]
    · obtain ⟨r, h1, h2⟩ := findNow_N (kk := kk) (l := l) k (i + 1)
      have hb : ((k == e.1) : Bool) = false := by simpa using hk
      refine ⟨r, ?_, ?_⟩
      · simp only [List.map_cons, Instr.findNow, Instr.sameNow, mkE, if_true, hb]
        exact h1
      · match r, h2 with
        | none, h2 => simp only [lget, if_neg hk]; exact h2
        | some (j, v), ⟨p, e1, q, h3, h4, h5, h6, h7⟩ =>
          exact ⟨e :: p, e1, q, by rw [h3]; rfl, by rw [h4, List.length_cons]; omega, h5, h6, by simp only [lget, if_neg hk]; exact h7⟩

theorem lget_app {k : Int} : ∀ {p q : List En}, (∀ e ∈ p, e.1 ≠ k) → lget (p ++ q) k = lget q k
  | [], _, _ => rfl
  | e :: p, q, h => by
    have hne : k ≠ e.1 := fun hh => h e (List.mem_cons_self ..) hh.symm
    simp only [List.cons_append, lget, if_neg hne]
    exact lget_app (fun e he => h e (List.mem_cons_of_mem _ he))

theorem lget_end {k q : Int} {v : Sp} {c : Nat} (h : ¬ k = q) : ∀ {l : List En}, lget (l ++ [(q, v, c)]) k = lget l k
  | [] => by simp [lget, h]
  | e :: l => by simp only [List.cons_append, lget, lget_end h (l := l)]
theorem lget_mid {k q : Int} {v : Sp} {c : Nat} {e1 : En} {l : List En} (h : ¬ k = q) (h1 : ¬ k = e1.1) : ∀ {p : List En}, lget (p ++ (q, v, c) :: l) k = lget (p ++ e1 :: l) k
  | [] => by simp [lget, h, h1]
  | e :: p => by simp only [List.cons_append, lget, lget_mid h h1 (p := p)]

/-- A map that can be read, its entries known. -/
class NM (w0 : World) (H : List Seg) (r : Nat) (l : outParam (List En)) (c : outParam Nat) : Prop where
  here : ∀ w, St w0 H w → w.heap[r]? = some (.map (l.map mkE).toArray c)
instance NM.own {w0 : World} {H H2 : List Seg} {r : Nat} {l : List En} {c : Nat} [ho : OwnAt r H (isNE l c) H2] : NM w0 H r l c := ⟨fun w s => by
  obtain ⟨o, h1, h2⟩ := s.own_at (b := r)
  rw [h1, h2]⟩
/-- In the world w1 the block r is such a map; it lies from lo to below hi. -/
class NB (w1 : outParam World) (lo hi : outParam Nat) (r : Nat) (l : outParam (List En)) (c : outParam Nat) : Prop where
  lo : lo ≤ r
  hi : r < hi
  here : w1.heap[r]? = some (.map (l.map mkE).toArray c)
instance NM.snap {w0 w1 : World} {lo hi : Nat} {H : List Seg} {r : Nat} {l : List En} {c : Nat} [h : NB w1 lo hi r l c] [hs : SnapAt w1 H lo hi] : NM w0 H r l c :=
  ⟨fun w s => (s.ok _ hs.mem r h.lo h.hi).trans h.here⟩
theorem NB.mono {w1 w2 : World} {lo hi lo2 hi2 r : Nat} {l : List En} {c : Nat} (h : NB w1 lo hi r l c) (h1 : lo2 ≤ lo) (h2 : hi ≤ hi2) (hs : ∀ k, lo ≤ k → k < hi → w2.heap[k]? = w1.heap[k]?) : NB w2 lo2 hi2 r l c :=
  ⟨Nat.le_trans h1 h.lo, Nat.lt_of_lt_of_le h.hi h2, (hs r h.lo h.hi).trans h.here⟩

theorem nb_of {w0 w : World} {H : List Seg} {r : Nat} {l : List En} {c : Nat} (s : St w0 H w) [h : NM w0 H r l c] : NB w 0 w.heap.size r l c :=
  ⟨Nat.zero_le _, (Array.getElem?_eq_some_iff.1 (h.here w s)).1, h.here w s⟩

/-- A map of the call's own, handed back. -/
theorem nb_own {w w' : World} {H H2 : List Seg} {r : Nat} {G : Int → Option Sp} (s : St w H w') [h : OwnAt r H (isN G) H2] [h0 : SnapAt w H2 0 w.heap.size] : ∃ l c, NB w' w.heap.size w'.heap.size r l c ∧ OkN l c G := by
  have s2 := s.perm h.perm
  obtain ⟨o, h1, l, c, h2, h3⟩ := s.own_at (b := r)
  refine ⟨l, c, ⟨?_, (Array.getElem?_eq_some_iff.1 h1).1, by rw [h1, h2]⟩, h3⟩
  have := (List.pairwise_cons.1 s2.apart).1 _ h0.mem
  rcases this with h3 | h3
  · simp [Seg.hi, Seg.lo] at h3
  · simpa [Seg.hi, Seg.lo] using h3

theorem St.seg {w0 w : World} {s s' : Seg} {H : List Seg} (h : St w0 (s :: H) w) (hlo : s'.lo = s.lo) (hhi : s'.hi = s.hi) (hok : s'.ok w) : St w0 (s' :: H) w :=
  h.upd rfl rfl rfl rfl (fun _ _ => rfl) hlo hhi hok

/-- The entries of a map of one's own, named; and forgotten. -/
theorem t_openN {x : Cx} {ks : List KI} {c : Code} {E : Env} {H H2 : List Seg} (r : Nat) {G : Int → Option Sp} [ho : OwnAt r H (isN G) H2] (h : ∀ l cl, OkN l cl G → T x ks c E (.own r (isNE l cl) :: H2)) : T x ks c E H := fun a w e s => by
  obtain ⟨o, h1, l, cl, h2, h3⟩ := s.own_at (b := r)
  exact h l cl h3 a w e ((s.perm ho.perm).seg rfl rfl ⟨o, h1, h2⟩)
theorem tx_openN {x : Cx} {ks : List KI} {c : Exit} {E : Env} {H H2 : List Seg} (r : Nat) {G : Int → Option Sp} [ho : OwnAt r H (isN G) H2] (h : ∀ l cl, OkN l cl G → TX x c ks E (.own r (isNE l cl) :: H2)) : TX x c ks E H := fun a w e s => by
  obtain ⟨o, h1, l, cl, h2, h3⟩ := s.own_at (b := r)
  exact h l cl h3 a w e ((s.perm ho.perm).seg rfl rfl ⟨o, h1, h2⟩)
theorem t_closeN {x : Cx} {ks : List KI} {c : Code} {E : Env} {H H2 : List Seg} (r : Nat) {l : List En} {cl : Nat} {G : Int → Option Sp} [ho : OwnAt r H (isNE l cl) H2] (hok : OkN l cl G) (h : T x ks c E (.own r (isN G) :: H2)) : T x ks c E H := fun a w e s => by
  obtain ⟨o, h1, h2⟩ := s.own_at (b := r)
  exact h a w e ((s.perm ho.perm).seg rfl rfl ⟨o, h1, l, cl, h2, hok⟩)
theorem tx_closeN {x : Cx} {ks : List KI} {c : Exit} {E : Env} {H H2 : List Seg} (r : Nat) {l : List En} {cl : Nat} {G : Int → Option Sp} [ho : OwnAt r H (isNE l cl) H2] (hok : OkN l cl G) (h : TX x c ks E (.own r (isN G) :: H2)) : TX x c ks E H := fun a w e s => by
  obtain ⟨o, h1, h2⟩ := s.own_at (b := r)
  exact h a w e ((s.perm ho.perm).seg rfl rfl ⟨o, h1, l, cl, h2, hok⟩)

/-- The iterator: what is left of the entries, in order; the one met last. -/
def isIN (r : Nat) (l : List En) (c : Nat) (left : List En) (cur : Option En) (o : Obj) : Prop :=
  ∃ seen : Array Nat, o = .mapIter (some r) c seen c ∧ (leftOf (l.map mkE).toArray seen).toList = left.map mkE ∧ seen.back? = cur.map (·.2.2)

theorem left_all (l : List En) : (leftOf (l.map mkE).toArray #[]).toList = l.map mkE := by simp [leftOf]
def dropE (left : List En) (e : En) : List En := left.filter fun x => x.2.2 != e.2.2
theorem left_push {l left : List En} {seen : Array Nat} (h : (leftOf (l.map mkE).toArray seen).toList = left.map mkE) (e : En) :
    (leftOf (l.map mkE).toArray (seen.push e.2.2)).toList = (dropE left e).map mkE := by
  have h1 : (leftOf (l.map mkE).toArray (seen.push e.2.2)).toList = (leftOf (l.map mkE).toArray seen).toList.filter (fun x => x.born != e.2.2) := by
    simp only [leftOf, Array.toList_filter, List.filter_filter]
    congr 1
    funext x
    rw [Array.contains_push]
    cases hb : seen.contains x.born <;> simp [hb, bne]
  rw [h1, h, List.filter_map]
  rfl
theorem drop_sub {left : List En} {e x : En} (h : x ∈ dropE left e) : x ∈ left := (List.mem_filter.1 h).1
theorem drop_len {left : List En} {e : En} (h : e ∈ left) : (dropE left e).length < left.length := List.length_filter_lt_length_iff_exists.2 ⟨e, h, by simp⟩
theorem nodup_inj {α : Type} {f : En → α} : ∀ {l : List En}, (l.map f).Nodup → ∀ a ∈ l, ∀ b ∈ l, f a = f b → a = b
  | [], _, a, h, _, _, _ => by cases h
  | x :: l, hn, a, ha, b, hb, hf => by
    have hn' := List.nodup_cons.1 (show (f x :: l.map f).Nodup from hn)
    rcases List.mem_cons.1 ha with rfl | ha1 <;> rcases List.mem_cons.1 hb with rfl | hb1
    · rfl
    · exact absurd (List.mem_map.2 ⟨b, hb1, hf.symm⟩) hn'.1
    · exact absurd (List.mem_map.2 ⟨a, ha1, hf⟩) hn'.1
    · exact nodup_inj hn'.2 a ha1 b hb1 hf
/-- Is a key left? -/
def keyIn (left : List En) (k : Int) : Bool := left.any fun e => e.1 == k
theorem keyIn_drop {l left : List En} {c : Nat} {G : Int → Option Sp} (ok : OkN l c G) (hs : ∀ x ∈ left, x ∈ l) {e : En} (he : e ∈ left) (k : Int) : keyIn (dropE left e) k = (keyIn left k && k != e.1) := by
  rw [Bool.eq_iff_iff]
  simp only [keyIn, List.any_eq_true, Bool.and_eq_true, beq_iff_eq, bne_iff_ne, ne_eq, dropE, List.mem_filter]
  constructor
  · rintro ⟨x, ⟨h1, h2⟩, rfl⟩
    refine ⟨⟨x, h1, rfl⟩, fun hh => h2 ?_⟩
    rw [nodup_inj ok.keys x (hs x h1) e (hs e he) hh]
  · rintro ⟨⟨x, h1, rfl⟩, h2⟩
    exact ⟨x, ⟨h1, fun hh => h2 (by rw [nodup_inj ok.borns x (hs x h1) e (hs e he) hh])⟩, rfl⟩
theorem keyIn_all {l : List En} {c : Nat} {G : Int → Option Sp} (ok : OkN l c G) (k : Int) : keyIn l k = (G k).isSome := by
  rw [← ok.get, Bool.eq_iff_iff]
  constructor
  · intro h
    obtain ⟨e, h1, h2⟩ := List.any_eq_true.1 h
    have h3 : e.1 = k := by simpa using h2
    rw [← h3, lget_mem ok.keys e h1]; rfl
  · intro h
    obtain ⟨v, hv⟩ := Option.isSome_iff_exists.1 h
    obtain ⟨e, h1, h2, _⟩ := lget_some hv
    exact List.any_eq_true.2 ⟨e, h1, by simpa using h2⟩
theorem okN_mem {l : List En} {c : Nat} {G : Int → Option Sp} (ok : OkN l c G) {e : En} (he : e ∈ l) : G e.1 = some e.2.1 := by rw [← ok.get]; exact lget_mem ok.keys e he

section
variable {x : Cx} {d : Bool} {ops : Array Oper} {rest : List Oper} {ks : List KI} {n : Nat} {m : List (Nat × Value)} {ds : List Deferred} {H H2 : List Seg}
variable {ty : TypeId} {pos : String} {aft : Array Edge} {dd : Nat}

theorem to_mkN {t : TypeId} (hd : Nat.blt dd n = true)
    (h : ∀ r, TO x false ops rest ks ⟨n, (dd, .map (some r)) :: m, ds⟩ (.own r (isN fun _ => none) :: H)) :
    TO x false ops (⟨some dd, .makeMap t none, ty, pos, aft, none⟩ :: rest) ks ⟨n, m, ds⟩ H :=
  to_step (fun _ h => by cases h) (fun a w e s => by
    refine ⟨.map (some w.heap.size), w.alloc (.map #[] 0), ?_, _, s.alloc (p := isN fun _ => none) ⟨[], 0, rfl, List.nodup_nil, List.nodup_nil, (fun _ h => by cases h), fun _ => rfl⟩, h w.heap.size⟩
    simp only [execOp, Option.map_none, Instr.makeMap, Sem.run_bind, run_newObj, Result.andThen, run_ok]) hd

/-- 'v, is := m[k]' -/
theorem to_lkN {t kt et b1 b2 b3 b4 : TypeId} {zz zk : List ZV} {fs : List (Nat × TypeId)} {y i : Operand} {r : Nat} {q : Int} {G : Int → Option Sp} (hy : ev m y = some (.map (some r))) (hi : ev m i = some (.int .i64 q))
    [ho : OwnAt r H (isN G) H2] [ht : Ty x.P t ⟨.map kt et, b1, b2, zz⟩] [hk : Ty x.P kt ⟨.int .i64, 1, b3, zk⟩] [he : Ty x.P et ⟨.struct fs, 2, b4, [.int .i64, .int .i64]⟩] (hd : Nat.blt dd n = true)
    (h : TO x d ops rest ks ⟨n, (dd, .tuple [spV ((G q).getD (0, 0)), .bool (G q).isSome].toArray) :: m, ds⟩ H) : TO x d ops (⟨some dd, .lookup t y i true, ty, pos, aft, none⟩ :: rest) ks ⟨n, m, ds⟩ H :=
  to_pure _ (fun _ h => by cases h) (fun a w e s => by
    obtain ⟨o, h1, l, c, h2, hok⟩ := s.own_at (b := r)
    simp only [isNE] at h2; subst h2
    obtain ⟨r', h5, h6⟩ := findNow_N (kk := .i64) (l := l) q 0
    obtain ⟨v, g1, g2, g3⟩ := run_zeroValue (P := x.P) (w := w) (t := et) (vs := [.int .i64 0, .int .i64 0])
    have hv : v = spV (0, 0) := by
      cases v with
      | agg cs => exact congrArg Value.agg (show cs = _ from g2)
      | _ => simp [zeroShape, TK.agg] at g3
    subst hv
    simp only [execOp]; rw [e.ev hy, e.ev hi]
    simp only [Instr.lookup, Sem.run_bind, run_underlying ht.map, Result.andThen, run_getObj h1, run_checkKey, Instr.findKey, run_underlying hk.int, h5, run_ok]
    match r', h6 with
    | none, h6 =>
      have h6' : G q = none := (hok.get q).symm.trans h6
      simp only [Sem.run_bind, g1, Result.andThen, run_ok, h6']; rfl
    | some (j, u), ⟨_, e1, _, _, _, _, h8, h9⟩ =>
      have h6' : G q = some e1.2.1 := (hok.get q).symm.trans h9
      subst h8
      simp only [run_ok, Result.andThen, h6']; rfl) hd h

theorem to_mupN {t kt et b1 b2 b3 : TypeId} {zz zk : List ZV} {y i z : Operand} {r : Nat} {q : Int} {v1 v2 : Int} {G : Int → Option Sp} (hy : ev m y = some (.map (some r))) (hi : ev m i = some (.int .i64 q)) (hz : ev m z = some (spV (v1, v2)))
    [ho : OwnAt r H (isN G) H2] [ht : Ty x.P t ⟨.map kt et, b1, b2, zz⟩] [hk : Ty x.P kt ⟨.int .i64, 1, b3, zk⟩]
    (h : TO x false ops rest ks ⟨n, m, ds⟩ (.own r (isN (updO G q (v1, v2))) :: H2)) : TO x false ops (⟨none, .mapUpdate t y i z, ty, pos, aft, none⟩ :: rest) ks ⟨n, m, ds⟩ H :=
  to_step0 (fun _ h => by cases h) (fun a w e s => by
    have s2 := s.perm ho.perm
    obtain ⟨o, h1, l, c, h2, hok⟩ := s.own_at (b := r)
    simp only [isNE] at h2; subst h2
    obtain ⟨r', h5, h6⟩ := findNow_N (kk := .i64) (l := l) q 0
    have fin : ∀ l' c', OkN l' c' (updO G q (v1, v2)) → ∃ w', (setObj r (.map (l'.map mkE).toArray c')).run x.P w = .ok () w' ∧ ∃ H', St x.w0 H' w' ∧ TO x false ops rest ks ⟨n, m, ds⟩ H' := fun l' c' hok' => by
      obtain ⟨w', r1, r2, r3, r4, r5, r6, r7⟩ := run_setObj (P := x.P) (o := .map (l'.map mkE).toArray c') h1
      exact ⟨w', r1, _, s2.upd r5 r6 r7 r3 (fun k hk => r4 k (by simp [Seg.lo, Seg.hi] at hk; omega)) (s' := .own r (isN (updO G q (v1, v2)))) rfl rfl ⟨_, r2, l', c', rfl, hok'⟩, h⟩
    match r', h5, h6 with
    | none, h5, h6 =>
      have hne := lget_none h6
      obtain ⟨w', hw, hres⟩ := fin (l ++ [(q, (v1, v2), c)]) (c + 1) ⟨by
          rw [List.map_append, List.nodup_append]
          exact ⟨hok.keys, by simp, fun a ha b hb => by
            simp at hb; subst hb
            obtain ⟨e', he', rfl⟩ := List.mem_map.1 ha
            exact hne e' he'⟩,
        by
          rw [List.map_append, List.nodup_append]
          exact ⟨hok.borns, by simp, fun a ha b hb => by
            simp at hb; subst hb
            obtain ⟨e', he', rfl⟩ := List.mem_map.1 ha
            exact Nat.ne_of_lt (hok.lt e' he')⟩,
        fun e' he' => by
          rcases List.mem_append.1 he' with he' | he'
          · exact Nat.lt_succ_of_lt (hok.lt e' he')
          · simp at he'; subst he'; exact Nat.lt_succ_self _,
        fun k => by
          simp only [updO]
          by_cases hkq : k = q
          · subst hkq
            rw [if_pos rfl, lget_app hne]; simp [lget]
          · rw [if_neg hkq, ← hok.get]
            exact lget_end hkq⟩
      refine ⟨w', ?_, hres⟩
      simp only [execOp]; rw [e.ev hy, e.ev hi, e.ev hz]
      have hpush : (l.map mkE).toArray.push { key := .int .i64 q, val := spV (v1, v2), born := c } = ((l ++ [(q, (v1, v2), c)]).map mkE).toArray := by
        apply Array.toList_inj.1; simp [mkE]
      simp only [Instr.mapUpdate, Sem.run_bind, run_underlying ht.map, Result.andThen, run_getObj h1, run_checkKey, Instr.findKey, run_underlying hk.int, h5, run_ok, hpush, hw]
    | some (j, u), h5, ⟨p, e1, q', h7, h8, h9, _, h10⟩ =>
      have hkey : (((l.map mkE).toArray[j]?).map (·.key)).getD (.int .i64 q) = .int .i64 q := by
        rw [h7, h8]; simp [mkE, h9]
      have hmod : (l.map mkE).toArray.modify j (fun e => { e with key := .int .i64 q, val := spV (v1, v2) }) = ((p ++ (q, (v1, v2), e1.2.2) :: q').map mkE).toArray := by
        apply Array.toList_inj.1
        rw [Array.toList_modify, h7, h8, Nat.zero_add]
        simp only [List.map_append, List.map_cons]
        have := modify_mid (p.map mkE) (q'.map mkE) (mkE e1) (fun e => { e with key := .int .i64 q, val := spV (v1, v2) })
        rw [List.length_map] at this
        rw [this]; rfl
      have hkeys : ((p ++ (q, (v1, v2), e1.2.2) :: q').map (·.1)) = l.map (·.1) := by rw [h7]; simp [h9]
      have hborns : ((p ++ (q, (v1, v2), e1.2.2) :: q').map (·.2.2)) = l.map (·.2.2) := by rw [h7]; simp
      have hpne : ∀ e ∈ p, e.1 ≠ q := fun e' he' hh => by
        have hk1 := hok.keys
        rw [h7, List.map_append, List.nodup_append] at hk1
        exact hk1.2.2 e'.1 (List.mem_map.2 ⟨e', he', rfl⟩) e1.1 (by simp) (hh.trans h9.symm)
      obtain ⟨w', hw, hres⟩ := fin (p ++ (q, (v1, v2), e1.2.2) :: q') c ⟨by rw [hkeys]; exact hok.keys, by rw [hborns]; exact hok.borns, fun e' he' => by
          rcases List.mem_append.1 he' with he' | he'
          · exact hok.lt e' (by rw [h7]; exact List.mem_append_left _ he')
          · rcases List.mem_cons.1 he' with rfl | he'
            · exact hok.lt e1 (by rw [h7]; simp)
            · exact hok.lt e' (by rw [h7]; exact List.mem_append_right _ (List.mem_cons_of_mem _ he')),
        fun k => by
          simp only [updO]
          by_cases hkq : k = q
          · subst hkq
            rw [if_pos rfl, lget_app hpne]; simp [lget]
          · rw [if_neg hkq, ← hok.get, h7]
            exact lget_mid hkq (fun hh => hkq (hh.trans h9))⟩
      have hks : ∀ w, (Instr.keyThatStays (.int .i64 q) (.int .i64 q)).run x.P w = .ok (.int .i64 q) w := fun w => by
        have : Instr.sameBits 10000 (.int .i64 q) (.int .i64 q) = true := by simp [Instr.sameBits]
        simp only [Instr.keyThatStays, this, if_true, run_ok]
      refine ⟨w', ?_, hres⟩
      simp only [execOp]; rw [e.ev hy, e.ev hi, e.ev hz]
      simp only [Instr.mapUpdate, Sem.run_bind, run_underlying ht.map, Result.andThen, run_getObj h1, run_checkKey, Instr.findKey, run_underlying hk.int, h5, run_ok, hkey, hks, hmod, hw])

theorem to_rgN {t kt et b1 b2 : TypeId} {zz : List ZV} {y : Operand} {r c : Nat} {l : List En} (hy : ev m y = some (.map (some r))) [hm : NM x.w0 H r l c] [ht : Ty x.P t ⟨.map kt et, b1, b2, zz⟩] (hd : Nat.blt dd n = true)
    (h : ∀ b, TO x false ops rest ks ⟨n, (dd, .pointer (some ⟨b, 0, none⟩)) :: m, ds⟩ (.own b (isIN r l c l none) :: H)) :
    TO x false ops (⟨some dd, .range t y, ty, pos, aft, none⟩ :: rest) ks ⟨n, m, ds⟩ H :=
  to_step (fun _ h => by cases h) (fun a w e s => by
    refine ⟨_, w.alloc (.mapIter (some r) c #[] c), ?_, _, s.alloc (p := isIN r l c l none) ⟨#[], rfl, left_all l, rfl⟩, h w.heap.size⟩
    simp only [execOp]; rw [e.ev hy, Sem.run_bind, run_range_map w t kt et r _ c ht.map (hm.here w s)]
    rfl) hd

theorem to_nxN {y : Operand} {b r c : Nat} {l left : List En} {cur : Option En} {G : Int → Option Sp} (hy : ev m y = some (.pointer (some ⟨b, 0, none⟩))) [ho : OwnAt b H (isIN r l c left cur) H2] [hm : NM x.w0 H r l c] (hok : OkN l c G) (hd : Nat.blt dd n = true)
    (h0 : left = [] → TO x false ops rest ks ⟨n, (dd, .tuple [.bool false].toArray) :: m, ds⟩ H)
    (h1 : ∀ e ∈ left, e ∈ l → G e.1 = some e.2.1 → TO x false ops rest ks ⟨n, (dd, .tuple [.bool true, .int .i64 e.1, spV e.2.1].toArray) :: m, ds⟩ (.own b (isIN r l c (dropE left e) (some e)) :: H2)) :
    TO x false ops (⟨some dd, .next y false, ty, pos, aft, none⟩ :: rest) ks ⟨n, m, ds⟩ H :=
  to_step (fun _ h => by cases h) (fun a w e s => by
    have s2 := s.perm ho.perm
    obtain ⟨ob, hob, seen, hpo, hl, hcur⟩ := s.own_at (b := b)
    subst hpo
    rcases run_next_at (P := x.P) w ty b r c c seen (l.map mkE).toArray c hob (hm.here w s) (fun z hz => by
      obtain ⟨en, h5, rfl⟩ := List.mem_map.1 (show z ∈ l.map mkE from hz)
      exact hok.lt en h5) (Nat.le_refl _) with ⟨h2, h3⟩ | ⟨e1, h2, w1, h3, h4⟩
    · refine ⟨_, w, ?_, H, s, h0 ?_⟩
      · simp only [execOp]; rw [e.ev hy, Sem.run_bind, h3]; rfl
      · have : (leftOf (l.map mkE).toArray seen).toList.length = 0 := by simpa using h2
        rw [hl, List.length_map] at this
        exact List.eq_nil_of_length_eq_zero this
    · have h2' : e1 ∈ (leftOf (l.map mkE).toArray seen).toList := h2
      have hsub : ∀ z ∈ left, z ∈ l := fun z hz => by
        have hz' : mkE z ∈ (leftOf (l.map mkE).toArray seen).toList := by rw [hl]; exact List.mem_map_of_mem hz
        simp only [leftOf, Array.toList_filter] at hz'
        obtain ⟨z', h5, h6⟩ := List.mem_map.1 (List.mem_filter.1 hz').1
        have : z' = z := by
          obtain ⟨k1, ⟨p1, p2⟩, b1⟩ := z
          obtain ⟨k2, ⟨p3, p4⟩, b2⟩ := z'
          simp [mkE] at h6
          obtain ⟨h6, ⟨h7, h8⟩, h9⟩ := h6
          subst h6 h7 h8 h9; rfl
        exact this ▸ h5
      rw [hl] at h2'
      obtain ⟨en, hen, rfl⟩ := List.mem_map.1 h2'
      have sd : St x.w0 (.own b (isIN r l c left cur) :: H2) w1 := by rcases h3 with rfl | rfl; exact s2; exact s2.drew
      have hob1 : w1.heap[b]? = some (.mapIter (some r) c seen c) := by rcases h3 with rfl | rfl <;> exact hob
      refine ⟨_, setBlock w1 b (.mapIter (some r) c (seen.push en.2.2) c), ?_, _, sd.upd rfl rfl rfl (by simp [setBlock]) (fun k hk => ?_) (s' := .own b (isIN r l c (dropE left en) (some en))) rfl rfl ⟨_, ?_, seen.push en.2.2, rfl, left_push hl en, by simp⟩, h1 en hen (hsub en hen) (okN_mem hok (hsub en hen))⟩
      · simp only [execOp]; rw [e.ev hy, Sem.run_bind, h4]; rfl
      · simp only [setBlock]
        exact Array.getElem?_setIfInBounds_ne (by simp [Seg.lo, Seg.hi] at hk; omega)
      · simp only [setBlock]
        exact Array.getElem?_setIfInBounds_self_of_lt (Array.getElem?_eq_some_iff.1 hob1).1) hd

theorem to_enN {y : Operand} {b r c : Nat} {l left : List En} {e1 : En} {G : Int → Option Sp} (hy : ev m y = some (.pointer (some ⟨b, 0, none⟩))) [ho : OwnAt b H (isIN r l c left (some e1)) H2] [hm : NM x.w0 H r l c] (hok : OkN l c G) (he : e1 ∈ l) (hd : Nat.blt dd n = true)
    (h : TO x d ops rest ks ⟨n, (dd, .tuple [.int .i64 e1.1, spV e1.2.1].toArray) :: m, ds⟩ H) :
    TO x d ops (⟨some dd, .entry y, ty, pos, aft, none⟩ :: rest) ks ⟨n, m, ds⟩ H :=
  to_pure _ (fun _ h => by cases h) (fun a w e s => by
    obtain ⟨ob, hob, seen, hpo, hl, hcur⟩ := s.own_at (b := b)
    subst hpo
    have hmh := hm.here w s
    have hg1 : (getObj b).run x.P w = .ok (.mapIter (some r) c seen c) w := by simp [getObj, Sem.run, hob]
    have hg2 : (getObj r).run x.P w = .ok (.map (l.map mkE).toArray c) w := by simp [getObj, Sem.run, hmh]
    have hf : (l.map mkE).toArray.find? (·.born == e1.2.2) = some (mkE e1) := by
      rw [← Array.find?_toList]
      exact find_born (mkE e1) (l.map mkE) (by simpa [mkE, List.map_map, Function.comp_def] using hok.borns) (List.mem_map_of_mem he)
    simp only [execOp]; rw [e.ev hy]
    have hb : seen.back? = some e1.2.2 := hcur
    simp only [Instr.entry, Sem.run_bind, hg1, hg2, Result.andThen, hb, bne_self_eq_false, Bool.false_eq_true, if_false, hf, run_ok]
    rfl) hd h
end
end Go.Sx



namespace Go.Sx
open Go Go.RowKit

/-! ## Rounds that panic -/

/-- What is asked at a round's end, panics taken in. -/
def roundPostP (P : Program) (l : Nat) (R : Ending → World → Prop) : Exit → Act → World → Prop
  | .panic ch, a, w => a.defers = [] ∧ R (.panicked ch) w
  | e, a, w => roundPost P l R e a w

theorem roundIn_of_wpInP {P : Program} {l : Nat} {f : FuncId} {fn : Func} {tmps : Array Value} {assign body : Code} {w : World} {R : Ending → World → Prop} (hfn : P.funcs[f]? = some fn)
    (h : assign.wpIn (WF (some l)) 0 P (Exit.then (fun a₁ w₁ => ∃ w₂, (Instr.beginRound l).run P w₁ = .ok () w₂ ∧ body.wpIn (WF (some l)) 0 P (roundPostP P l R) a₁ w₂) (fun _ _ _ => False))
      { tmps := tmps, defers := [] } w) :
    RoundIn (WF none) 0 P l f tmps assign body w R := by
  refine ⟨trivial, fun c cs hr => ?_⟩
  let b : Frame := { (default : Frame) with fn := f, kind := .normal, roundOf := some l }
  have hb0 : Frame.round l f tmps assign body .normal = b.atR { tmps := tmps, defers := [] } [.code assign, .beginRound, .code body] := by
    simp [Frame.round, Frame.atR, b]
  have hr' : (WF (some l)).room ((c :: cs).length + 1 + 0) := fun d hd => by cases hd
  have hF' : (WF (some l)).fn b.fn := trivial
  obtain ⟨e, a₁, w₁, hq, harr⟩ := h b [.beginRound, .code body] (c :: cs) rfl hF' hr'
  rw [← hb0] at harr
  cases e with
  | normal =>
    obtain ⟨w₂, hbr, hbody⟩ := hq
    have s1 : StepsIn (Machine.fenced P (WF (some l))) P (lone (b.atR a₁ [.beginRound, .code body]) (c :: cs) w₁) (lone (b.atR a₁ [.code body]) (c :: cs) w₂) :=
      .one (fenced_calm (fr := b.atR a₁ [.beginRound, .code body]) hF' hr' rfl) (stepR_beginRound rfl hbr)
    obtain ⟨e₂, a₂, w₃, hq₂, harr₂⟩ := hbody b [] (c :: cs) rfl hF' hr'
    cases e₂ with
    | normal =>
      obtain ⟨v, w₄, hend, hR⟩ := hq₂
      exact ⟨.returned v, w₄, hR, (StepsIn.trans harr s1).trans (StepsIn.trans harr₂ (.one (fenced_calm (fr := b.atR a₂ []) hF' hr' rfl) (stepR_round_end rfl rfl hend)))⟩
    | ret =>
      obtain ⟨v, w₄, hend, hR⟩ := hq₂
      obtain ⟨k₁, hs⟩ := harr₂.2 rfl
      exact ⟨.returned v, w₄, hR, (StepsIn.trans harr s1).trans (StepsIn.trans hs (.one (fenced_calm (fr := b.atR a₂ (.code .ret :: k₁)) hF' hr' rfl) (stepR_round_ret rfl rfl hend)))⟩
    | exit id =>
      obtain ⟨v, w₄, hend, hR⟩ := hq₂
      obtain ⟨k₁, hk, hs⟩ := harr₂.2 rfl rfl
      exact ⟨.returned v, w₄, hR, (StepsIn.trans harr s1).trans (StepsIn.trans hs (.one (fenced_calm (fr := b.atR a₂ (.code (.exit id) :: k₁)) hF' hr' rfl) (stepR_round_exit rfl rfl hk hend)))⟩
    | goto t =>
      obtain ⟨v, w₄, hend, hR⟩ := hq₂
      obtain ⟨k₁, hk, hs⟩ := harr₂.2 rfl rfl
      exact ⟨.returned v, w₄, hR, (StepsIn.trans harr s1).trans (StepsIn.trans hs (.one (fenced_calm (fr := b.atR a₂ (.code (.goto t) :: k₁)) hF' hr' rfl) (stepR_round_goto rfl rfl hk hend)))⟩
    | panic chain =>
      obtain ⟨hd, hR⟩ := hq₂
      obtain ⟨todo, hs⟩ := harr₂
      have hlv : Frame.leaving P { b.atR a₂ todo with mode := .panicking chain } w₃ (.panicked chain) := ⟨rfl, hd, fn, hfn⟩
      exact ⟨.panicked chain, w₃, hR, (StepsIn.trans harr s1).trans (StepsIn.trans hs (.one (fenced_leaving (n := 0) hF' hr' hlv) (step_leave_panicked hlv)))⟩
    | outgrown => exact hq₂.elim
  | exit id => exact hq.elim
  | goto t => exact hq.elim
  | ret => exact hq.elim
  | panic chain => exact hq.elim
  | outgrown => exact hq.elim

/-! ### Code of a function that is known -/

def wpK (P : Program) (f0 : FuncId) (c : Code) (Q : Exit → Act → World → Prop) (a : Act) (w : World) : Prop :=
  ∀ (b : Frame) (k : List Item) (cs : List Frame), b.roundOf = none → b.fn = f0 →
    ∃ e a' w', Q e a' w' ∧ ArrivesIn (Machine.fenced P (WF none)) P (lone (b.atR a (.code c :: k)) cs w) b k cs e a' w'

theorem room_WF {r : Option Nat} (k : Nat) : (WF r).room k := fun d hd => by cases hd

theorem wpK_of {P : Program} {f0 : FuncId} {c : Code} {Q : Exit → Act → World → Prop} {a : Act} {w : World} (h : c.wpIn (WF none) 0 P Q a w) : wpK P f0 c Q a w :=
  fun b k cs hro _ => h b k cs hro trivial (room_WF _)

theorem wpK_seq {P : Program} {f0 : FuncId} {x y : Code} {Q : Exit → Act → World → Prop} {a : Act} {w : World} (h : x.wpIn (WF none) 0 P (Exit.then (wpK P f0 y Q) Q) a w) : wpK P f0 (.seq x y) Q a w := by
  intro b k cs hro hbf
  have hr := room_WF (r := none) (cs.length + 1 + 0)
  have hb : (WF none).fn b.fn := trivial
  have h0 : (lone (b.atR a (.code (.seq x y) :: k)) cs w).fenced P (WF none) := fenced_calm hb hr rfl
  obtain ⟨e, a₁, w₁, hq, harr⟩ := h b (.code y :: k) cs hro hb hr
  cases e with
  | normal =>
    obtain ⟨e₂, a₂, w₂, hq₂, harr₂⟩ := hq b k cs hro hbf
    exact ⟨e₂, a₂, w₂, hq₂, .of_steps (.head h0 stepR_seq harr) harr₂⟩
  | exit id => exact ⟨_, a₁, w₁, hq, .of_steps (.one h0 stepR_seq) (.pass (x := .code y) rfl (fun _ _ => .inl (by simp)) harr)⟩
  | goto l => exact ⟨_, a₁, w₁, hq, .of_steps (.one h0 stepR_seq) (.pass (x := .code y) rfl (fun _ _ => .inl (by simp)) harr)⟩
  | ret => exact ⟨_, a₁, w₁, hq, .of_steps (.one h0 stepR_seq) (.pass (x := .code y) rfl (fun _ _ => .inl (by simp)) harr)⟩
  | panic ch => exact ⟨_, a₁, w₁, hq, .of_steps (.one h0 stepR_seq) (.pass (x := .code y) rfl (fun _ _ => .inl (by simp)) harr)⟩
  | outgrown => exact ⟨_, a₁, w₁, hq, .of_steps (.one h0 stepR_seq) (.pass (x := .code y) rfl (fun _ _ => .inl (by simp)) harr)⟩

theorem wpK_rangeFunc {P : Program} {f0 : FuncId} {g : Operand} {ps : Array Tmp} {assign body : Code} {Q : Exit → Act → World → Prop} {a : Act} {w : World}
    (h : ∃ (l : Nat) (mark : List Deferred) (w₁ : World) (d : Deferred) (w₁' : World) (f : FuncId) (args : Array Value) (w₂ : World),
      (Instr.enterLoop f0 a.tmps ps assign body none).run P w = .ok (l, mark) w₁ ∧
      (resolve a.eval (rangeCall g l) 0).run P w₁ = .ok d w₁' ∧
      (invoke d.target d.args).run P w₁' = .ok (.enter f args) w₂ ∧
      CallsIn (WF none) 0 P f args w₂ (rangePost (WF none) 0 P l Q { a with defers := mark ++ a.defers })) :
    wpK P f0 (.rangeFunc g ps assign body) Q a w := by
  intro b k cs hro hbf
  have hr := room_WF (r := none) (cs.length + 1 + 0)
  have hb : (WF none).fn b.fn := trivial
  obtain ⟨l, mark, w₁, d, w₁', f, args, w₂, he, hres, hinv, hF, hcall⟩ := h
  rw [← hbf, ← hro] at he
  have h0 : (lone (b.atR a (.code (.rangeFunc g ps assign body) :: k)) cs w).fenced P (WF none) :=
    fenced_lone (.inl hb) (fun f' hf' => trivial) (Fence.room_le hr (by omega))
  have henter := stepR_rangeFunc (P := P) (b := b) (a := a) (k := k) (cs := cs) (w := w) he hres hinv
  have hroom : (WF none).room ((b.atR { a with defers := mark ++ a.defers } (.inRangeFunc l :: k) :: cs).length + 1 + 0) := room_WF _
  obtain ⟨e, w₃, fr, hR, hsteps, hfn, hleave⟩ := hcall (b.atR { a with defers := mark ++ a.defers } (.inRangeFunc l :: k) :: cs) hroom
  cases e with
  | outgrown =>
    obtain ⟨a₀, w₀, hq⟩ := hR
    exact ⟨.outgrown, a₀, w₀, hq, .inr (Outgrown.of_steps (.one henter) hsteps)⟩
  | returned v =>
    have hl : (lone fr (b.atR { a with defers := mark ++ a.defers } (.inRangeFunc l :: k) :: cs) w₃).fenced P (WF none) := fenced_leaving (hfn ▸ hF) hroom hleave
    obtain ⟨jump, w₄, hend, hj⟩ := hR
    have sback : StepsIn (Machine.fenced P (WF none)) P (lone (b.atR a (.code (.rangeFunc g ps assign body) :: k)) cs w) (lone (b.atR { a with defers := mark ++ a.defers } ((jump.map Item.code).toList ++ k)) cs w₄) := by
      refine .head h0 henter (StepsIn.trans hsteps (.head hl ?_ (.one (fenced_calm (fr := b.atR { a with defers := mark ++ a.defers } (.endRangeFunc l :: k)) hb hr rfl) (stepR_endRangeFunc hend))))
      rw [← finish_atR_inRangeFunc l v]; exact step_leave_returned hleave
    cases jump with
    | none => exact ⟨.normal, _, w₄, hj, sback⟩
    | some c =>
      obtain ⟨e', a'', w₅, hq, harr⟩ := hj b k cs hro hb hr
      exact ⟨e', a'', w₅, hq, .of_steps sback harr⟩
  | panicked chain =>
    have hl : (lone fr (b.atR { a with defers := mark ++ a.defers } (.inRangeFunc l :: k) :: cs) w₃).fenced P (WF none) := fenced_leaving (hfn ▸ hF) hroom hleave
    refine ⟨.panic chain, _, w₃, hR, .inRangeFunc l :: k, .head h0 henter (StepsIn.trans hsteps (.one hl ?_))⟩
    rw [← Frame.raise_atR]; exact step_leave_panicked hleave

theorem callsIn_of_wpK {P : Program} {f : FuncId} {fn : Func} {c : Code} {args : Array Value} {w : World} {R : Ending → World → Prop}
    (hf : P.funcs[f]? = some fn) (hb : fn.body = some c)
    (h : wpK P f c (bodyPostM (WF none) 0 P fn R) { tmps := args ++ Array.replicate (fn.ntmps - args.size) undef, defers := [] } w) : CallsIn (WF none) 0 P f args w R := by
  refine ⟨trivial, fun cs hr => ?_⟩
  have hF : (WF none).fn f := trivial
  let b : Frame := { (default : Frame) with fn := f, kind := .normal, roundOf := none }
  have henter : Frame.enter P f args .normal =
      b.atR { tmps := args ++ Array.replicate (fn.ntmps - args.size) undef, defers := [] } [.code c] := by
    simp [Frame.enter, Frame.atR, hf, hb, b]
  obtain ⟨e, a', w', hq, harr⟩ := h b [] cs rfl rfl
  rw [← henter] at harr
  cases e with
  | normal =>
    obtain ⟨e', w'', fr', hR, hs, hfn, hl⟩ := leaves_stepsInM a'.defers .returning w' { b.atR a' [] with mode := .returning } cs rfl rfl rfl hf rfl hF hr hq
    exact ⟨e', w'', fr', hR, ComesIn.of_steps (StepsIn.trans harr (.one (fenced_calm (fr := b.atR a' []) hF hr rfl) (stepR_end rfl))) hs, hfn, hl⟩
  | ret =>
    obtain ⟨todo, hs₀⟩ := harr.1 rfl
    obtain ⟨e', w'', fr', hR, hs, hfn, hl⟩ := leaves_stepsInM a'.defers .returning w' { b.atR a' todo with mode := .returning } cs rfl rfl rfl hf rfl hF hr hq
    exact ⟨e', w'', fr', hR, ComesIn.of_steps hs₀ hs, hfn, hl⟩
  | panic chain =>
    obtain ⟨todo, hs₀⟩ := harr
    obtain ⟨e', w'', fr', hR, hs, hfn, hl⟩ := leaves_stepsInM a'.defers (.panicking chain) w' { b.atR a' todo with mode := .panicking chain } cs rfl rfl rfl hf rfl hF hr hq
    exact ⟨e', w'', fr', hR, ComesIn.of_steps hs₀ hs, hfn, hl⟩
  | exit id => exact hq.elim
  | goto l => exact hq.elim
  | outgrown => exact ⟨.outgrown, w', b, hq, harr.resolve_left (by simp [b]), rfl, trivial⟩

/-! ### The judgement over it -/

/-- A call that comes back with v and p, or gives up and leaves F. -/
def ItX (v : Value) (B : Nat) (p : World → Prop) (F : List PanicEntry → World → Prop) (w : World) : Ending → World → Prop := fun e w' => Keep B w w' ∧ ((e = .returned v ∧ p w') ∨ ∃ ch, e = .panicked ch ∧ F ch w')

def Tkn (P : Program) (f0 : FuncId) (w0 : World) (Q : Exit → Act → World → Prop) (c : Code) (E : Env) (H : List Seg) : Prop := ∀ a w, E.ok a → St w0 H w → wpK P f0 c Q a w

theorem tk_seq {P : Program} {f0 : FuncId} {w0 : World} {Q : Exit → Act → World → Prop} {x y : Code} {E : Env} {H : List Seg} (h : T ⟨P, none, w0, Exit.then (wpK P f0 y Q) Q⟩ [] x E H) : Tkn P f0 w0 Q (.seq x y) E H := fun a w e s => wpK_seq (h a w e s)
theorem tx_k {P : Program} {f0 : FuncId} {w0 : World} {Q : Exit → Act → World → Prop} {y : Code} {E : Env} {H : List Seg} (h : Tkn P f0 w0 Q y E H) : TX ⟨P, none, w0, Exit.then (wpK P f0 y Q) Q⟩ .normal [] E H := tn_nil fun a w e s => h a w e s
theorem tk_of {P : Program} {f0 : FuncId} {w0 : World} {Q : Exit → Act → World → Prop} {c : Code} {E : Env} {H : List Seg} (h : T ⟨P, none, w0, Q⟩ [] c E H) : Tkn P f0 w0 Q c E H := fun a w e s => wpK_of (h a w e s)

theorem calls_TK {P : Program} {f : Nat} {fn : Func} {c : Code} {av : List Value} {w : World} {R : Ending → World → Prop} {H : List Seg} (hf : P.funcs[f]? = some fn) (hb : fn.body = some c) (hn : Nat.ble av.length fn.ntmps = true)
    {m0 : List (Nat × Value)} (hm : argEnv 0 av = m0) (hs : St w H w) (h : Tkn P f w (bodyPostM (WF none) 0 P fn R) c ⟨fn.ntmps, m0, []⟩ H) : Calls P f av.toArray w R := by
  suffices hc : CallsIn (WF none) 0 P f av.toArray w R from callsIn_wide.1 hc
  refine callsIn_of_wpK hf hb ?_
  have hle : av.length ≤ fn.ntmps := Nat.le_of_ble_eq_true hn
  refine h _ w ⟨by simp; omega, rfl, fun s v hs => ?_⟩ hs
  subst hm
  obtain ⟨_, h2⟩ := argEnv_get av 0 s v hs
  rw [Nat.sub_zero] at h2
  have hlt : s < av.length := (List.getElem?_eq_some_iff.1 h2).1
  rw [Array.getElem?_append_left (by simpa using hlt)]
  simpa using h2

/-- The record of a loop of the function f. -/
def isLpF (f : FuncId) (K : LKey) (st : LoopState) (pend : Option Code) (o : Obj) : Prop :=
  ∃ tmps df, o = .loop { state := st, pending := pend, fn := f, tmps, params := #[K.p], assign := K.asg, body := K.body, defers := df } ∧ Env.ok ⟨K.n, K.m, []⟩ ⟨tmps, []⟩

def RJP (P : Program) (l : Nat) (body : Code) (R : Ending → World → Prop) (a : Act) (w : World) : Prop :=
  ∃ w₂, (Instr.beginRound l).run P w = .ok () w₂ ∧ body.wpIn (WF (some l)) 0 P (roundPostP P l R) a w₂

theorem t_beginP {P : Program} {l : Nat} {w0 : World} {body : Code} {R : Ending → World → Prop} {E : Env} {H H2 : List Seg} {f : FuncId} {K : LKey} [h : OwnAt l H (isLpF f K .ready none) H2]
    (hb : T ⟨P, some l, w0, roundPostP P l R⟩ [] body E (.own l (isLpF f K .busy none) :: H2)) : TX ⟨P, some l, w0, QF⟩ .normal [.inv (RJP P l body R)] E H := fun a w e s => by
  obtain ⟨o, h1, tmps, df, rfl, h3⟩ := s.own_at (b := l)
  exact ⟨_, run_beginRound h1 rfl, hb _ _ e (s.put h1 ⟨tmps, df, rfl, h3⟩)⟩

theorem t_rendP {P : Program} {l B : Nat} {w : World} {E : Env} {H H2 : List Seg} {f : FuncId} {K : LKey} {F : List PanicEntry → World → Prop} {S'' : List Seg} (S' : List Seg) (hS : S'' = S') [h : OwnAt l H (isLpF f K .busy none) H2] [hs : SnapAt w H2 B w.heap.size] [hsub : SubH S' H2]
    (hh : ∀ s ∈ S', s.hi ≤ B) (hl : l < B) : TX ⟨P, some l, w, roundPostP P l (ItX (.bool true) B (StB B (.own l (isLpF f K .ready none) :: S'')) F w)⟩ .normal [] E H := fun a w' e s => by
  subst hS
  obtain ⟨o, h1, tmps, df, rfl, h3⟩ := s.own_at (b := l)
  have s2 := s.put h1 (q := isLpF f K .ready none) (o := .loop { state := .ready, pending := none, fn := f, tmps, params := #[K.p], assign := K.asg, body := K.body, defers := df }) ⟨tmps, df, rfl, h3⟩
  haveI : SnapAt w (.own l (isLpF f K .ready none) :: H2) B w.heap.size := ⟨List.mem_cons_of_mem _ hs.mem⟩
  haveI : SubH (.own l (isLpF f K .ready none) :: S'') (.own l (isLpF f K .ready none) :: H2) := inferInstance
  refine ⟨_, _, run_endRound none h1, keep_of s2, .inl ⟨rfl, s2.toB ?_⟩⟩
  intro z hz
  rcases List.mem_cons.1 hz with rfl | hz
  · exact hl
  · exact hh z hz

theorem yc_roundP {P : Program} {l B : Nat} {w : World} {f : FuncId} {fn : Func} {K : LKey} {H : List Seg} {v : Value} {R : Ending → World → Prop} {n : Nat} {m : List (Nat × Value)} {p : Nat} {asg body : Code} (hf : P.funcs[f]? = some fn) (hK : K = ⟨n, m, p, asg, body⟩) (hs : StB B (.own l (isLpF f K .ready none) :: H) w) (hB : B ≤ w.heap.size) (hp' : Nat.blt p n = true)
    (h' : T ⟨P, some l, w, QF⟩ [.inv (RJP P l body R)] asg ⟨n, (p, v) :: m, []⟩ (.own l (isLpF f K .ready none) :: .snap B w.heap.size w :: H)) : YC P l #[v] w R := by
  subst hK
  have s := (hs.start hB).perm (List.Perm.swap ..)
  obtain ⟨o, h1, tmps, df, rfl, h3⟩ := s.own_at (b := l) (p := isLpF f ⟨n, m, p, asg, body⟩ .ready none)
  refine ⟨_, _, _, _, run_yield h1 rfl, roundIn_of_wpInP hf ?_⟩
  have he := h3.put hp' v
  have := h' { tmps := tmps.setIfInBounds p v, defers := [] } w he s
  have hfo : Array.foldl (fun (tmps : Array Value) (x : Nat × Value) => match x with | (t, a) => tmps.setIfInBounds t a) tmps (#[p].zip #[v]) = tmps.setIfInBounds p v := by simp
  simp only [hfo]
  exact this

/-- The range: its rounds may give up. -/
theorem tk_rf {P : Program} {f0 : FuncId} {w0 : World} {Q : Exit → Act → World → Prop} {g : Operand} {p : Nat} {asg body : Code} {n : Nat} {m : List (Nat × Value)} {H H0 : List Seg} {gf : Nat} {lb : List Value} (hg : ev m g = some (.func (.func gf) #[] lb.toArray)) [hfn : FnOk P gf]
    {α : Type} (S : List α → List Seg) (L0 : List α) (hS0 : S L0 = H0) [hsub : SubH H0 H] (Fp : LKey → Nat → Nat → Nat → List PanicEntry → World → Prop)
    (hseq : ∀ (K : LKey) (l D : Nat) (w₂ : World), K = ⟨n, m, p, asg, body⟩ → St w0 (.own l (isLpF f0 K .ready none) :: .own D isDf :: S L0) w₂ →
      Calls P gf (#[.func (.yield l) #[] #[]] ++ lb.toArray) w₂ (ItX (.tuple #[]) w₂.heap.size (StB w₂.heap.size (.own l (isLpF f0 K .ready none) :: .own D isDf :: S [])) (Fp K l D w₂.heap.size) w₂))
    (hdone : ∀ D a w, Env.ok ⟨n, m, [mark D]⟩ a → St w0 (.own D isDf :: S []) w → Q .normal a w)
    (hpan : ∀ K l D B ch w₃ a, Fp K l D B ch w₃ → w0.heap.size ≤ B → B ≤ w₃.heap.size → (w₃.os = w0.os ∧ w₃.tape = w0.tape ∧ w₃.output = w0.output) → Env.ok ⟨n, m, [mark D]⟩ a → Q (.panic ch) a w₃) : Tkn P f0 w0 Q (.rangeFunc g #[p] asg body) ⟨n, m, []⟩ H := by
  intro a w e s
  refine wpK_rangeFunc ?_
  have hev : a.eval g = .func (.func gf) #[] lb.toArray := e.ev hg
  let K : LKey := ⟨n, m, p, asg, body⟩
  let w₁ : World := (w.alloc (.deferred (some []))).alloc (.loop { state := .ready, pending := none, fn := f0, tmps := a.tmps, params := #[p], assign := asg, body, defers := w.heap.size })
  have s0 : St w0 H0 w := s.sub
  have s1 : St w0 (.own w.heap.size isDf :: H0) (w.alloc (.deferred (some []))) := s0.alloc (p := isDf) rfl
  have s2 : St w0 (.own (w.heap.size + 1) (isLpF f0 K .ready none) :: .own w.heap.size isDf :: S L0) w₁ := by
    rw [hS0]
    have := s1.alloc (o := .loop { state := .ready, pending := none, fn := f0, tmps := a.tmps, params := #[p], assign := asg, body, defers := w.heap.size }) (p := isLpF f0 K .ready none) ⟨a.tmps, w.heap.size, rfl, ⟨e.size, rfl, e.get⟩⟩
    rw [World.size_alloc] at this
    exact this
  have hres : (resolve a.eval (rangeCall g (w.heap.size + 1)) 0).run P w₁ = .ok { target := .fn (.func gf) lb.toArray, args := #[] ++ #[Value.func (.yield (w.heap.size + 1)) #[] #[]] } w₁ := by
    simp only [resolve, hev, List.map_toArray, List.map_cons, List.map_nil, show ∀ v, a.eval (.const v) = v from fun _ => rfl, Deferred.ofValue, run_ok]
  refine ⟨w.heap.size + 1, [mark w.heap.size], w₁, _, w₁, gf, #[.func (.yield (w.heap.size + 1)) #[] #[]] ++ lb.toArray, w₁, run_enterLoop_outer f0 a.tmps #[p] asg body, hres, ?_, ?_⟩
  · simp only [invoke]
    rw [show (#[] ++ #[Value.func (Fn.yield (w.heap.size + 1)) #[] #[]] ++ lb.toArray : Array Value) = #[Value.func (Fn.yield (w.heap.size + 1)) #[] #[]] ++ lb.toArray from by simp]
    exact hfn.run _ _
  refine callsIn_WF ((hseq K _ _ w₁ rfl s2).mono ?_)
  have e' : Env.ok ⟨n, m, [mark w.heap.size]⟩ { a with defers := [mark w.heap.size] ++ a.defers } := ⟨e.size, by show [mark w.heap.size] ++ a.defers = [mark w.heap.size]; rw [show a.defers = [] from e.ds]; rfl, e.get⟩
  rintro en w₃ ⟨hk, ⟨rfl, h⟩ | ⟨ch, rfl, h⟩⟩
  · have s3 : St w0 (.own (w.heap.size + 1) (isLpF f0 K .ready none) :: .own w.heap.size isDf :: S []) w₃ :=
      ⟨hk.os.trans s2.os, hk.tape.trans s2.tape, hk.output.trans s2.output, Nat.le_trans s2.ge hk.size, fun q hq => Nat.le_trans (h.1 q hq) hk.size, h.2.1, h.2.2⟩
    obtain ⟨o, h1, tmps, df, rfl, h3⟩ := s3.own_at (b := w.heap.size + 1) (p := isLpF f0 K .ready none)
    have s4 := s3.put h1 (q := fun _ => True) (o := .loop { state := .exhausted, pending := none, fn := f0, tmps, params := #[K.p], assign := K.asg, body := K.body, defers := df }) trivial
    exact ⟨_, _, run_endLoop h1 (by simp), hdone _ _ _ e' s4.tail⟩
  · exact hpan K _ _ _ ch w₃ _ h s2.ge hk.size ⟨hk.os.trans s2.os, hk.tape.trans s2.tape, hk.output.trans s2.output⟩ e'

/-- The way out of a function that holds such a range, by a panic. -/
theorem leave_panM {P : Program} {fn : Func} {R : Ending → World → Prop} {n : Nat} {m : List (Nat × Value)} {D : Nat} {a : Act} {w : World} {ch : List PanicEntry} (e : Env.ok ⟨n, m, [mark D]⟩ a) (h : w.heap[D]? = some (.deferred (some []))) (hR : R (.panicked ch) (w.putObj D (.deferred none))) :
    bodyPostM (WF none) 0 P fn R (.panic ch) a w := by
  show LeavesInM (WF none) 0 P fn a.tmps R a.defers (.panicking ch) w
  rw [e.ds]
  exact ⟨by simp, .inl ⟨D, _, rfl, run_takeDeferred h, hR⟩⟩
/-- And by its end. -/
theorem leave_endM {P : Program} {fn : Func} {R : Ending → World → Prop} {n : Nat} {m : List (Nat × Value)} {D : Nat} {a : Act} {w : World} (hr : fn.results = #[]) (e : Env.ok ⟨n, m, [mark D]⟩ a) (h : w.heap[D]? = some (.deferred (some []))) (hR : R (.returned (.tuple #[])) (w.putObj D (.deferred none))) :
    bodyPostM (WF none) 0 P fn R .normal a w := by
  show LeavesInM (WF none) 0 P fn a.tmps R a.defers .returning w
  rw [e.ds]
  exact ⟨by simp, .inl ⟨D, _, rfl, run_takeDeferred h, _, run_results (l := []) (vs := []) hr rfl (fun i r v h => by simp at h), hR⟩⟩
/-- Without a mark. -/
theorem leave_ret0M {P : Program} {fn : Func} {R : Ending → World → Prop} {E : Env} {a : Act} {w : World} (hr : fn.results = #[]) (e : E.ok a) (hd : E.ds = []) (hR : R (.returned (.tuple #[])) w) : bodyPostM (WF none) 0 P fn R .ret a w := by
  show LeavesInM (WF none) 0 P fn a.tmps R a.defers .returning w
  rw [show a.defers = [] from e.ds.trans hd]
  exact ⟨_, run_results (l := []) (vs := []) hr rfl (fun i r v h => by simp at h), hR⟩
theorem leave_pan0 {P : Program} {fn : Func} {R : Ending → World → Prop} {E : Env} {a : Act} {w : World} {ch : List PanicEntry} (e : E.ok a) (hd : E.ds = []) (hR : R (.panicked ch) w) : bodyPostM (WF none) 0 P fn R (.panic ch) a w := by
  show LeavesInM (WF none) 0 P fn a.tmps R a.defers (.panicking ch) w
  rw [show a.defers = [] from e.ds.trans hd]
  exact hR

section
variable {x : Cx} {ops : Array Oper} {rest : List Oper} {ks : List KI} {n : Nat} {m : List (Nat × Value)} {ds : List Deferred} {H H2 : List Seg}
variable {ty : TypeId} {pos : String} {aft : Array Edge} {dd : Nat}
/-- yield is called: the round says yes, or gives up. -/
theorem to_callYX {y B : Nat} {g : Operand} {l : List Operand} {ts : Array TypeId} {av : List Value} {p p1 : World → Prop} {F : List PanicEntry → World → Prop} (hg : ev m g = some (.func (.yield y) #[] #[])) (hl : evs m l = some av) [hr : RegAt H 0 B p H2] (hx : x.r = none)
    (hc : ∀ w, St x.w0 H w → YC x.P y av.toArray w (ItX (.bool true) B p1 F w)) (hd : Nat.blt dd n = true)
    (ht : TO x false ops rest ks ⟨n, (dd, .bool true) :: m, ds⟩ (.reg 0 B p1 :: H2)) [hsn : SnapAt x.w0 H B x.w0.heap.size] (hf : ∀ ch a w', F ch w' → Keep B x.w0 w' → Env.ok ⟨n, m, ds⟩ a → x.Q (.panic ch) a w') :
    TO x false ops (⟨some dd, .call ⟨.value g, l.toArray, ts⟩, ty, pos, aft, none⟩ :: rest) ks ⟨n, m, ds⟩ H := by
  intro a w e s
  refine wpListIn_plain rfl fun K hK => ?_
  refine ⟨fun _ _ => trivial, ?_⟩
  rw [Oper.semAt_eq _ _ _ (fun _ h => by cases h), exec_yield (e.ev hg) (e.evs hl)]
  obtain ⟨f, tmps, asg, body, h1, h2⟩ := hc w s
  rw [h1]
  refine ⟨(fun h => by cases h), ?_⟩
  rw [hx]
  refine h2.mono ?_
  rintro en w' ⟨hk, ⟨rfl, hp⟩ | ⟨ch, rfl, hp⟩⟩
  · exact hK _ _ (ht _ _ (e.put hd _) ((s.perm hr.perm).turn hk hp))
  · have hk2 : Keep B x.w0 w' := Keep.trans ⟨s.os, s.tape, s.output, s.ge, fun k h1 h2 => s.ok _ hsn.mem k h1 h2⟩ hk
    show Qk x ks (.panic ch) a w'
    rw [Qk_panic]
    exact hf ch a w' hp hk2 e
end
theorem t_end0X {P : Program} {fn : Func} {w : World} {E : Env} {H H2 : List Seg} {B : Nat} {p : World → Prop} {F : List PanicEntry → World → Prop} (hr : fn.results = #[]) (hds : E.ds = []) [h : RegAt H 0 B p H2] [hs : SnapAt w H B w.heap.size] (hc : Cong B p) :
    TX ⟨P, none, w, bodyPost P fn (ItX (.tuple #[]) B p F w)⟩ .normal [] E H := t_end0G hr hds (fun w' s => ⟨keep_of s, .inl ⟨rfl, s.regp hc⟩⟩)
theorem t_ret0X {P : Program} {fn : Func} {w : World} {E : Env} {H H2 : List Seg} {B : Nat} {p : World → Prop} {F : List PanicEntry → World → Prop} {ks : List KI} (hr : fn.results = #[]) (hds : E.ds = []) [h : RegAt H 0 B p H2] [hs : SnapAt w H B w.heap.size] (hc : Cong B p) :
    T ⟨P, none, w, bodyPost P fn (ItX (.tuple #[]) B p F w)⟩ ks .ret E H := t_ret0G hr hds (fun w' s => ⟨keep_of s, .inl ⟨rfl, s.regp hc⟩⟩)
end Go.Sx



namespace Go.Sx
open Go Go.RowKit

/-! ### Mixed regions within a round; an operation may give up -/

def QP (PP : List Deferred → List PanicEntry → World → Prop) : Exit → Act → World → Prop
  | .panic ch, a, w => PP a.defers ch w
  | _, _, _ => False

section mixedR
variable {P : Program} {ops : Array Oper} {md : Region.Mode} {C : World → Prop} {S : List Nat} {rr : Option Nat} {PP : List Deferred → List PanicEntry → World → Prop}

def mOpR (rr : Option Nat) (PP : List Deferred → List PanicEntry → World → Prop) (P : Program) (ops : Array Oper) (S : List Nat) (C D : World → Prop) (i : Nat) (K : (World → Prop) → Act → Prop) (a : Act) : Prop :=
  match ops[i]? with
  | none => K D a
  | some o => if Region.wanted o (yielded ops a.tmps) then
      if S.contains i then ∀ w, D w → o.wpIn (WF rr) 0 P a w (fun a' w' => a'.defers = a.defers ∧ ∃ D', Fine ops C i D' ∧ D' w' ∧ K D' a') (QP PP)
      else ∃ v, quietM P C o a v ∧ K D (a.put o.dst v)
    else K D (a.put o.dst undef)

theorem uponR_mono {F : Fence} {n : Nat} {o : Oper} {a : Act} {K K' : Act → World → Prop} {r : Result Next} (h : ∀ a w, K a w → K' a w) (hh : o.uponIn F n P a K (QP PP) r) : o.uponIn F n P a K' (QP PP) r := by
  have hL : ¬ LetsOut (QP PP) := fun ⟨_, _, h⟩ => h
  unfold Oper.uponIn at *
  split <;> simp only at hh
  · exact h _ _ hh
  · exact h _ _ hh
  · exact h _ _ hh
  · exact ⟨hh.1, hh.2.mono fun e w' he => by
      cases e with
      | returned v => exact h _ _ he
      | panicked c => exact he
      | outgrown => exact (hL he).elim⟩
  · exact ⟨hh.1, hh.2.mono fun v w' hv => h _ _ hv⟩
  · exact ⟨hh.1, hh.2.mono fun e w' he => by
      cases e with
      | returned v => exact h _ _ he
      | panicked c => exact he
      | outgrown => exact (hL he).elim⟩
  · exact hh

theorem put_defers (a : Act) (d : Option Tmp) (u : Value) : (a.put d u).defers = a.defers := by cases d <;> rfl

/-- The same operation, carried out ahead of another one's value. -/
theorem uponR_put {F : Fence} {n : Nat} {o : Oper} {a : Act} {d : Option Tmp} {u : Value} {K K' : Act → World → Prop} {r : Result Next} (h : ∀ v w, K ((a.put d u).put o.dst v) w → K' (a.put o.dst v) w)
    (hd : ∀ x w, ¬ K ({ (a.put d u) with defers := x :: (a.put d u).defers }.put o.dst undef) w) (hh : o.uponIn F n P (a.put d u) K (QP PP) r) : o.uponIn F n P a K' (QP PP) r := by
  have hL : ¬ LetsOut (QP PP) := fun ⟨_, _, h⟩ => h
  unfold Oper.uponIn at *
  split <;> simp only at hh
  · exact h _ _ hh
  · exact h _ _ hh
  · exact (hd _ _ hh).elim
  · exact ⟨hh.1, hh.2.mono fun e w' he => by
      cases e with
      | returned v => exact h _ _ he
      | panicked c => have he' : PP (a.put d u).defers c w' := he
                      rw [put_defers] at he'; exact he'
      | outgrown => exact (hL he).elim⟩
  · exact ⟨hh.1, hh.2.mono fun v w' hv => h _ _ hv⟩
  · exact ⟨hh.1, hh.2.mono fun e w' he => by
      cases e with
      | returned v => exact h _ _ he
      | panicked c => have he' : PP (a.put d u).defers c w' := he
                      rw [put_defers] at he'; exact he'
      | outgrown => exact (hL he).elim⟩
  · simpa only [QP, put_defers] using hh

theorem uponR_toQ {F : Fence} {n : Nat} {o : Oper} {a : Act} {K K' : Act → World → Prop} {Q' : Exit → Act → World → Prop} {r : Result Next} (hP : ∀ a ch w, PP a.defers ch w → Q' (.panic ch) a w) (h : ∀ a w, K a w → K' a w) (hh : o.uponIn F n P a K (QP PP) r) : o.uponIn F n P a K' Q' r := by
  have hL : ¬ LetsOut (QP PP) := fun ⟨_, _, h⟩ => h
  unfold Oper.uponIn at *
  split <;> simp only at hh
  · exact h _ _ hh
  · exact h _ _ hh
  · exact h _ _ hh
  · exact ⟨hh.1, hh.2.mono fun e w' he => by
      cases e with
      | returned v => exact h _ _ he
      | panicked c => exact hP _ _ _ he
      | outgrown => exact (hL he).elim⟩
  · exact ⟨hh.1, hh.2.mono fun v w' hv => h _ _ hv⟩
  · exact ⟨hh.1, hh.2.mono fun e w' he => by
      cases e with
      | returned v => exact h _ _ he
      | panicked c => exact hP _ _ _ he
      | outgrown => exact (hL he).elim⟩
  · exact hP _ _ _ hh

theorem mOpR_mono {D : World → Prop} {i : Nat} {a : Act} {K K' : (World → Prop) → Act → Prop} (h : ∀ D a, K D a → K' D a) (hh : mOpR rr PP P ops S C D i K a) : mOpR rr PP P ops S C D i K' a := by
  unfold mOpR at *
  split
  · exact h _ _ (by simpa [*] using hh)
  · rename_i o ho
    simp only [ho] at hh
    split
    · rename_i hw
      simp only [hw, if_true] at hh
      split
      · rename_i hs
        simp only [hs, if_true] at hh
        intro w hD
        refine ⟨(hh w hD).1, uponR_mono (fun a' w' h' => ?_) (hh w hD).2⟩
        obtain ⟨h1, D', h2, h3, h4⟩ := h'
        exact ⟨h1, D', h2, h3, h _ _ h4⟩
      · rename_i hs
        simp only [hs] at hh
        obtain ⟨v, h1, h2⟩ := hh
        exact ⟨v, h1, h _ _ h2⟩
    · rename_i hw; simp only [hw] at hh; exact h _ _ hh

/-- Whatever order is picked from here on. -/
def mAnyR (rr : Option Nat) (PP : List Deferred → List PanicEntry → World → Prop) (P : Program) (md : Region.Mode) (ops : Array Oper) (S : List Nat) (C : World → Prop) (Q : (World → Prop) → Act → Prop) : Nat → Array Bool → (World → Prop) → Act → Prop
  | 0, listed, D, a => Region.ready md ops listed = [] ∧ Q D a
  | fuel + 1, listed, D, a =>
    (Region.ready md ops listed = [] → Q D a) ∧
    ∀ i ∈ Region.ready md ops listed, mOpR rr PP P ops S C D i (fun D' a' => mAnyR rr PP P md ops S C Q fuel (listed.setIfInBounds i true) D' a') a

theorem wpAnyIn_of_mR (hnd : ∀ (j : Nat) (o : Oper) c, ops[j]? = some o → o.op ≠ .defer c) {Q : (World → Prop) → Act → Prop} {Q' : Exit → Act → World → Prop} (hQ : ∀ D a w, Q D a → D w → Q' .normal a w) (hP : ∀ a ch w, PP a.defers ch w → Q' (.panic ch) a w) :
    ∀ (fuel : Nat) (listed : Array Bool) (D : World → Prop) (a : Act) (w : World), (Good C D ∨ Region.ready .any ops listed = []) → D w → mAnyR rr PP P .any ops S C Q fuel listed D a → wpAnyIn (WF rr) 0 P .any ops Q' fuel listed a w
  | 0, _, _, _, _, _, hw, h => ⟨h.1, hQ _ _ _ h.2 hw⟩
  | fuel + 1, _, D, _, w, hg, hw, h => by
    refine ⟨fun h0 => hQ _ _ _ (h.1 h0) hw, fun i hi => ?_⟩
    have hg : Good C D := by
      rcases hg with hg | hg
      · exact hg
      · rw [hg] at hi; cases hi
    have h2 := h.2 i hi
    unfold mOpR at h2
    unfold wpOpIn
    split
    · rename_i ho; simp only [ho] at h2; exact wpAnyIn_of_mR hnd hQ hP fuel _ _ _ _ (.inl hg) hw h2
    · rename_i o ho
      simp only [ho] at h2
      split
      · rename_i hwt
        simp only [hwt, if_true] at h2
        split at h2
        · refine ⟨(h2 w hw).1, uponR_toQ hP (fun a' w' h' => ?_) (h2 w hw).2⟩
          obtain ⟨_, D', h4, h5, h6⟩ := h'
          rcases h4 with ⟨hl, hn⟩ | h4
          · exact wpAnyIn_of_mR hnd hQ hP fuel _ _ _ _ (.inr (last_done hl hn hi)) h5 h6
          · exact wpAnyIn_of_mR hnd hQ hP fuel _ _ _ _ (.inl h4) h5 h6
        · obtain ⟨v, h3, h4⟩ := h2
          have h5 := h3 w (hg.sub w hw)
          refine ⟨fun _ _ => trivial, ?_⟩
          rw [Oper.semAt_eq _ _ _ (fun c => hnd i o c ho)]
          generalize (execOp _ _).run P w = r at *
          cases r with
          | halt x w' => exact h5.elim
          | ok x w' =>
            cases x <;> simp only at h5 <;> simp only [Oper.uponIn]
            case value u => rw [h5.1, h5.2]; exact wpAnyIn_of_mR hnd hQ hP fuel _ _ _ _ (.inl hg) hw h4
            case skip => rw [h5.1, ← h5.2]; exact wpAnyIn_of_mR hnd hQ hP fuel _ _ _ _ (.inl hg) hw h4
            case enter f args =>
              rw [h5.1]
              refine ⟨(fun h => by cases h), callsIn_WF (h5.2.mono ?_)⟩
              rintro _ w'' ⟨rfl, hb⟩
              exact wpAnyIn_of_mR hnd hQ hP fuel _ _ _ _ (.inl hg) (hg.below _ _ hw hb) h4
      · rename_i hwt
        simp only [hwt] at h2
        exact ⟨fun _ _ => trivial, wpAnyIn_of_mR hnd hQ hP fuel _ _ _ _ (.inl hg) hw h2⟩

theorem YieldsM.opR {D : World → Prop} {i : Nat} {o : Oper} {v : Value} {a : Act} (hi : ops[i]? = some o) (hS : S.contains i = false) (hy : YieldsM P ops C o v a) {K : (World → Prop) → Act → Prop} (h : K D (a.put o.dst v)) : mOpR rr PP P ops S C D i K a := by
  unfold mOpR
  simp only [hi]
  rcases hy with ⟨hw, hv⟩ | ⟨hw, rfl⟩
  · simp only [hw, if_true, hS]; exact ⟨v, hv, h⟩
  · simp only [hw, Bool.false_eq_true, if_false]; exact h

theorem yieldsM_of_opR {D : World → Prop} {i : Nat} {o : Oper} {a : Act} {K : (World → Prop) → Act → Prop} (hi : ops[i]? = some o) (hS : S.contains i = false) (h : mOpR rr PP P ops S C D i K a) : ∃ v, YieldsM P ops C o v a ∧ K D (a.put o.dst v) := by
  unfold mOpR at h
  simp only [hi] at h
  by_cases hw : Region.wanted o (yielded ops a.tmps) = true
  · simp only [hw, if_true, hS] at h
    obtain ⟨v, h1, h2⟩ := h
    exact ⟨v, .inl ⟨hw, h1⟩, h2⟩
  · simp only [hw] at h
    exact ⟨undef, .inr ⟨by simpa using hw, rfl⟩, h⟩

theorem mOpR_put (hnd : ∀ (j : Nat) (o : Oper) c, ops[j]? = some o → o.op ≠ .defer c) {D : World → Prop} {j : Nat} {oi oj : Oper} {v : Value} (hj : ops[j]? = some oj) (hap : oi.apart ops oj = true)
    (hsi : ∀ cs b, oi.op ≠ .select cs b) (hsj : ∀ cs b, oj.op ≠ .select cs b) {K : (World → Prop) → Act → Prop} {a : Act}
    (hy : YieldsM P ops C oi v a) (h : mOpR rr PP P ops S C D j K (a.put oi.dst v)) :
    mOpR rr PP P ops S C D j (fun D' a' => YieldsM P ops C oi v a' ∧ K D' (a'.put oi.dst v)) a := by
  have hndj : ∀ c, oj.op ≠ .defer c := fun c => hnd j oj c hj
  obtain ⟨h1, h2, h3⟩ := Oper.apart_spec hap
  have keep : ∀ (a : Act), YieldsM P ops C oi v a → ∀ u, YieldsM P ops C oi v (a.put oj.dst u) := fun a hy u =>
    hy.of_same (execOp_put oi hsi a oj.dst u h3) (wanted_put oi a oj.dst u h3)
  unfold mOpR at *
  simp only [hj] at *
  rw [wanted_put oj a oi.dst v h1] at h
  split
  · rename_i hw
    simp only [hw, if_true] at h
    split
    · rename_i hs
      simp only [hs, if_true] at h
      intro w hD
      have h4 := (h w hD).2
      refine ⟨fun _ _ => trivial, ?_⟩
      rw [Oper.semAt_eq _ _ _ hndj] at h4 ⊢
      rw [execOp_put oj hsj a oi.dst v h1] at h4
      have hdef : ∀ (dd : Option Tmp) (u : Value) (a : Act), (a.put dd u).defers = a.defers := fun dd u a => by cases dd <;> rfl
      refine uponR_put (fun u w' h' => ?_) (fun x w' h' => ?_) h4
      · obtain ⟨e1, D', e2, e3, e4⟩ := h'
        exact ⟨by rw [hdef], D', e2, e3, keep a hy u, by rw [← Act.put_comm a v u h2]; exact e4⟩
      · have := h'.1
        rw [hdef] at this
        have := congrArg List.length this
        simp at this
    · rename_i hs
      simp only [hs] at h
      obtain ⟨u, hu, hn⟩ := h
      refine ⟨u, fun w hw' => ?_, keep a hy u, by rw [← Act.put_comm a v u h2]; exact hn⟩
      have := hu w hw'
      rwa [execOp_put oj hsj a oi.dst v h1] at this
  · rename_i hw
    simp only [hw] at h
    exact ⟨keep a hy _, by rw [← Act.put_comm a v undef h2]; exact h⟩

theorem mAnyR_first (hnd : ∀ (j : Nat) (o : Oper) c, ops[j]? = some o → o.op ≠ .defer c) {Q : (World → Prop) → Act → Prop} {i : Nat} {oi : Oper} {v : Value} (hi : ops[i]? = some oi) (hS : S.contains i = false) (hsel : ∀ (j : Nat) (o : Oper) cs b, ops[j]? = some o → o.op ≠ .select cs b) :
    ∀ (fuel : Nat) (listed : Array Bool) (D : World → Prop) (a : Act),
      (∀ j oj, ops[j]? = some oj → j ≠ i → listed.getD j true = false → (∀ e ∈ oj.after, Region.binds md e = true → e.on ≠ i) → oi.apart ops oj = true) →
      i ∈ Region.ready md ops listed → YieldsM P ops C oi v a →
      mAnyR rr PP P md ops S C Q fuel (listed.setIfInBounds i true) D (a.put oi.dst v) → mAnyR rr PP P md ops S C Q (fuel + 1) listed D a := by
  intro fuel
  induction fuel with
  | zero =>
    intro listed D a _ hr hy H
    refine ⟨fun h => (by rw [h] at hr; cases hr), fun j hj => ?_⟩
    by_cases hji : j = i
    · subst hji; exact hy.opR hi hS H
    · have := ready_mono hj hji
      rw [H.1] at this
      cases this
  | succ fuel ih =>
    intro listed D a hfree hr hy H
    refine ⟨fun h => (by rw [h] at hr; cases hr), fun j hj => ?_⟩
    by_cases hji : j = i
    · subst hji; exact hy.opR hi hS H
    · have h1 := H.2 j (ready_mono hj hji)
      obtain ⟨hjun, oj, hoj, hall⟩ := mem_ready.1 hj
      have hnot : ∀ e ∈ oj.after, Region.binds md e = true → e.on ≠ i := fun e he hb heq => by
        have h1 := hall e he hb
        have h0 := (mem_ready.1 hr).1
        rw [heq] at h1
        rcases Nat.lt_or_ge i listed.size with h' | h'
        · simp [h'] at h0 h1; rw [h0] at h1; cases h1
        · simp [Array.getElem?_eq_none h'] at h1
      have h2 := mOpR_put hnd hoj (hfree j oj hoj hji hjun hnot) (fun cs b => hsel i oi cs b hi) (fun cs b => hsel j oj cs b hoj) hy h1
      have hfree' : ∀ k ok, ops[k]? = some ok → k ≠ i → (listed.setIfInBounds j true).getD k true = false →
          (∀ e ∈ ok.after, Region.binds md e = true → e.on ≠ i) → oi.apart ops ok = true := fun k ok hk hki hun hno => by
        refine hfree k ok hk hki ?_ hno
        by_cases hjk : j = k
        · subst hjk; exact hjun
        · rw [getD_set_ne true hjk] at hun; exact hun
      refine mOpR_mono (fun D' a' h3 => ih (listed.setIfInBounds j true) D' a' hfree' (ready_mono hr (Ne.symm hji)) h3.1 ?_) h2
      rw [Array.setIfInBounds_comm _ _ hji]
      exact h3.2

/-- The lexical walk. -/
def wpMixR (rr : Option Nat) (PP : List Deferred → List PanicEntry → World → Prop) (P : Program) (ops : Array Oper) (S : List Nat) (C : World → Prop) (Q : (World → Prop) → Act → Prop) : List Oper → Nat → (World → Prop) → Act → Prop
  | [], _, D, a => Q D a
  | o :: rest, k, D, a => if Region.wanted o (yielded ops a.tmps) then
      if S.contains k then ∀ w, D w → o.wpIn (WF rr) 0 P a w (fun a' w' => a'.defers = a.defers ∧ ∃ D', Fine ops C k D' ∧ D' w' ∧ wpMixR rr PP P ops S C Q rest (k + 1) D' a') (QP PP)
      else ∃ v, quietM P C o a v ∧ wpMixR rr PP P ops S C Q rest (k + 1) D (a.put o.dst v)
    else wpMixR rr PP P ops S C Q rest (k + 1) D (a.put o.dst undef)

theorem mAnyR_lex {Q : (World → Prop) → Act → Prop} (hs : Region.noSelect ops = true) (hnd : noDefer ops = true) : ∀ (l : List Oper) (k : Nat) (listed : Array Bool) (D : World → Prop) (a : Act), (∀ j, l[j]? = ops[k + j]?) →
    mixFrom md ops S l.length k listed = true → wpMixR rr PP P ops S C Q l k D a → mAnyR rr PP P md ops S C Q l.length listed D a
  | [], _, _, _, _, _, hB, h => ⟨by simpa [mixFrom] using hB, h⟩
  | o :: l, k, listed, D, a, hl, hB, h => by
    have h0 : ops[k]? = some o := by simpa using (hl 0).symm
    simp only [List.length_cons, mixFrom, Bool.and_eq_true] at hB
    obtain ⟨hr, hB'⟩ := hB
    have hst : mOpR rr PP P ops S C D k (fun D' a' => wpMixR rr PP P ops S C Q l (k + 1) D' a') a := by unfold mOpR; simp only [h0]; exact h
    have hnext := fun D' a' (h : wpMixR rr PP P ops S C Q l (k + 1) D' a') => mAnyR_lex (Q := Q) hs hnd l (k + 1) (listed.setIfInBounds k true) D' a' (fun j => by have := hl (j + 1); simpa [Nat.add_assoc, Nat.add_comm 1 j] using this) hB' h
    cases hS : S.contains k with
    | true =>
      rw [hS] at hr
      have hr' : Region.ready md ops listed = [k] := by simpa using hr
      refine ⟨fun h => (by rw [hr'] at h; cases h), fun i hi => ?_⟩
      rw [hr'] at hi
      have : i = k := by simpa using hi
      subst this
      exact mOpR_mono hnext hst
    | false =>
      rw [hS] at hr
      simp only [Bool.false_eq_true, if_false, Bool.and_eq_true] at hr
      obtain ⟨v, hy, hK⟩ := yieldsM_of_opR h0 hS hst
      exact mAnyR_first (noDefer_spec hnd) h0 hS (Region.noSelect_spec hs) l.length listed D a (Region.free_spec h0 hr.2) (by simpa using hr.1) hy (hnext _ _ hK)

theorem wpIn_region_mixR {id : Nat} {Q : Exit → Act → World → Prop} {a : Act} {w : World} {l : List Oper} (S : List Nat) (C D : World → Prop) (hm : P.follows .mixedOrders = true) (hB : mixB .any l.toArray S = true) (hg : Good C D)
    (hP : ∀ a ch w, PP a.defers ch w → Q (.panic ch) a w)
    (hD : D { w with drawn := w.drawn + 1 }) (h : wpMixR rr PP P l.toArray S C (fun D a' => ∀ w', D w' → Q .normal a' w') l 0 D a) : (Code.region id l.toArray true).wpIn (WF rr) 0 P Q a w := by
  simp only [mixB, Bool.and_eq_true] at hB
  refine wpIn_region_any hm (wpAnyIn_of_mR (S := S) (noDefer_spec hB.1.2) (Q := fun D a' => ∀ w', D w' → Q .normal a' w') (fun D a w h hw => h w hw) hP _ _ D _ _ (.inl hg) hD ?_)
  have := mAnyR_lex (rr := rr) (PP := PP) (P := P) (C := C) (md := .any) (S := S) hB.1.1 hB.1.2 l 0 (Array.replicate l.toArray.size false) D a (by simp) (by simpa using hB.2) h
  simpa using this

theorem wpMixR_of_quiet {Q : Act → Prop} {Q' : (World → Prop) → Act → Prop} {D : World → Prop} (h : ∀ a, Q a → Q' D a) : ∀ (l : List Oper) (k : Nat) (a : Act), wpQM P ops C Q l a → wpMixR rr PP P ops [] C Q' l k D a
  | [], _, a, hq => h a hq
  | o :: l, k, a, hq => by
    simp only [wpQM] at hq
    simp only [wpMixR, List.contains_nil, Bool.false_eq_true, if_false]
    split
    · rename_i hw
      simp only [hw, if_true] at hq
      obtain ⟨v, h1, h2⟩ := hq
      exact ⟨v, h1, wpMixR_of_quiet h l _ _ h2⟩
    · rename_i hw
      simp only [hw] at hq
      exact wpMixR_of_quiet h l _ _ hq

end mixedR

def PPx (x : Cx) (ds : List Deferred) (ch : List PanicEntry) (w : World) : Prop := ∀ a : Act, a.defers = ds → x.Q (.panic ch) a w
abbrev Cx.nxR (x : Cx) : Cx := ⟨x.P, x.r, x.w0, QP (PPx x)⟩

def TMR (x : Cx) (S : List Nat) (k : Nat) (ops : Array Oper) (rest : List Oper) (ks : List KI) (E : Env) (Hb H : List Seg) : Prop :=
  ∀ a, E.ok a → (∃ w, St x.w0 Hb w) → wpMixR x.r (PPx x) x.P ops S (St x.w0 Hb) (fun D a' => ∀ w', D w' → Qk x ks .normal a' w') rest k (St x.w0 H) a
def MJR (x : Cx) (S : List Nat) (k : Nat) (ops : Array Oper) (rest : List Oper) (ks : List KI) (ds : List Deferred) (Hb : List Seg) (a : Act) (w : World) : Prop :=
  a.defers = ds ∧ ∃ D', Fine ops (St x.w0 Hb) (k - 1) D' ∧ D' w ∧ wpMixR x.r (PPx x) x.P ops S (St x.w0 Hb) (fun D a' => ∀ w', D w' → Qk x ks .normal a' w') rest k D' a

section
variable {x : Cx} {S : List Nat} {k : Nat} {ops : Array Oper} {rest : List Oper} {ks : List KI} {E : Env} {Hb H : List Seg}

theorem t_regMR {id : Nat} {l : List Oper} (S : List Nat) (Hb : List Seg) (hm : x.P.follows .mixedOrders = true) (hB : mixB .any l.toArray S = true) [SubH Hb H] (h : TMR x S 0 l.toArray l ks E Hb H) : T x ks (.region id l.toArray true) E H := by
  intro a w e s
  exact wpIn_region_mixR S (St x.w0 Hb) (St x.w0 H) hm hB st_good (fun a ch w hp => by rw [Qk_panic]; exact hp a rfl) s.drew (h a e ⟨w, s.sub⟩)
theorem t_regDR {id : Nat} {l : List Oper} (hm : x.P.follows .mixedOrders = true) (hB : mixB .any l.toArray [] = true) (h : TO x true l.toArray l ks E H) : T x ks (.region id l.toArray true) E H := by
  intro a w e s
  exact wpIn_region_mixR [] (St x.w0 H) (St x.w0 H) hm hB ⟨fun _ _ h hb => h.below hb, fun _ h => h⟩ (fun a ch w hp => by rw [Qk_panic]; exact hp a rfl) s.drew (wpMixR_of_quiet (PP := PPx x) (fun a' h' => h') l 0 a (h a e))

theorem tmr_nil (h : TX x .normal ks E H) : TMR x S k ops [] ks E Hb H := fun a e _ w s => h a w e s
theorem tmr_q {o : Oper} (E' : Env) (hS : S.contains k = false) (hq : TO x.nx true ops [o] [.inv (fun a _ => E'.ok a)] E Hb) (h : TMR x S (k + 1) ops rest ks E' Hb H) : TMR x S k ops (o :: rest) ks E Hb H := by
  intro a e hne
  have h1 := hq a e
  have ⟨w, hw⟩ := hne
  simp only [wpQM] at h1
  simp only [wpMixR, hS, Bool.false_eq_true, if_false]
  split
  · rename_i hwt
    simp only [hwt, if_true] at h1
    obtain ⟨v, h2, h3⟩ := h1
    exact ⟨v, h2, h _ (h3 w hw) hne⟩
  · rename_i hwt
    simp only [hwt] at h1
    exact h _ (h1 w hw) hne
theorem tmrq_end {E : Env} {x : Cx} {ops : Array Oper} {H : List Seg} : TO x true ops [] [.inv (fun a _ => E.ok a)] E H := fun _ e _ _ => e
theorem tmr_s {o : Oper} (hS : S.contains k = true) (hs : TO x.nxR false ops [o] [.inv (MJR x S (k + 1) ops rest ks E.ds Hb)] E H) (hnd : ∀ c, o.op ≠ .defer c) (hg : o.guard = none) : TMR x S k ops (o :: rest) ks E Hb H := by
  intro a e hne
  have hw : Region.wanted o (yielded ops a.tmps) = true := by unfold Region.wanted; rw [hg]
  simp only [wpMixR, hS, hw, if_true]
  intro w s
  have h1 := hs a w e s
  simp only [wpListIn, hw, if_true] at h1
  refine ⟨fun _ _ => trivial, ?_⟩
  have h2 := h1.2
  have h2' : o.uponIn (WF x.r) 0 x.P a (MJR x S (k + 1) ops rest ks E.ds Hb) (Exit.then (MJR x S (k + 1) ops rest ks E.ds Hb) (QP (PPx x))) ((o.semAt x.r a.eval).run x.P w) := h2
  have hL : LetsOut (Exit.then (MJR x S (k + 1) ops rest ks E.ds Hb) (QP (PPx x))) → LetsOut (QP (PPx x)) := fun ⟨_, _, h⟩ => ⟨a, w, h⟩
  have h3 : o.uponIn (WF x.r) 0 x.P a (MJR x S (k + 1) ops rest ks E.ds Hb) (QP (PPx x)) ((o.semAt x.r a.eval).run x.P w) := by
    generalize (o.semAt x.r a.eval).run x.P w = r at h2'
    unfold Oper.uponIn at *
    split <;> simp only at h2'
    · exact h2'
    · exact h2'
    · exact h2'
    · exact ⟨h2'.1, h2'.2.mono fun e w' he => by
        cases e with
        | returned v => exact he
        | panicked c => exact he
        | outgrown => exact hL he⟩
    · exact h2'
    · exact ⟨h2'.1, h2'.2.mono fun e w' he => by
        cases e with
        | returned v => exact he
        | panicked c => exact he
        | outgrown => exact hL he⟩
    · exact h2'
  refine uponR_mono (fun a' w' h' => ?_) h3
  obtain ⟨h4, D', h5, h6, h7⟩ := h'
  exact ⟨h4.trans e.ds.symm, D', h5, h6, h7⟩
theorem tmr_se {ds : List Deferred} [SubH Hb H] (hds : E.ds = ds) (h : TMR x S k ops rest ks E Hb H) : TO x.nxR false ops [] [.inv (MJR x S k ops rest ks ds Hb)] E H := fun a w e s =>
  ⟨e.ds.trans hds, St x.w0 H, .inr st_good, s, h a e ⟨w, s.sub⟩⟩
theorem tmr_sl {ds : List Deferred} (hl : lastB ops = true) (hk : Nat.beq k ops.size = true) (hds : E.ds = ds) (h : TX x .normal ks E H) : TO x.nxR false ops [] [.inv (MJR x S k ops [] ks ds Hb)] E H := fun a w e s =>
  ⟨e.ds.trans hds, St x.w0 H, .inl ⟨hl, by have := Nat.eq_of_beq_eq_true hk; have h0 : 0 < ops.size := (by unfold lastB at hl; rcases Nat.eq_zero_or_pos ops.size with h0 | h0; (rw [h0] at hl; rw [Array.getElem?_eq_none (by omega)] at hl; cases hl); exact h0); omega⟩, s, fun w' hw' => h a w' e hw'⟩
end
end Go.Sx



namespace Go.Sx
open Go Go.RowKit
open Go.ChangeMaps (setBlock)

section
variable {x : Cx} {d : Bool} {ops : Array Oper} {rest : List Oper} {ks : List KI} {n : Nat} {m : List (Nat × Value)} {ds : List Deferred} {H H2 : List Seg}
variable {ty : TypeId} {pos : String} {aft : Array Edge} {dd : Nat}

theorem to_insN {t kt et b1 b2 b3 : TypeId} {zz zk : List ZV} {y i z : Operand} {r : Nat} {q : Int} {v1 v2 : Int} {G : Int → Option Sp} (hy : ev m y = some (.map (some r))) (hi : ev m i = some (.int .i64 q)) (hz : ev m z = some (spV (v1, v2)))
    [ho : OwnAt r H (isN G) H2] [ht : Ty x.P t ⟨.map kt et, b1, b2, zz⟩] [hk : Ty x.P kt ⟨.int .i64, 1, b3, zk⟩]
    (h : TO x false ops rest ks ⟨n, m, ds⟩ (.own r (isN (updO G q (v1, v2))) :: H2)) : TO x false ops (⟨none, .insert t y i z, ty, pos, aft, none⟩ :: rest) ks ⟨n, m, ds⟩ H :=
  to_step0 (fun _ h => by cases h) (fun a w e s => by
    have s2 := s.perm ho.perm
    obtain ⟨o, h1, l, c, h2, hok⟩ := s.own_at (b := r)
    simp only [isNE] at h2; subst h2
    obtain ⟨r', h5, h6⟩ := findNow_N (kk := .i64) (l := l) q 0
    have fin : ∀ l' c', OkN l' c' (updO G q (v1, v2)) → ∃ w', (setObj r (.map (l'.map mkE).toArray c')).run x.P w = .ok () w' ∧ ∃ H', St x.w0 H' w' ∧ TO x false ops rest ks ⟨n, m, ds⟩ H' := fun l' c' hok' => by
      obtain ⟨w', r1, r2, r3, r4, r5, r6, r7⟩ := run_setObj (P := x.P) (o := .map (l'.map mkE).toArray c') h1
      exact ⟨w', r1, _, s2.upd r5 r6 r7 r3 (fun k hk => r4 k (by simp [Seg.lo, Seg.hi] at hk; omega)) (s' := .own r (isN (updO G q (v1, v2)))) rfl rfl ⟨_, r2, l', c', rfl, hok'⟩, h⟩
    match r', h5, h6 with
    | none, h5, h6 =>
      have hne := lget_none h6
      obtain ⟨w', hw, hres⟩ := fin (l ++ [(q, (v1, v2), c)]) (c + 1) ⟨by
          rw [List.map_append, List.nodup_append]
          exact ⟨hok.keys, by simp, fun a ha b hb => by
            simp at hb; subst hb
            obtain ⟨e', he', rfl⟩ := List.mem_map.1 ha
            exact hne e' he'⟩,
        by
          rw [List.map_append, List.nodup_append]
          exact ⟨hok.borns, by simp, fun a ha b hb => by
            simp at hb; subst hb
            obtain ⟨e', he', rfl⟩ := List.mem_map.1 ha
            exact Nat.ne_of_lt (hok.lt e' he')⟩,
        fun e' he' => by
          rcases List.mem_append.1 he' with he' | he'
          · exact Nat.lt_succ_of_lt (hok.lt e' he')
          · simp at he'; subst he'; exact Nat.lt_succ_self _,
        fun k => by
          simp only [updO]
          by_cases hkq : k = q
          · subst hkq
            rw [if_pos rfl, lget_app hne]; simp [lget]
          · rw [if_neg hkq, ← hok.get]
            exact lget_end hkq⟩
      refine ⟨w', ?_, hres⟩
      simp only [execOp]; rw [e.ev hy, e.ev hi, e.ev hz]
      have hpush : (l.map mkE).toArray.push { key := .int .i64 q, val := spV (v1, v2), born := c } = ((l ++ [(q, (v1, v2), c)]).map mkE).toArray := by
        apply Array.toList_inj.1; simp [mkE]
      simp only [Instr.mapUpdate, Sem.run_bind, run_underlying ht.map, Result.andThen, run_getObj h1, run_checkKey, Instr.findKey, run_underlying hk.int, h5, run_ok, hpush, hw]
    | some (j, u), h5, ⟨p, e1, q', h7, h8, h9, _, h10⟩ =>
      have hkey : (((l.map mkE).toArray[j]?).map (·.key)).getD (.int .i64 q) = .int .i64 q := by
        rw [h7, h8]; simp [mkE, h9]
      have hmod : (l.map mkE).toArray.modify j (fun e => { e with key := .int .i64 q, val := spV (v1, v2) }) = ((p ++ (q, (v1, v2), e1.2.2) :: q').map mkE).toArray := by
        apply Array.toList_inj.1
        rw [Array.toList_modify, h7, h8, Nat.zero_add]
        simp only [List.map_append, List.map_cons]
        have := modify_mid (p.map mkE) (q'.map mkE) (mkE e1) (fun e => { e with key := .int .i64 q, val := spV (v1, v2) })
        rw [List.length_map] at this
        rw [this]; rfl
      have hkeys : ((p ++ (q, (v1, v2), e1.2.2) :: q').map (·.1)) = l.map (·.1) := by rw [h7]; simp [h9]
      have hborns : ((p ++ (q, (v1, v2), e1.2.2) :: q').map (·.2.2)) = l.map (·.2.2) := by rw [h7]; simp
      have hpne : ∀ e ∈ p, e.1 ≠ q := fun e' he' hh => by
        have hk1 := hok.keys
        rw [h7, List.map_append, List.nodup_append] at hk1
        exact hk1.2.2 e'.1 (List.mem_map.2 ⟨e', he', rfl⟩) e1.1 (by simp) (hh.trans h9.symm)
      obtain ⟨w', hw, hres⟩ := fin (p ++ (q, (v1, v2), e1.2.2) :: q') c ⟨by rw [hkeys]; exact hok.keys, by rw [hborns]; exact hok.borns, fun e' he' => by
          rcases List.mem_append.1 he' with he' | he'
          · exact hok.lt e' (by rw [h7]; exact List.mem_append_left _ he')
          · rcases List.mem_cons.1 he' with rfl | he'
            · exact hok.lt e1 (by rw [h7]; simp)
            · exact hok.lt e' (by rw [h7]; exact List.mem_append_right _ (List.mem_cons_of_mem _ he')),
        fun k => by
          simp only [updO]
          by_cases hkq : k = q
          · subst hkq
            rw [if_pos rfl, lget_app hpne]; simp [lget]
          · rw [if_neg hkq, ← hok.get, h7]
            exact lget_mid hkq (fun hh => hkq (hh.trans h9))⟩
      have hks : ∀ w, (Instr.keyThatStays (.int .i64 q) (.int .i64 q)).run x.P w = .ok (.int .i64 q) w := fun w => by
        have : Instr.sameBits 10000 (.int .i64 q) (.int .i64 q) = true := by simp [Instr.sameBits]
        simp only [Instr.keyThatStays, this, if_true, run_ok]
      refine ⟨w', ?_, hres⟩
      simp only [execOp]; rw [e.ev hy, e.ev hi, e.ev hz]
      simp only [Instr.mapUpdate, Sem.run_bind, run_underlying ht.map, Result.andThen, run_getObj h1, run_checkKey, Instr.findKey, run_underlying hk.int, h5, run_ok, hkey, hks, hmod, hw])

/-- An array that is built of scalars but for the first. -/
theorem to_ba1 {t e b1 b2 len b3 : TypeId} {ek : TK} {zz ez : List ZV} {l : List (Nat × Operand)} {ps : List (Nat × Value)} {b0 : Value} {base vs : List Value} (hl : evp m l = some ps) [ht : Ty x.P t ⟨.array len e, b1, b2, zz⟩] [he : Ty x.P e ⟨ek, 1, b3, ez⟩] [hz : ZVals zz (b0 :: base)]
    [hr : SclOf ps 1 vs] (hlen : Nat.beq vs.length base.length = true) (hd : Nat.blt dd n = true)
    (h : TO x d ops rest ks ⟨n, (dd, .agg (b0 :: vs).toArray) :: m, ds⟩ H) : TO x d ops (⟨some dd, .build t l.toArray, ty, pos, aft, none⟩ :: rest) ks ⟨n, m, ds⟩ H :=
  to_pure _ (fun _ h => by cases h) (fun a w e s => by
    obtain ⟨rows, hr1, hr2, hr3⟩ := hr.eq
    obtain ⟨v, g1, g2, g3⟩ := run_zeroValue (P := x.P) (w := w) (t := t) (vs := b0 :: base)
    have hps := e.evp hl
    have hmap : l.toArray.map (fun (p : Nat × Operand) => (p.1, a.eval p.2)) = ps.toArray := by
      rw [List.map_toArray, hps]
    have hfill : Instr.fill (fun i => some (i * 1, 1)) (b0 :: base).toArray ps = some (b0 :: vs).toArray := by
      have hlen2 : vs.length = rows.length := by rw [hr3]; exact (flatten_len (sz := 1) hr2).trans (Nat.mul_one _)
      have := fill_rows (sz := 1) rows [[b0]] base ps hr2 (fun r h => by rw [List.mem_singleton.1 h]; rfl) (by rw [Nat.mul_one, ← hlen2]; exact (Nat.eq_of_beq_eq_true hlen).symm) (by simpa using hr1.eq.1) hr1.eq.2
      rw [hr3]
      simpa using this
    simp only [execOp]
    rw [show (fun (x : Nat × Operand) => match x with | (i, x) => (i, a.eval x)) = (fun (p : Nat × Operand) => (p.1, a.eval p.2)) from rfl, hmap]
    simp only [Instr.build, Sem.run_bind, g1, g2, Result.andThen, run_underlying ht.array, he.sizeOf, hfill]
    rfl) hd h

end
end Go.Sx



namespace Go.Sx
open Go Go.RowKit

/-! ### Functions whose loops range over functions: a mark a round -/

def dfs (Ds : List Nat) : List Seg := Ds.map fun D => .own D isDf
def marks (Ds : List Nat) : List Deferred := Ds.map mark
class MarkAt (Ds : List Nat) (H : List Seg) (H2 : outParam (List Seg)) : Prop where
  perm : H.Perm (dfs Ds ++ H2)
instance MarkAt.nil (H : List Seg) : MarkAt [] H H := ⟨.refl _⟩
instance MarkAt.here (Ds : List Nat) : MarkAt Ds (dfs Ds) [] := ⟨by simp⟩
instance MarkAt.there (Ds : List Nat) (s : Seg) (H H2 : List Seg) [h : MarkAt Ds H H2] : MarkAt Ds (s :: H) (s :: H2) := ⟨(h.perm.cons s).trans List.perm_middle.symm⟩

section loops
variable {x : Cx} {ks : List KI} {H : List Seg}
def LoopEndD {ι : Type} (w0 : World) (n : Nat) (DS : ι → List Deferred) (I : ι → Prop) (M : ι → List (Nat × Value)) (S : ι → List Seg) (μ : ι → Nat) (i : ι) (a : Act) (w : World) : Prop :=
  ∃ j, I j ∧ μ j < μ i ∧ Env.ok ⟨n, M j, DS j⟩ a ∧ St w0 (S j) w
theorem t_loopD {ι : Type} {n : Nat} {m : List (Nat × Value)} {ds : List Deferred} {c : Code} (DS : ι → List Deferred) (I : ι → Prop) (M : ι → List (Nat × Value)) (S : ι → List Seg) (μ : ι → Nat) (i0 : ι) (H0 : List Seg) (hH : S i0 = H0) (h0 : I i0) (hd : DS i0 = ds)
    (hm : AllLk m (M i0)) [hs : SubH H0 H] (round : ∀ i, I i → T x (.inv (LoopEndD x.w0 n DS I M S μ i) :: ks) c ⟨n, M i, DS i⟩ (S i)) : T x ks (.loop c) ⟨n, m, ds⟩ H := by
  subst hH; subst hd
  intro a w e s
  refine wpIn_loopI (fun i a w => I i ∧ Env.ok ⟨n, M i, DS i⟩ a ∧ St x.w0 (S i) w) μ i0 ⟨h0, e.sub hm, s.sub⟩ ?_
  rintro i a w ⟨hi, he, hs⟩
  refine wpIn_mono (round i hi a w he hs) ?_
  intro e' a' w' hq
  cases e' with
  | normal =>
    obtain ⟨j, hj, hlt, hej, hsj⟩ := hq
    exact ⟨j, ⟨hj, hej, hsj⟩, hlt⟩
  | _ => exact hq
theorem tn_loopD {ι : Type} {n : Nat} {m : List (Nat × Value)} {ds : List Deferred} {DS : ι → List Deferred} {I : ι → Prop} {M : ι → List (Nat × Value)} {S : ι → List Seg} {μ : ι → Nat} {i : ι} (j : ι) (H' : List Seg) (hH : S j = H') (hj : I j) (hlt : μ j < μ i) (hd : DS j = ds)
    (hm : AllLk m (M j)) [SubH H' H] : TX x .normal (.inv (LoopEndD x.w0 n DS I M S μ i) :: ks) ⟨n, m, ds⟩ H := by
  subst hH; subst hd
  exact fun _ _ e s => ⟨j, hj, hlt, e.sub hm, s.sub⟩
end loops

/-- A round's end, where the round says yes or gives up. -/
theorem t_rendX {P : Program} {l B : Nat} {w : World} {E : Env} {H H2 : List Seg} {K : LKey} {F : List PanicEntry → World → Prop} {S'' : List Seg} (S' : List Seg) (hS : S'' = S') [h : OwnAt l H (isLp K .busy none) H2] [hs : SnapAt w H2 B w.heap.size] [hsub : SubH S' H2]
    (hh : ∀ s ∈ S', s.hi ≤ B) (hl : l < B) : TX ⟨P, some l, w, roundPost P l (ItX (.bool true) B (StB B (.own l (isLp K .ready none) :: S'')) F w)⟩ .normal [] E H := fun a w' e s => by
  subst hS
  obtain ⟨o, h1, fn, tmps, df, rfl, h3⟩ := s.own_at (b := l)
  have s2 := s.put h1 (q := isLp K .ready none) (o := .loop { state := .ready, pending := none, fn, tmps, params := #[K.p], assign := K.asg, body := K.body, defers := df }) ⟨fn, tmps, df, rfl, h3⟩
  haveI : SnapAt w (.own l (isLp K .ready none) :: H2) B w.heap.size := ⟨List.mem_cons_of_mem _ hs.mem⟩
  haveI : SubH (.own l (isLp K .ready none) :: S'') (.own l (isLp K .ready none) :: H2) := inferInstance
  refine ⟨_, _, run_endRound none h1, keep_of s2, .inl ⟨rfl, s2.toB ?_⟩⟩
  intro z hz
  rcases List.mem_cons.1 hz with rfl | hz
  · exact hl
  · exact hh z hz

section rets
variable {P : Program} {fn : Func} {w : World} {R : Nat → World → Value → Prop} {ks : List KI} {n : Nat} {m : List (Nat × Value)} {H H2 : List Seg}
theorem body_retMs {Ds : List Nat} {v : Value} [hD : MarkAt Ds H H2] [hmem : SnapAt w H2 0 w.heap.size] (hrun : ∀ a w', Env.ok ⟨n, m, marks Ds⟩ a → St w H2 w' → (results fn a.tmps).run P w' = .ok v w')
    (hR : ∀ w', St w H2 w' → R w.heap.size w' v) : ∀ a w', Env.ok ⟨n, m, marks Ds⟩ a → St w H w' → bodyPostM (WF none) 0 P fn (Ret w R) .ret a w' := by
  intro a w' e s
  show LeavesInM (WF none) 0 P fn a.tmps (Ret w R) a.defers .returning w'
  rw [e.ds]
  have key : ∀ (Ds : List Nat) (w' : World), St w (dfs Ds ++ H2) w' → LeavesInM (WF none) 0 P fn a.tmps (Ret w R) (marks Ds) .returning w' := by
    intro Ds
    induction Ds with
    | nil =>
      intro w' s
      exact ⟨v, hrun a _ e s, v, rfl, St.below0 s hmem.mem, hR _ s⟩
    | cons D Ds ih =>
      intro w' s
      obtain ⟨o, h1, h2⟩ := s.ok (.own D isDf) (List.mem_cons_self ..)
      simp only [isDf] at h2
      subst h2
      have s2 : St w (.own D (fun _ => True) :: (dfs Ds ++ H2)) (w'.putObj D (.deferred none)) := by
        refine St.upd (s := .own D isDf) s rfl rfl rfl World.putObj_size (fun k hk => World.putObj_heap_other (by simp [Seg.lo, Seg.hi] at hk; omega)) rfl rfl ⟨_, World.putObj_heap_same (Array.getElem?_eq_some_iff.1 h1).1, trivial⟩
      exact ⟨by simp, .inl ⟨D, _, rfl, run_takeDeferred h1, ih _ s2.tail⟩⟩
  exact key Ds w' (s.perm hD.perm)
theorem t_ret1Ms {Ds : List Nat} [hD : MarkAt Ds H H2] [hmem : SnapAt w H2 0 w.heap.size] {r1 : ResultVar} {v1 : Value} (hr : fn.results = #[r1]) (h1 : ResOk P w ⟨n, m, marks Ds⟩ H2 r1 v1) (hR : ∀ w', St w H2 w' → R w.heap.size w' v1) :
    T ⟨P, none, w, bodyPostM (WF none) 0 P fn (Ret w R)⟩ ks .ret ⟨n, m, marks Ds⟩ H :=
  t_ret (body_retMs (Ds := Ds) (fun a w' e s => run_results (l := [r1]) (vs := [v1]) hr rfl (fun i r' v' h h' => by
    match i with
    | 0 => cases h; cases h'; exact h1 a w' e s
    | i + 1 => simp at h)) hR)
theorem t_ret2Ms {Ds : List Nat} [hD : MarkAt Ds H H2] [hmem : SnapAt w H2 0 w.heap.size] {r1 r2 : ResultVar} {v1 v2 : Value} (hr : fn.results = #[r1, r2]) (h1 : ResOk P w ⟨n, m, marks Ds⟩ H2 r1 v1) (h2 : ResOk P w ⟨n, m, marks Ds⟩ H2 r2 v2) (hR : ∀ w', St w H2 w' → R w.heap.size w' (.tuple #[v1, v2])) :
    T ⟨P, none, w, bodyPostM (WF none) 0 P fn (Ret w R)⟩ ks .ret ⟨n, m, marks Ds⟩ H :=
  t_ret (body_retMs (Ds := Ds) (fun a w' e s => run_results (l := [r1, r2]) (vs := [v1, v2]) hr rfl (fun i r' v' h h' => by
    match i with
    | 0 => cases h; cases h'; exact h1 a w' e s
    | 1 => cases h; cases h'; exact h2 a w' e s
    | i + 2 => simp at h)) hR)
end rets
end Go.Sx


namespace Go.Sx
open Go Go.RowKit

/-! ### What comes of something that gives up with a list, or with a text -/

inductive Out2 where
  | ok | fd (a : Option Addr) (n c : Nat) | no (s : ByteArray)
def Out2.er : Out2 → Int
  | .ok => 5
  | .fd _ _ _ => 0
  | .no _ => 4
def Out2.e0 : Out2 → Int
  | .ok => 5
  | _ => 0
def Out2.sl : Out2 → Value
  | .fd a n c => .slice a n c
  | _ => .slice none 0 0
/-- tf, tn: the two types with which one gives up. -/
def outE2 (tf tn : TypeId) : Out2 → Ending → Prop
  | .ok, e => e = .returned (.tuple #[])
  | .fd a n c, e => e = .panicked (pan tf (.agg [.slice a n c].toArray))
  | .no s, e => e = .panicked (pan tn (.agg [.string s].toArray))
def DoPost2 (tf tn B : Nat) (p : Out2 → World → Prop) (w : World) : Ending → World → Prop := fun e w' => ∃ o, outE2 tf tn o e ∧ Keep B w w' ∧ p o w'
def Out2.mode (tf tn : TypeId) : Out2 → FrameMode
  | .ok => .returning
  | .fd a n c => .panicking (pan tf (.agg [.slice a n c].toArray))
  | .no s => .panicking (pan tn (.agg [.string s].toArray))
def AttPost2 (B : Nat) (p : Out2 → World → Prop) (w : World) : Ending → World → Prop := fun e w' => ∃ o : Out2, e = .returned (.tuple #[o.sl, .int .i64 o.er]) ∧ Keep B w w' ∧ p o w'
end Go.Sx


namespace Go.Sx
open Go Go.RowKit

theorem wpK_block {P : Program} {f0 : FuncId} {id : Nat} {c : Code} {Q : Exit → Act → World → Prop} {a : Act} {w : World} (h : wpK P f0 c (Exit.inBlock id Q) a w) : wpK P f0 (.block id c) Q a w := by
  intro b k cs hro hbf
  have hr := room_WF (r := none) (cs.length + 1 + 0)
  have hb : (WF none).fn b.fn := trivial
  have h0 : (lone (b.atR a (.code (.block id c) :: k)) cs w).fenced P (WF none) := fenced_calm hb hr rfl
  obtain ⟨e, a₁, w₁, hq, harr⟩ := h b (.inBlock id :: k) cs hro hbf
  cases e with
  | normal => exact ⟨.normal, a₁, w₁, hq, .head h0 stepR_block (StepsIn.trans harr (.one (fenced_calm hb hr rfl) stepR_inBlock))⟩
  | exit id' =>
    by_cases hid : id' = id
    · simp only [Exit.inBlock, hid, if_true] at hq
      exact ⟨.normal, a₁, w₁, hq, .head h0 stepR_block (harr.1 k (by simp [exitTo, hid]))⟩
    · simp only [Exit.inBlock, hid, if_false] at hq
      have this : (id == id') = false := by simp; exact fun h => hid h.symm
      have hx : exitTo id' (.inBlock id :: k) = exitTo id' k := by simp [exitTo, this]
      exact ⟨.exit id', a₁, w₁, hq, fun k' hk => .head h0 stepR_block (harr.1 k' (by rw [hx]; exact hk)),
        fun hr' hk => let ⟨k₁, h1, h2⟩ := harr.2 hr' (by rw [hx]; exact hk); ⟨k₁, h1, .head h0 stepR_block h2⟩⟩
  | goto l =>
    have hx : gotoIn l (.inBlock id :: k) = gotoIn l k := by simp [gotoIn]
    exact ⟨_, a₁, w₁, hq, fun k' hk => .head h0 stepR_block (harr.1 k' (by rw [hx]; exact hk)),
      fun hr' hk => let ⟨k₁, h1, h2⟩ := harr.2 hr' (by rw [hx]; exact hk); ⟨k₁, h1, .head h0 stepR_block h2⟩⟩
  | ret => exact ⟨_, a₁, w₁, hq, .of_steps (.one h0 stepR_block) harr⟩
  | panic ch => exact ⟨_, a₁, w₁, hq, .of_steps (.one h0 stepR_block) harr⟩
  | outgrown => exact ⟨_, a₁, w₁, hq, .of_steps (.one h0 stepR_block) harr⟩
theorem tk_block {P : Program} {f0 : FuncId} {w0 : World} {Q : Exit → Act → World → Prop} {id : Nat} {c : Code} {E : Env} {H : List Seg} (h : Tkn P f0 w0 (Exit.inBlock id Q) c E H) : Tkn P f0 w0 Q (.block id c) E H := fun a w e s => wpK_block (h a w e s)

theorem Ro.put {w : World} {lo hi D : Nat} {a : Option Addr} {n cap sz : Nat} {xs : List (List Value)} {x : Option (List Deferred)} {o : Obj} (h : Ro w lo hi a n cap sz xs) (hD : w.heap[D]? = some (.deferred x)) : Ro (w.putObj D o) lo hi a n cap sz xs := by
  refine ⟨h.len, h.each, h.le, ?_⟩
  rcases h.here with h0 | ⟨ad, h1, h2, h3, h4, h5⟩
  · exact .inl h0
  · refine .inr ⟨ad, h1, h2, h3, h4, fun i x hx j v hv => ?_⟩
    have hc := h5 i x hx j v hv
    have hne : ad.block ≠ D := by
      intro hh
      subst hh
      simp [World.cell?, hD] at hc
    simp only [World.cell?, World.putObj_heap_other hne] at hc ⊢
    exact hc

/-- Of what a call has made, one map is kept. -/
theorem St.snapN {w0 w w1 : World} {H H2 : List Seg} {lo hi r c : Nat} {l : List En} (s : St w0 H w) [hp : Pick (.snap lo hi w1) H H2] (h : NB w1 lo hi r l c) : St w0 (.own r (isNE l c) :: H2) w := by
  have s2 := s.perm hp.perm
  have h1 := s2.ok _ (List.mem_cons_self ..)
  have hap := List.pairwise_cons.1 s2.apart
  have hle := s2.le _ (List.mem_cons_self ..)
  have hl := h.lo
  have hh := h.hi
  refine ⟨s.os, s.tape, s.output, s.ge, ?_, ?_, ?_⟩
  · intro t ht
    rcases List.mem_cons.1 ht with rfl | ht
    · simp only [Seg.hi] at hle ⊢; omega
    · exact s2.le _ (List.mem_cons_of_mem _ ht)
  · intro t ht
    rcases List.mem_cons.1 ht with rfl | ht
    · exact ⟨_, (h1 r h.lo h.hi).trans h.here, rfl⟩
    · exact s2.ok _ (List.mem_cons_of_mem _ ht)
  · refine List.pairwise_cons.2 ⟨fun t ht => ?_, hap.2⟩
    rcases hap.1 t ht with h3 | h3
    · left; simp only [Seg.hi] at h3 ⊢; omega
    · right; simp only [Seg.lo] at h3 ⊢; omega
theorem tx_snapN {x : Cx} {ks : List KI} {e : Exit} {E : Env} {H H2 : List Seg} {lo hi r c : Nat} {w1 : World} {l : List En} (h : NB w1 lo hi r l c) [hp : Pick (.snap lo hi w1) H H2] (k : TX x e ks E (.own r (isNE l c) :: H2)) : TX x e ks E H := fun a w ea s => k a w ea (s.snapN h)
theorem tk_fact {P : Program} {f0 : FuncId} {w0 : World} {Q : Exit → Act → World → Prop} {c : Code} {E : Env} {H : List Seg} {p : Prop} (hp : p) (h : Tkn P f0 w0 Q c E (.reg 0 0 (fun _ => p) :: H)) : Tkn P f0 w0 Q c E H := fun a w e s => h a w e (s.fact hp)
theorem St.fact_of {w0 w : World} {H : List Seg} {p : Prop} (s : St w0 H w) (hm : .reg 0 0 (fun _ => p) ∈ H) : p := by
  obtain ⟨_, h, _⟩ := s.ok _ hm
  exact h
theorem own_above {w0 w w1 : World} {H H2 : List Seg} {D : Nat} {p : Obj → Prop} (s : St w0 H w) [h : OwnAt D H p H2] [hs : SnapAt w1 H2 0 w1.heap.size] : w1.heap.size ≤ D := by
  have h1 := (List.pairwise_cons.1 (s.perm h.perm).apart).1 _ hs.mem
  rcases h1 with h2 | h2
  · simp [Seg.hi, Seg.lo] at h2
  · simpa [Seg.hi, Seg.lo] using h2
theorem put_old {w0 w w1 : World} {H H2 : List Seg} {D : Nat} {p : Obj → Prop} {o : Obj} (s : St w0 H w) [h : OwnAt D H p H2] [hs : SnapAt w1 H2 0 w1.heap.size] : w1.heap.size ≤ w.heap.size ∧ ∀ k, k < w1.heap.size → (w.putObj D o).heap[k]? = w1.heap[k]? := by
  have hD := own_above (w1 := w1) s (D := D)
  have hm : .snap 0 w1.heap.size w1 ∈ H := h.perm.mem_iff.2 (List.mem_cons_of_mem _ hs.mem)
  exact ⟨s.le _ hm, fun k hk => (World.putObj_heap_other (by omega)).trans (s.ok _ hm k (Nat.zero_le _) hk)⟩
theorem own_df {w0 w : World} {H H2 : List Seg} {D : Nat} (s : St w0 H w) [h : OwnAt D H isDf H2] : w.heap[D]? = some (.deferred (some [])) := by
  obtain ⟨o, h1, h2⟩ := s.own_at (b := D)
  rw [h1, h2]
theorem below_put {w w3 : World} {D : Nat} {o : Obj} (hos : w3.os = w.os ∧ w3.tape = w.tape ∧ w3.output = w.output) (h : w.heap.size ≤ w3.heap.size ∧ ∀ k, k < w.heap.size → (w3.putObj D o).heap[k]? = w.heap[k]?) : RowKit.Below w.heap.size w (w3.putObj D o) :=
  ⟨hos.1, hos.2.1, hos.2.2, by rw [World.putObj_size]; exact h.1, h.2⟩
end Go.Sx


namespace Go.Sx
open Go Go.RowKit

/-! ### Ranges over functions whose rounds make memory: segments instead of a region -/

def StL (H : List Seg) (w : World) : Prop := (∀ s ∈ H, s.hi ≤ w.heap.size) ∧ (∀ s ∈ H, s.ok w) ∧ H.Pairwise Seg.apart
def Ext (w w' : World) : Prop := w'.os = w.os ∧ w'.tape = w.tape ∧ w'.output = w.output ∧ w.heap.size ≤ w'.heap.size
theorem St.stL {w0 w : World} {H : List Seg} (s : St w0 H w) : StL H w := ⟨s.le, s.ok, s.apart⟩
theorem StL.st {w0 w : World} {H : List Seg} (s : StL H w) (h : Ext w0 w) : St w0 H w := ⟨h.1, h.2.1, h.2.2.1, h.2.2.2, s.1, s.2.1, s.2.2⟩
theorem St.ext {w0 w : World} {H : List Seg} (s : St w0 H w) : Ext w0 w := ⟨s.os, s.tape, s.output, s.ge⟩
theorem Ext.refl (w : World) : Ext w w := ⟨rfl, rfl, rfl, Nat.le_refl _⟩
theorem Ext.trans {a b c : World} (h : Ext a b) (k : Ext b c) : Ext a c := ⟨k.1.trans h.1, k.2.1.trans h.2.1, k.2.2.1.trans h.2.2.1, Nat.le_trans h.2.2.2 k.2.2.2⟩
theorem StL.perm {w : World} {H H' : List Seg} (s : StL H w) (p : H.Perm H') : StL H' w := (s.st (Ext.refl w)).perm p |>.stL

/-- What stands ahead of the end of the segments. -/
class TailR (A H : List Seg) (R : outParam (List Seg)) : Prop where
  perm : H.Perm (A ++ R)
instance TailR.refl (A : List Seg) : TailR A A [] := ⟨by simp⟩
instance TailR.cons (A H R : List Seg) (s : Seg) [h : TailR A H R] : TailR A (s :: H) (s :: R) := ⟨(h.perm.cons s).trans List.perm_middle.symm⟩

instance MarkAt.own (D : Nat) (Ds : List Nat) (H H1 H2 : List Seg) [hp : Pick (.own D isDf) H H1] [h : MarkAt Ds H1 H2] : MarkAt (D :: Ds) H H2 := ⟨hp.perm.trans (h.perm.cons _)⟩
theorem rb_lo {w : World} {lo hi b : Nat} {cs : List Value} (h : Rb w lo hi b cs) : Rb w 0 hi b cs := ⟨Nat.zero_le _, h.hi, h.here⟩

/-- All that lay there at the start, as segments. -/
theorem t_unsnap {x : Cx} {ks : List KI} {c : Code} {E : Env} {H H2 S0 : List Seg} (hS : StL S0 x.w0) [hp : Pick (.snap 0 x.w0.heap.size x.w0) H H2] (H' : List Seg) (hq : H'.Perm (H2 ++ S0)) (h : T x ks c E H') : T x ks c E H := fun a w e s => by
  refine h a w e ?_
  have s2 := s.perm hp.perm
  have hap := List.pairwise_cons.1 s2.apart
  have hok := s2.ok _ (List.mem_cons_self ..)
  refine (St.perm (w0 := x.w0) (H := H2 ++ S0) ⟨s.os, s.tape, s.output, s.ge, ?_, ?_, ?_⟩ hq.symm)
  · intro t ht
    rcases List.mem_append.1 ht with ht | ht
    · exact s2.le _ (List.mem_cons_of_mem _ ht)
    · exact Nat.le_trans (hS.1 t ht) s.ge
  · intro t ht
    rcases List.mem_append.1 ht with ht | ht
    · exact s2.ok _ (List.mem_cons_of_mem _ ht)
    · exact Seg.ok_congr (fun k _ h2 => hok k (Nat.zero_le _) (Nat.lt_of_lt_of_le h2 (hS.1 t ht))) (hS.2.1 t ht)
  · refine List.pairwise_append.2 ⟨hap.2, hS.2.2, fun t ht u hu => ?_⟩
    have h1 := hap.1 t ht
    have h2 := hS.1 u hu
    rcases h1 with h1 | h1
    · right; simp only [Seg.hi] at h1; omega
    · left; simp only [Seg.lo] at h1; omega

section
variable {x : Cx} {ops : Array Oper} {rest : List Oper} {ks : List KI} {n : Nat} {m : List (Nat × Value)} {ds : List Deferred} {H : List Seg}
variable {ty : TypeId} {pos : String} {aft : Array Edge} {dd : Nat}
theorem to_callYL {β : Type} {y : Nat} {g : Operand} {l : List Operand} {ts : Array TypeId} {av : List Value} {A R : List Seg} (Sb : β → List Seg) (H2 : β → List Seg) (hg : ev m g = some (.func (.yield y) #[] #[])) (hl : evs m l = some av) (hx : x.r = none)
    [hr : TailR A H R] (hH2 : ∀ b, H2 b = R ++ Sb b)
    (hc : ∀ R w, StL (A ++ R) w → YC x.P y av.toArray w (fun e w' => e = .returned (.bool true) ∧ Ext w w' ∧ ∃ b, StL (Sb b ++ R) w')) (hd : Nat.blt dd n = true)
    (ht : ∀ b, TO x false ops rest ks ⟨n, (dd, .bool true) :: m, ds⟩ (H2 b)) :
    TO x false ops (⟨some dd, .call ⟨.value g, l.toArray, ts⟩, ty, pos, aft, none⟩ :: rest) ks ⟨n, m, ds⟩ H := by
  intro a w e s
  refine wpListIn_plain rfl fun K hK => ?_
  refine ⟨fun _ _ => trivial, ?_⟩
  rw [Oper.semAt_eq _ _ _ (fun _ h => by cases h), exec_yield (e.ev hg) (e.evs hl)]
  obtain ⟨f, tmps, asg, body, h3, h4⟩ := hc R w (s.stL.perm hr.perm)
  rw [h3]
  refine ⟨(fun h => by cases h), ?_⟩
  rw [hx]
  refine h4.mono ?_
  rintro en w' ⟨rfl, he, b, hb⟩
  refine hK _ _ (ht b _ _ (e.put hd _) ?_)
  rw [hH2]
  exact (hb.perm List.perm_append_comm).st (s.ext.trans he)
end

theorem t_rfL {x : Cx} {ks : List KI} {g : Operand} {p : Nat} {asg body : Code} {n : Nat} {m : List (Nat × Value)} {ds : List Deferred} {H : List Seg} {gf : Nat} {lb : List Value} (H0 : List Seg) (hr : x.r = none) (hg : ev m g = some (.func (.func gf) #[] lb.toArray)) [hfn : FnOk x.P gf]
    {β : Type} (Sf : β → List Seg) [hsub : SubH H0 H]
    (hseq : ∀ (K : LKey) (l D : Nat) (w₂ : World), K = ⟨n, m, p, asg, body⟩ → St x.w0 (.own l (isLp K .ready none) :: .own D isDf :: H0) w₂ →
      Calls x.P gf (#[.func (.yield l) #[] #[]] ++ lb.toArray) w₂ (fun e w' => e = .returned (.tuple #[]) ∧ Ext w₂ w' ∧ ∃ b, StL (.own l (isLp K .ready none) :: .own D isDf :: Sf b) w'))
    (hdone : ∀ D b, TX x .normal ks ⟨n, m, mark D :: ds⟩ (.own D isDf :: Sf b)) : T x ks (.rangeFunc g #[p] asg body) ⟨n, m, ds⟩ H := by
  intro a w e s
  rw [hr]
  refine wpIn_rangeFunc fun fn _ => ?_
  have hev : a.eval g = .func (.func gf) #[] lb.toArray := e.ev hg
  let K : LKey := ⟨n, m, p, asg, body⟩
  let w₁ : World := (w.alloc (.deferred (some []))).alloc (.loop { state := .ready, pending := none, fn, tmps := a.tmps, params := #[p], assign := asg, body, defers := w.heap.size })
  have s0 : St x.w0 H0 w := s.sub
  have s1 : St x.w0 (.own w.heap.size isDf :: H0) (w.alloc (.deferred (some []))) := s0.alloc (p := isDf) rfl
  have s2 : St x.w0 (.own (w.heap.size + 1) (isLp K .ready none) :: .own w.heap.size isDf :: H0) w₁ := by
    have := s1.alloc (o := .loop { state := .ready, pending := none, fn, tmps := a.tmps, params := #[p], assign := asg, body, defers := w.heap.size }) (p := isLp K .ready none) ⟨fn, a.tmps, w.heap.size, rfl, ⟨e.size, rfl, e.get⟩⟩
    rw [World.size_alloc] at this
    exact this
  have hres : (resolve a.eval (rangeCall g (w.heap.size + 1)) 0).run x.P w₁ = .ok { target := .fn (.func gf) lb.toArray, args := #[] ++ #[Value.func (.yield (w.heap.size + 1)) #[] #[]] } w₁ := by
    simp only [resolve, hev, List.map_toArray, List.map_cons, List.map_nil, show ∀ v, a.eval (.const v) = v from fun _ => rfl, Deferred.ofValue, run_ok]
  refine ⟨w.heap.size + 1, [mark w.heap.size], w₁, _, w₁, gf, #[.func (.yield (w.heap.size + 1)) #[] #[]] ++ lb.toArray, w₁, run_enterLoop_outer fn a.tmps #[p] asg body, hres, fun _ _ => trivial, ?_, (fun h => by cases h), ?_⟩
  · simp only [invoke]
    rw [show (#[] ++ #[Value.func (Fn.yield (w.heap.size + 1)) #[] #[]] ++ lb.toArray : Array Value) = #[Value.func (Fn.yield (w.heap.size + 1)) #[] #[]] ++ lb.toArray from by simp]
    exact hfn.run _ _
  refine callsIn_WF ((hseq K _ _ w₁ rfl s2).mono ?_)
  rintro _ w₃ ⟨rfl, hk, b, h⟩
  have e' : Env.ok ⟨n, m, mark w.heap.size :: ds⟩ { a with defers := [mark w.heap.size] ++ a.defers } := ⟨e.size, by show [mark w.heap.size] ++ a.defers = mark w.heap.size :: ds; rw [show a.defers = ds from e.ds]; rfl, e.get⟩
  have s3 : St x.w0 (.own (w.heap.size + 1) (isLp K .ready none) :: .own w.heap.size isDf :: Sf b) w₃ := h.st (s2.ext.trans hk)
  obtain ⟨o, h1, fn', tmps, df, rfl, h3⟩ := s3.own_at (b := w.heap.size + 1) (p := isLp K .ready none)
  have s4 := s3.put h1 (q := fun _ => True) (o := .loop { state := .exhausted, pending := none, fn := fn', tmps, params := #[K.p], assign := K.asg, body := K.body, defers := df }) trivial
  exact ⟨_, _, run_endLoop h1 (by simp), hdone _ b _ _ e' s4.tail⟩

theorem yc_roundL {P : Program} {l : Nat} {w : World} {K : LKey} {H : List Seg} {v : Value} {R : Ending → World → Prop} {n : Nat} {m : List (Nat × Value)} {p : Nat} {asg body : Code} (hK : K = ⟨n, m, p, asg, body⟩) (hs : StL (.own l (isLp K .ready none) :: H) w) (hp' : Nat.blt p n = true)
    (h' : T ⟨P, some l, w, QF⟩ [.inv (RJ P l body R)] asg ⟨n, (p, v) :: m, []⟩ (.own l (isLp K .ready none) :: H)) : YC P l #[v] w R := by
  subst hK
  have s := hs.st (Ext.refl w)
  obtain ⟨o, h1, fn, tmps, df, rfl, h3⟩ := s.own_at (b := l) (p := isLp ⟨n, m, p, asg, body⟩ .ready none)
  refine ⟨_, _, _, _, run_yield h1 rfl, roundIn_of_wpIn trivial ?_⟩
  have he := h3.put hp' v
  have := h' { tmps := tmps.setIfInBounds p v, defers := [] } w he s
  have hf : Array.foldl (fun (tmps : Array Value) (x : Nat × Value) => match x with | (t, a) => tmps.setIfInBounds t a) tmps (#[p].zip #[v]) = tmps.setIfInBounds p v := by simp
  simp only [hf]
  exact this

theorem t_rendL {P : Program} {l : Nat} {w : World} {E : Env} {H H2 : List Seg} {K : LKey} {β : Type} {G : β → List Seg} (b : β) (S' : List Seg) (hS : G b = .own l (isLp K .ready none) :: S') [h : OwnAt l H (isLp K .busy none) H2] [hsub : SubH S' H2] :
    TX ⟨P, some l, w, roundPost P l (fun e w' => e = .returned (.bool true) ∧ Ext w w' ∧ ∃ b, StL (G b) w')⟩ .normal [] E H := fun a w' e s => by
  obtain ⟨o, h1, fn, tmps, df, rfl, h3⟩ := s.own_at (b := l)
  have s2 := s.put h1 (q := isLp K .ready none) (o := .loop { state := .ready, pending := none, fn, tmps, params := #[K.p], assign := K.asg, body := K.body, defers := df }) ⟨fn, tmps, df, rfl, h3⟩
  haveI : SubH (.own l (isLp K .ready none) :: S') (.own l (isLp K .ready none) :: H2) := inferInstance
  refine ⟨_, _, run_endRound none h1, rfl, s2.ext, b, ?_⟩
  rw [hS]
  exact (s2.sub (H' := .own l (isLp K .ready none) :: S')).stL
end Go.Sx


namespace Go.Sx
open Go Go.RowKit

/-! ## A slice of a whole array of the call's own -/

section
variable {x : Cx} {d : Bool} {ops : Array Oper} {rest : List Oper} {ks : List KI} {n dd : Nat} {m : List (Nat × Value)} {ds : List Deferred} {H : List Seg} {ty : TypeId} {pos : String} {aft : Array Edge}

theorem run_slAr {P : Program} {t e b1 b2 len : TypeId} {zz : List ZV} {ei : TI} [ht : Ty P t ⟨.array len e, b1, b2, zz⟩] [he : Ty P e ei] {b : Nat} {w : World} :
    (Instr.sliceAt t (.pointer (some ⟨b, 0, none⟩)) none none none).run P w = .ok (.slice (some (if len = 0 then ⟨b, 0, none⟩ else (⟨b, 0, none⟩ : Addr).add (0 * ei.size))) (len - 0) (len - 0)) w := by
  simp only [Instr.sliceAt, Sem.run_bind, run_underlying ht.array, Result.andThen, Instr.sureAddr, Instr.sliceBounds, run_ok, he.sizeOf]
theorem to_slAr {t e b1 b2 len : TypeId} {zz : List ZV} {ei : TI} {y : Operand} {b : Nat} (hy : ev m y = some (.pointer (some ⟨b, 0, none⟩))) [ht : Ty x.P t ⟨.array len e, b1, b2, zz⟩] [he : Ty x.P e ei] (hd : Nat.blt dd n = true)
    (h : TO x d ops rest ks ⟨n, (dd, .slice (some ⟨b, 0, none⟩) len len) :: m, ds⟩ H) : TO x d ops (⟨some dd, .slice t y none none none, ty, pos, aft, none⟩ :: rest) ks ⟨n, m, ds⟩ H :=
  to_pure _ (fun _ h => by cases h) (fun a' w ea s => by
    simp only [execOp, Option.map_none]; rw [ea.ev hy]
    rw [Sem.run_bind, run_slAr (ei := ei) (e := e) (b1 := b1) (b2 := b2) (zz := zz) (len := len)]
    have h1 : (⟨b, 0, none⟩ : Addr).add (0 * ei.size) = ⟨b, 0, none⟩ := by
      rw [Nat.zero_mul, Addr.add_none]
    simp only [h1, ite_self, Nat.sub_zero]; rfl) hd h
/-- 's[:h]' of a string -/
theorem to_ssH {t b1 b2 : TypeId} {zz : List ZV} {y hiO : Operand} {l : List UInt8} {q : Nat} (hy : ev m y = some (.string ⟨l.toArray⟩)) (hh : ev m hiO = some (.int .i64 (Int.ofNat q))) [ht : Ty x.P t ⟨.string, b1, b2, zz⟩]
    (hq : q ≤ l.length) (hd : Nat.blt dd n = true) (h : TO x d ops rest ks ⟨n, (dd, .string ⟨(l.take q).toArray⟩) :: m, ds⟩ H) :
    TO x d ops (⟨some dd, .slice t y none (some hiO) none, ty, pos, aft, none⟩ :: rest) ks ⟨n, m, ds⟩ H :=
  to_pure _ (fun _ h => by cases h) (fun a' w ea s => by
    have hsz : ByteArray.size ⟨l.toArray⟩ = l.length := by simp [ByteArray.size]
    simp only [execOp, Option.map_none, Option.map_some]; rw [ea.ev hy, ea.ev hh]
    simp only [Instr.sliceAt, Sem.run_bind, run_underlying ht.string, Result.andThen, Instr.slice, Instr.sliceBounds, run_ok, hsz, run_bound q l.length _ hq, Option.isSome_none, Bool.false_eq_true, if_false, bytes_extract, List.drop_zero, Nat.sub_zero]) hd h
theorem flat_at {sz : Nat} {xs : List (List Value)} (he : ∀ x ∈ xs, x.length = sz) {i j : Nat} {x : List Value} {v : Value} (hx : xs[i]? = some x) (hv : x[j]? = some v) : xs.flatten[i * sz + j]? = some v := flatten_get he hx hv
theorem own_row {w0 w : World} {H H2 : List Seg} {b t n sz : Nat} {xs : List (List Value)} {cs : List Value} (s : St w0 H w) [ho : OwnAt b H (isC cs t) H2] (hc : cs = xs.flatten) (hn : xs.length = n) (he : ∀ x ∈ xs, x.length = sz) : Ro w 0 w.heap.size (some ⟨b, 0, none⟩) n n sz xs := by
  obtain ⟨o, h1, h2⟩ := s.own_at (b := b)
  have hb : b < w.heap.size := (Array.getElem?_eq_some_iff.1 h1).1
  refine ⟨hn, he, Nat.le_refl _, .inr ⟨_, rfl, rfl, Nat.zero_le _, hb, fun i x hx j v hv => ?_⟩⟩
  rw [h2] at h1
  have h3 := flat_at he hx hv
  rw [← hc] at h3
  simpa [World.cell?, h1] using h3
end
end Go.Sx


namespace Go.Sx
open Go Go.RowKit

/-! ## Guards in mixed regions that may panic -/

section
variable {x : Cx} {S : List Nat} {k : Nat} {ops : Array Oper} {rest : List Oper} {ks : List KI} {E : Env} {Hb H : List Seg}

/-- A guarded operation, as without a guard. -/
theorem tmr_gt {op : Op} {ty : TypeId} {pos : String} {aft : Array Edge} {dst : Option Nat} {j : Nat} {want : Bool} {s : Nat}
    (hs : (ops[j]?).bind (·.dst) = some s) (hv : lk E.m s = some (.bool want)) (h : TMR x S k ops (⟨dst, op, ty, pos, aft, none⟩ :: rest) ks E Hb H) : TMR x S k ops (⟨dst, op, ty, pos, aft, some (j, want)⟩ :: rest) ks E Hb H := by
  intro a e hne
  have hw : Region.wanted ⟨dst, op, ty, pos, aft, some (j, want)⟩ (yielded ops a.tmps) = true := by
    simp [Region.wanted, yielded, hs, e.get _ _ hv]
  have h1 := h a e hne
  simp only [wpMixR, Region.wanted, if_true] at h1
  simp only [wpMixR, hw, if_true]
  exact h1

theorem tmr_gf {n : Nat} {m : List (Nat × Value)} {ds : List Deferred} {op : Op} {ty : TypeId} {pos : String} {aft : Array Edge} {dd : Nat} {j : Nat} {want : Bool} {s : Nat} {u : Value}
    (hs : (ops[j]?).bind (·.dst) = some s) (hv : lk m s = some u) (hu : (match u with | .bool b => b == want | _ => false) = false) (hd : Nat.blt dd n = true)
    (h : TMR x S (k + 1) ops rest ks ⟨n, (dd, undef) :: m, ds⟩ Hb H) : TMR x S k ops (⟨some dd, op, ty, pos, aft, some (j, want)⟩ :: rest) ks ⟨n, m, ds⟩ Hb H := by
  intro a e hne
  have hw : Region.wanted ⟨some dd, op, ty, pos, aft, some (j, want)⟩ (yielded ops a.tmps) = false := by
    have := e.get _ _ hv
    simp only [Region.wanted, yielded, hs, Option.bind_some, this]
    cases u <;> simp_all
  simp only [wpMixR, hw]
  exact h _ (e.put hd undef) hne

theorem tmr_gs {n : Nat} {m : List (Nat × Value)} {ds : List Deferred} {o : Oper} {j : Nat} {want b : Bool} {s : Nat}
    (_hg : o.guard = some (j, want)) (_hs : (ops[j]?).bind (·.dst) = some s) (hv : lk m s = some (.bool b))
    (ht : b = true → TMR x S k ops (o :: rest) ks ⟨n, (s, .bool true) :: m, ds⟩ Hb H) (hf : b = false → TMR x S k ops (o :: rest) ks ⟨n, (s, .bool false) :: m, ds⟩ Hb H) : TMR x S k ops (o :: rest) ks ⟨n, m, ds⟩ Hb H := by
  have key : ∀ a, Env.ok ⟨n, m, ds⟩ a → Env.ok ⟨n, (s, .bool b) :: m, ds⟩ a := by
    intro a e
    refine ⟨e.size, e.ds, fun t u hu => ?_⟩
    simp only [lk] at hu
    cases hb : Nat.beq s t with
    | true =>
      rw [hb] at hu; cases hu
      have e' : s = t := Nat.eq_of_beq_eq_true hb
      subst e'; exact e.get _ _ hv
    | false => rw [hb] at hu; exact e.get _ _ hu
  cases b with
  | true => exact fun a e hne => ht rfl a (key a e) hne
  | false => exact fun a e hne => hf rfl a (key a e) hne

end
end Go.Sx


namespace Go.Sx
open Go Go.RowKit

/-! ### Such regions in an order of our own, where an operation may give up -/

section mixedPR
variable {P : Program} {ops : Array Oper} {md : Region.Mode} {C : World → Prop} {S : List Nat} {rr : Option Nat} {PP : List Deferred → List PanicEntry → World → Prop}

def wpOrdR (rr : Option Nat) (PP : List Deferred → List PanicEntry → World → Prop) (P : Program) (ops : Array Oper) (S : List Nat) (C : World → Prop) (Q : (World → Prop) → Act → Prop) : List (Nat × Oper) → (World → Prop) → Act → Prop
  | [], D, a => Q D a
  | (k, o) :: rest, D, a => if Region.wanted o (yielded ops a.tmps) then
      if S.contains k then ∀ w, D w → o.wpIn (WF rr) 0 P a w (fun a' w' => a'.defers = a.defers ∧ ∃ D', Fine ops C k D' ∧ D' w' ∧ wpOrdR rr PP P ops S C Q rest D' a') (QP PP)
      else ∃ v, quietM P C o a v ∧ wpOrdR rr PP P ops S C Q rest D (a.put o.dst v)
    else wpOrdR rr PP P ops S C Q rest D (a.put o.dst undef)

theorem mAny_ordR {Q : (World → Prop) → Act → Prop} (hs : Region.noSelect ops = true) (hnd : noDefer ops = true) : ∀ (l : List (Nat × Oper)) (listed : Array Bool) (D : World → Prop) (a : Act), (∀ p ∈ l, ops[p.1]? = some p.2) →
    ordFrom md ops S l listed = true → wpOrdR rr PP P ops S C Q l D a → mAnyR rr PP P md ops S C Q l.length listed D a
  | [], _, _, _, _, hB, h => ⟨by simpa [ordFrom] using hB, h⟩
  | (k, o) :: l, listed, D, a, hl, hB, h => by
    have h0 : ops[k]? = some o := hl (k, o) (List.mem_cons_self ..)
    simp only [ordFrom, Bool.and_eq_true] at hB
    obtain ⟨hr, hB'⟩ := hB
    have hst : mOpR rr PP P ops S C D k (fun D' a' => wpOrdR rr PP P ops S C Q l D' a') a := by unfold mOpR; simp only [h0]; exact h
    have hnext := fun D' a' (h : wpOrdR rr PP P ops S C Q l D' a') => mAny_ordR (Q := Q) hs hnd l (listed.setIfInBounds k true) D' a' (fun p hp => hl p (List.mem_cons_of_mem _ hp)) hB' h
    cases hS : S.contains k with
    | true =>
      rw [hS] at hr
      have hr' : Region.ready md ops listed = [k] := by simpa using hr
      refine ⟨fun h => (by rw [hr'] at h; cases h), fun i hi => ?_⟩
      rw [hr'] at hi
      have : i = k := by simpa using hi
      subst this
      exact mOpR_mono hnext hst
    | false =>
      rw [hS] at hr
      simp only [Bool.false_eq_true, if_false, Bool.and_eq_true] at hr
      obtain ⟨v, hy, hK⟩ := yieldsM_of_opR h0 hS hst
      exact mAnyR_first (noDefer_spec hnd) h0 hS (Region.noSelect_spec hs) l.length listed D a (Region.free_spec h0 hr.2) (by simpa using hr.1) hy (hnext _ _ hK)

theorem wpIn_region_ordR {id : Nat} {Q : Exit → Act → World → Prop} {a : Act} {w : World} {l : List Oper} (S L : List Nat) (C D : World → Prop) (hm : P.follows .mixedOrders = true) (hB : ordB l S L = true) (hg : Good C D) (hP : ∀ a ch w, PP a.defers ch w → Q (.panic ch) a w)
    (hD : D { w with drawn := w.drawn + 1 }) (h : wpOrdR rr PP P l.toArray S C (fun D a' => ∀ w', D w' → Q .normal a' w') (plan l L) D a) : (Code.region id l.toArray true).wpIn (WF rr) 0 P Q a w := by
  simp only [ordB, Bool.and_eq_true] at hB
  refine wpIn_region_any hm (wpAnyIn_of_mR (S := S) (noDefer_spec hB.1.1.2) (Q := fun D a' => ∀ w', D w' → Q .normal a' w') (fun D a w h hw => h w hw) hP _ _ D _ _ (.inl hg) hD ?_)
  have := mAny_ordR (rr := rr) (PP := PP) (P := P) (C := C) (md := .any) (S := S) hB.1.1.1 hB.1.1.2 (plan l L) (Array.replicate l.toArray.size false) D a plan_at hB.2 h
  rw [Nat.eq_of_beq_eq_true hB.1.2] at this
  exact this
end mixedPR

def TPR (x : Cx) (S : List Nat) (ops : Array Oper) (rest : List (Nat × Oper)) (ks : List KI) (E : Env) (Hb H : List Seg) : Prop :=
  ∀ a, E.ok a → (∃ w, St x.w0 Hb w) → wpOrdR x.r (PPx x) x.P ops S (St x.w0 Hb) (fun D a' => ∀ w', D w' → Qk x ks .normal a' w') rest (St x.w0 H) a

def MPR (x : Cx) (S : List Nat) (k : Nat) (ops : Array Oper) (rest : List (Nat × Oper)) (ks : List KI) (ds : List Deferred) (Hb : List Seg) (a : Act) (w : World) : Prop :=
  a.defers = ds ∧ ∃ D', Fine ops (St x.w0 Hb) (k - 1) D' ∧ D' w ∧ wpOrdR x.r (PPx x) x.P ops S (St x.w0 Hb) (fun D a' => ∀ w', D w' → Qk x ks .normal a' w') rest D' a

section
variable {x : Cx} {S : List Nat} {k : Nat} {ops : Array Oper} {rest : List (Nat × Oper)} {ks : List KI} {E : Env} {Hb H : List Seg}

theorem t_regPR {id : Nat} {l : List Oper} (S L : List Nat) (Hb : List Seg) (hm : x.P.follows .mixedOrders = true) (hB : ordB l S L = true) [SubH Hb H] (h : TPR x S l.toArray (plan l L) ks E Hb H) : T x ks (.region id l.toArray true) E H := by
  intro a w e s
  exact wpIn_region_ordR S L (St x.w0 Hb) (St x.w0 H) hm hB st_good (fun a ch w hp => by rw [Qk_panic]; exact hp a rfl) s.drew (h a e ⟨w, s.sub⟩)

theorem tpr_nil (h : TX x .normal ks E H) : TPR x S ops [] ks E Hb H := fun a e _ w s => h a w e s

/-- A quiet operation: its rule, applied to it alone. -/
theorem tpr_q {o : Oper} (E' : Env) (hS : S.contains k = false) (hq : TO x.nx true ops [o] [.inv (fun a _ => E'.ok a)] E Hb) (h : TPR x S ops rest ks E' Hb H) : TPR x S ops ((k, o) :: rest) ks E Hb H := by
  intro a e hne
  have h1 := hq a e
  have ⟨w, hw⟩ := hne
  simp only [wpQM] at h1
  simp only [wpOrdR, hS, Bool.false_eq_true, if_false]
  split
  · rename_i hwt
    simp only [hwt, if_true] at h1
    obtain ⟨v, h2, h3⟩ := h1
    exact ⟨v, h2, h _ (h3 w hw) hne⟩
  · rename_i hwt
    simp only [hwt] at h1
    exact h _ (h1 w hw) hne

theorem tprq_end {E : Env} {x : Cx} {ops : Array Oper} {H : List Seg} : TO x true ops [] [.inv (fun a _ => E.ok a)] E H := fun _ e _ _ => e

/-- One that turns the world. -/
theorem tpr_s {o : Oper} (hS : S.contains k = true) (hs : TO x.nxR false ops [o] [.inv (MPR x S (k + 1) ops rest ks E.ds Hb)] E H) (hnd : ∀ c, o.op ≠ .defer c) (hg : o.guard = none) : TPR x S ops ((k, o) :: rest) ks E Hb H := by
  intro a e hne
  have hw : Region.wanted o (yielded ops a.tmps) = true := by unfold Region.wanted; rw [hg]
  simp only [wpOrdR, hS, hw, if_true]
  intro w s
  have h1 := hs a w e s
  simp only [wpListIn, hw, if_true] at h1
  refine ⟨fun _ _ => trivial, ?_⟩
  have h2 := h1.2
  have h2' : o.uponIn (WF x.r) 0 x.P a (MPR x S (k + 1) ops rest ks E.ds Hb) (Exit.then (MPR x S (k + 1) ops rest ks E.ds Hb) (QP (PPx x))) ((o.semAt x.r a.eval).run x.P w) := h2
  have hL : LetsOut (Exit.then (MPR x S (k + 1) ops rest ks E.ds Hb) (QP (PPx x))) → LetsOut (QP (PPx x)) := fun ⟨_, _, h⟩ => ⟨a, w, h⟩
  have h3 : o.uponIn (WF x.r) 0 x.P a (MPR x S (k + 1) ops rest ks E.ds Hb) (QP (PPx x)) ((o.semAt x.r a.eval).run x.P w) := by
    generalize (o.semAt x.r a.eval).run x.P w = r at h2'
    unfold Oper.uponIn at *
    split <;> simp only at h2'
    · exact h2'
    · exact h2'
    · exact h2'
    · exact ⟨h2'.1, h2'.2.mono fun e w' he => by
        cases e with
        | returned v => exact he
        | panicked c => exact he
        | outgrown => exact hL he⟩
    · exact h2'
    · exact ⟨h2'.1, h2'.2.mono fun e w' he => by
        cases e with
        | returned v => exact he
        | panicked c => exact he
        | outgrown => exact hL he⟩
    · exact h2'
  refine uponR_mono (fun a' w' h' => ?_) h3
  obtain ⟨h4, D', h5, h6, h7⟩ := h'
  exact ⟨h4.trans e.ds.symm, D', h5, h6, h7⟩
theorem tpr_se {ds : List Deferred} [SubH Hb H] (hds : E.ds = ds) (h : TPR x S ops rest ks E Hb H) : TO x.nxR false ops [] [.inv (MPR x S k ops rest ks ds Hb)] E H := fun a w e s =>
  ⟨e.ds.trans hds, St x.w0 H, .inr st_good, s, h a e ⟨w, s.sub⟩⟩

theorem tpr_se2 {ds : List Deferred} (hsub : ∀ w, St x.w0 H w → St x.w0 Hb w) (hds : E.ds = ds) (h : TPR x S ops rest ks E Hb H) : TO x.nxR false ops [] [.inv (MPR x S k ops rest ks ds Hb)] E H := fun a w e s =>
  ⟨e.ds.trans hds, St x.w0 H, .inr ⟨fun _ _ h hb => h.below hb, hsub⟩, s, h a e ⟨w, hsub w s⟩⟩

/-- Behind the last operation of all. -/
theorem tpr_sl {ds : List Deferred} (hl : lastB ops = true) (hk : Nat.beq k ops.size = true) (hds : E.ds = ds) (h : TX x .normal ks E H) : TO x.nxR false ops [] [.inv (MPR x S k ops [] ks ds Hb)] E H := fun a w e s =>
  ⟨e.ds.trans hds, St x.w0 H, .inl ⟨hl, by have := Nat.eq_of_beq_eq_true hk; have h0 : 0 < ops.size := (by unfold lastB at hl; rcases Nat.eq_zero_or_pos ops.size with h0 | h0; (rw [h0] at hl; rw [Array.getElem?_eq_none (by omega)] at hl; cases hl); exact h0); omega⟩, s, fun w' hw' => h a w' e hw'⟩

/-- A guarded operation, as without a guard. -/
theorem tpr_gt {op : Op} {ty : TypeId} {pos : String} {aft : Array Edge} {dst : Option Nat} {j : Nat} {want : Bool} {s : Nat}
    (hs : (ops[j]?).bind (·.dst) = some s) (hv : lk E.m s = some (.bool want)) (h : TPR x S ops ((k, ⟨dst, op, ty, pos, aft, none⟩) :: rest) ks E Hb H) : TPR x S ops ((k, ⟨dst, op, ty, pos, aft, some (j, want)⟩) :: rest) ks E Hb H := by
  intro a e hne
  have hw : Region.wanted ⟨dst, op, ty, pos, aft, some (j, want)⟩ (yielded ops a.tmps) = true := by
    simp [Region.wanted, yielded, hs, e.get _ _ hv]
  have h1 := h a e hne
  simp only [wpOrdR, Region.wanted, if_true] at h1
  simp only [wpOrdR, hw, if_true]
  exact h1

theorem tpr_gf {n : Nat} {m : List (Nat × Value)} {ds : List Deferred} {op : Op} {ty : TypeId} {pos : String} {aft : Array Edge} {dd : Nat} {j : Nat} {want : Bool} {s : Nat} {u : Value}
    (hs : (ops[j]?).bind (·.dst) = some s) (hv : lk m s = some u) (hu : (match u with | .bool b => b == want | _ => false) = false) (hd : Nat.blt dd n = true)
    (h : TPR x S ops rest ks ⟨n, (dd, undef) :: m, ds⟩ Hb H) : TPR x S ops ((k, ⟨some dd, op, ty, pos, aft, some (j, want)⟩) :: rest) ks ⟨n, m, ds⟩ Hb H := by
  intro a e hne
  have hw : Region.wanted ⟨some dd, op, ty, pos, aft, some (j, want)⟩ (yielded ops a.tmps) = false := by
    have := e.get _ _ hv
    simp only [Region.wanted, yielded, hs, Option.bind_some, this]
    cases u <;> simp_all
  simp only [wpOrdR, hw]
  exact h _ (e.put hd undef) hne

theorem tpr_gs {n : Nat} {m : List (Nat × Value)} {ds : List Deferred} {o : Oper} {j : Nat} {want b : Bool} {s : Nat}
    (_hg : o.guard = some (j, want)) (_hs : (ops[j]?).bind (·.dst) = some s) (hv : lk m s = some (.bool b))
    (ht : b = true → TPR x S ops ((k, o) :: rest) ks ⟨n, (s, .bool true) :: m, ds⟩ Hb H) (hf : b = false → TPR x S ops ((k, o) :: rest) ks ⟨n, (s, .bool false) :: m, ds⟩ Hb H) : TPR x S ops ((k, o) :: rest) ks ⟨n, m, ds⟩ Hb H := by
  have key : ∀ a, Env.ok ⟨n, m, ds⟩ a → Env.ok ⟨n, (s, .bool b) :: m, ds⟩ a := by
    intro a e
    refine ⟨e.size, e.ds, fun t u hu => ?_⟩
    simp only [lk] at hu
    cases hb : Nat.beq s t with
    | true =>
      rw [hb] at hu; cases hu
      have e' : s = t := Nat.eq_of_beq_eq_true hb
      subst e'; exact e.get _ _ hv
    | false => rw [hb] at hu; exact e.get _ _ hu
  cases b with
  | true => exact fun a e hne => ht rfl a (key a e) hne
  | false => exact fun a e hne => hf rfl a (key a e) hne

end

end Go.Sx


namespace Go.Proofs
open Go Go.Sx
instance Tryz.ty1 : Ty Tryz.prog 1 ⟨.func, 1, 8, [.func]⟩ := ⟨by kernel_rfl⟩
instance Tryz.ty2 : Ty Tryz.prog 2 ⟨.int .i64, 1, 8, [.int .i64]⟩ := ⟨by kernel_rfl⟩
instance Tryz.ty3 : Ty Tryz.prog 3 ⟨.int .i64, 1, 8, [.int .i64]⟩ := ⟨by kernel_rfl⟩
instance Tryz.ty4 : Ty Tryz.prog 4 ⟨.bool, 1, 1, [.bool]⟩ := ⟨by kernel_rfl⟩
instance Tryz.ty5 : Ty Tryz.prog 5 ⟨.int .u8, 1, 1, [.int .u8]⟩ := ⟨by kernel_rfl⟩
instance Tryz.ty6 : Ty Tryz.prog 6 ⟨.int .u8, 1, 1, [.int .u8]⟩ := ⟨by kernel_rfl⟩
instance Tryz.ty7 : Ty Tryz.prog 7 ⟨.struct [(0, 2), (1, 3), (2, 4), (3, 6)], 4, 24, [.int .i64, .int .i64, .bool, .int .u8]⟩ := ⟨by kernel_rfl⟩
instance Tryz.ty8 : Ty Tryz.prog 8 ⟨.struct [(0, 2), (1, 3), (2, 4), (3, 6)], 4, 24, [.int .i64, .int .i64, .bool, .int .u8]⟩ := ⟨by kernel_rfl⟩
instance Tryz.ty9 : Ty Tryz.prog 9 ⟨.string, 1, 16, [.str]⟩ := ⟨by kernel_rfl⟩
instance Tryz.ty10 : Ty Tryz.prog 10 ⟨.string, 1, 16, [.str]⟩ := ⟨by kernel_rfl⟩
instance Tryz.ty11 : Ty Tryz.prog 11 ⟨.string, 1, 16, [.str]⟩ := ⟨by kernel_rfl⟩
instance Tryz.ty12 : Ty Tryz.prog 12 ⟨.int .u64, 1, 8, [.int .u64]⟩ := ⟨by kernel_rfl⟩
instance Tryz.ty13 : Ty Tryz.prog 13 ⟨.struct [(0, 9), (1, 12)], 2, 24, [.str, .int .u64]⟩ := ⟨by kernel_rfl⟩
instance Tryz.ty14 : Ty Tryz.prog 14 ⟨.struct [(0, 9), (1, 12)], 2, 24, [.str, .int .u64]⟩ := ⟨by kernel_rfl⟩
instance Tryz.ty15 : Ty Tryz.prog 15 ⟨.ptr 184, 1, 8, [.ptr]⟩ := ⟨by kernel_rfl⟩
instance Tryz.ty16 : Ty Tryz.prog 16 ⟨.ptr 187, 1, 8, [.ptr]⟩ := ⟨by kernel_rfl⟩
instance Tryz.ty17 : Ty Tryz.prog 17 ⟨.ptr 196, 1, 8, [.ptr]⟩ := ⟨by kernel_rfl⟩
instance Tryz.ty18 : Ty Tryz.prog 18 ⟨.struct [(0, 17)], 1, 8, [.ptr]⟩ := ⟨by kernel_rfl⟩
instance Tryz.ty19 : Ty Tryz.prog 19 ⟨.struct [(0, 17)], 1, 8, [.ptr]⟩ := ⟨by kernel_rfl⟩
instance Tryz.ty20 : Ty Tryz.prog 20 ⟨.iface, 1, 16, [.iface]⟩ := ⟨by kernel_rfl⟩
instance Tryz.ty21 : Ty Tryz.prog 21 ⟨.int .i32, 1, 4, [.int .i32]⟩ := ⟨by kernel_rfl⟩
instance Tryz.ty22 : Ty Tryz.prog 22 ⟨.int .i64, 1, 8, [.int .i64]⟩ := ⟨by kernel_rfl⟩
instance Tryz.ty23 : Ty Tryz.prog 23 ⟨.int .i64, 1, 8, [.int .i64]⟩ := ⟨by kernel_rfl⟩
instance Tryz.ty25 : Ty Tryz.prog 25 ⟨.func, 1, 8, [.func]⟩ := ⟨by kernel_rfl⟩
instance Tryz.ty26 : Ty Tryz.prog 26 ⟨.func, 1, 8, [.func]⟩ := ⟨by kernel_rfl⟩
instance Tryz.ty27 : Ty Tryz.prog 27 ⟨.func, 1, 8, [.func]⟩ := ⟨by kernel_rfl⟩
instance Tryz.ty28 : Ty Tryz.prog 28 ⟨.func, 1, 8, [.func]⟩ := ⟨by kernel_rfl⟩
instance Tryz.ty29 : Ty Tryz.prog 29 ⟨.func, 1, 8, [.func]⟩ := ⟨by kernel_rfl⟩
instance Tryz.ty30 : Ty Tryz.prog 30 ⟨.slice 3, 1, 24, [.slice]⟩ := ⟨by kernel_rfl⟩
instance Tryz.ty31 : Ty Tryz.prog 31 ⟨.func, 1, 8, [.func]⟩ := ⟨by kernel_rfl⟩
instance Tryz.ty32 : Ty Tryz.prog 32 ⟨.struct [(0, 3), (1, 22), (2, 30), (3, 30)], 4, 64, [.int .i64, .int .i64, .slice, .slice]⟩ := ⟨by kernel_rfl⟩
instance Tryz.ty33 : Ty Tryz.prog 33 ⟨.struct [(0, 3), (1, 22), (2, 30), (3, 30)], 4, 64, [.int .i64, .int .i64, .slice, .slice]⟩ := ⟨by kernel_rfl⟩
instance Tryz.ty34 : Ty Tryz.prog 34 ⟨.func, 1, 8, [.func]⟩ := ⟨by kernel_rfl⟩
instance Tryz.ty35 : Ty Tryz.prog 35 ⟨.int .i64, 1, 8, [.int .i64]⟩ := ⟨by kernel_rfl⟩
instance Tryz.ty37 : Ty Tryz.prog 37 ⟨.func, 1, 8, [.func]⟩ := ⟨by kernel_rfl⟩
instance Tryz.ty39 : Ty Tryz.prog 39 ⟨.func, 1, 8, [.func]⟩ := ⟨by kernel_rfl⟩
instance Tryz.ty40 : Ty Tryz.prog 40 ⟨.func, 1, 8, [.func]⟩ := ⟨by kernel_rfl⟩
instance Tryz.ty41 : Ty Tryz.prog 41 ⟨.func, 1, 8, [.func]⟩ := ⟨by kernel_rfl⟩
instance Tryz.ty42 : Ty Tryz.prog 42 ⟨.func, 1, 8, [.func]⟩ := ⟨by kernel_rfl⟩
instance Tryz.ty43 : Ty Tryz.prog 43 ⟨.func, 1, 8, [.func]⟩ := ⟨by kernel_rfl⟩
instance Tryz.ty44 : Ty Tryz.prog 44 ⟨.func, 1, 8, [.func]⟩ := ⟨by kernel_rfl⟩
instance Tryz.ty45 : Ty Tryz.prog 45 ⟨.func, 1, 8, [.func]⟩ := ⟨by kernel_rfl⟩
instance Tryz.ty46 : Ty Tryz.prog 46 ⟨.func, 1, 8, [.func]⟩ := ⟨by kernel_rfl⟩
instance Tryz.ty47 : Ty Tryz.prog 47 ⟨.slice 53, 1, 24, [.slice]⟩ := ⟨by kernel_rfl⟩
instance Tryz.ty49 : Ty Tryz.prog 49 ⟨.func, 1, 8, [.func]⟩ := ⟨by kernel_rfl⟩
instance Tryz.ty51 : Ty Tryz.prog 51 ⟨.func, 1, 8, [.func]⟩ := ⟨by kernel_rfl⟩
instance Tryz.ty52 : Ty Tryz.prog 52 ⟨.struct [(0, 3), (1, 3)], 2, 16, [.int .i64, .int .i64]⟩ := ⟨by kernel_rfl⟩
instance Tryz.ty53 : Ty Tryz.prog 53 ⟨.struct [(0, 3), (1, 3)], 2, 16, [.int .i64, .int .i64]⟩ := ⟨by kernel_rfl⟩
instance Tryz.ty54 : Ty Tryz.prog 54 ⟨.func, 1, 8, [.func]⟩ := ⟨by kernel_rfl⟩
instance Tryz.ty55 : Ty Tryz.prog 55 ⟨.func, 1, 8, [.func]⟩ := ⟨by kernel_rfl⟩
instance Tryz.ty56 : Ty Tryz.prog 56 ⟨.func, 1, 8, [.func]⟩ := ⟨by kernel_rfl⟩
instance Tryz.ty57 : Ty Tryz.prog 57 ⟨.func, 1, 8, [.func]⟩ := ⟨by kernel_rfl⟩
instance Tryz.ty58 : Ty Tryz.prog 58 ⟨.func, 1, 8, [.func]⟩ := ⟨by kernel_rfl⟩
instance Tryz.ty59 : Ty Tryz.prog 59 ⟨.func, 1, 8, [.func]⟩ := ⟨by kernel_rfl⟩
instance Tryz.ty60 : Ty Tryz.prog 60 ⟨.func, 1, 8, [.func]⟩ := ⟨by kernel_rfl⟩
instance Tryz.ty62 : Ty Tryz.prog 62 ⟨.func, 1, 8, [.func]⟩ := ⟨by kernel_rfl⟩
instance Tryz.ty63 : Ty Tryz.prog 63 ⟨.func, 1, 8, [.func]⟩ := ⟨by kernel_rfl⟩
instance Tryz.ty65 : Ty Tryz.prog 65 ⟨.func, 1, 8, [.func]⟩ := ⟨by kernel_rfl⟩
instance Tryz.ty67 : Ty Tryz.prog 67 ⟨.func, 1, 8, [.func]⟩ := ⟨by kernel_rfl⟩
instance Tryz.ty68 : Ty Tryz.prog 68 ⟨.func, 1, 8, [.func]⟩ := ⟨by kernel_rfl⟩
instance Tryz.ty69 : Ty Tryz.prog 69 ⟨.func, 1, 8, [.func]⟩ := ⟨by kernel_rfl⟩
instance Tryz.ty70 : Ty Tryz.prog 70 ⟨.func, 1, 8, [.func]⟩ := ⟨by kernel_rfl⟩
instance Tryz.ty72 : Ty Tryz.prog 72 ⟨.func, 1, 8, [.func]⟩ := ⟨by kernel_rfl⟩
instance Tryz.ty73 : Ty Tryz.prog 73 ⟨.func, 1, 8, [.func]⟩ := ⟨by kernel_rfl⟩
instance Tryz.ty74 : Ty Tryz.prog 74 ⟨.func, 1, 8, [.func]⟩ := ⟨by kernel_rfl⟩
instance Tryz.ty75 : Ty Tryz.prog 75 ⟨.func, 1, 8, [.func]⟩ := ⟨by kernel_rfl⟩
instance Tryz.ty76 : Ty Tryz.prog 76 ⟨.func, 1, 8, [.func]⟩ := ⟨by kernel_rfl⟩
instance Tryz.ty77 : Ty Tryz.prog 77 ⟨.array 5 76, 5, 40, [.func, .func, .func, .func, .func]⟩ := ⟨by kernel_rfl⟩
instance Tryz.ty78 : Ty Tryz.prog 78 ⟨.struct [(0, 3)], 1, 8, [.int .i64]⟩ := ⟨by kernel_rfl⟩
instance Tryz.ty79 : Ty Tryz.prog 79 ⟨.struct [(0, 3)], 1, 8, [.int .i64]⟩ := ⟨by kernel_rfl⟩
instance Tryz.ty80 : Ty Tryz.prog 80 ⟨.func, 1, 8, [.func]⟩ := ⟨by kernel_rfl⟩
instance Tryz.ty81 : Ty Tryz.prog 81 ⟨.func, 1, 8, [.func]⟩ := ⟨by kernel_rfl⟩
instance Tryz.ty83 : Ty Tryz.prog 83 ⟨.func, 1, 8, [.func]⟩ := ⟨by kernel_rfl⟩
instance Tryz.ty84 : Ty Tryz.prog 84 ⟨.func, 1, 8, [.func]⟩ := ⟨by kernel_rfl⟩
instance Tryz.ty85 : Ty Tryz.prog 85 ⟨.struct [(0, 33), (4, 3)], 5, 72, [.int .i64, .int .i64, .slice, .slice, .int .i64]⟩ := ⟨by kernel_rfl⟩
instance Tryz.ty86 : Ty Tryz.prog 86 ⟨.struct [(0, 33), (4, 3)], 5, 72, [.int .i64, .int .i64, .slice, .slice, .int .i64]⟩ := ⟨by kernel_rfl⟩
instance Tryz.ty88 : Ty Tryz.prog 88 ⟨.func, 1, 8, [.func]⟩ := ⟨by kernel_rfl⟩
instance Tryz.ty89 : Ty Tryz.prog 89 ⟨.func, 1, 8, [.func]⟩ := ⟨by kernel_rfl⟩
instance Tryz.ty90 : Ty Tryz.prog 90 ⟨.func, 1, 8, [.func]⟩ := ⟨by kernel_rfl⟩
instance Tryz.ty91 : Ty Tryz.prog 91 ⟨.func, 1, 8, [.func]⟩ := ⟨by kernel_rfl⟩
instance Tryz.ty92 : Ty Tryz.prog 92 ⟨.func, 1, 8, [.func]⟩ := ⟨by kernel_rfl⟩
instance Tryz.ty93 : Ty Tryz.prog 93 ⟨.func, 1, 8, [.func]⟩ := ⟨by kernel_rfl⟩
instance Tryz.ty94 : Ty Tryz.prog 94 ⟨.func, 1, 8, [.func]⟩ := ⟨by kernel_rfl⟩
instance Tryz.ty95 : Ty Tryz.prog 95 ⟨.func, 1, 8, [.func]⟩ := ⟨by kernel_rfl⟩
instance Tryz.ty96 : Ty Tryz.prog 96 ⟨.func, 1, 8, [.func]⟩ := ⟨by kernel_rfl⟩
instance Tryz.ty97 : Ty Tryz.prog 97 ⟨.func, 1, 8, [.func]⟩ := ⟨by kernel_rfl⟩
instance Tryz.ty99 : Ty Tryz.prog 99 ⟨.func, 1, 8, [.func]⟩ := ⟨by kernel_rfl⟩
instance Tryz.ty100 : Ty Tryz.prog 100 ⟨.func, 1, 8, [.func]⟩ := ⟨by kernel_rfl⟩
instance Tryz.ty101 : Ty Tryz.prog 101 ⟨.slice 102, 1, 24, [.slice]⟩ := ⟨by kernel_rfl⟩
instance Tryz.ty102 : Ty Tryz.prog 102 ⟨.map 3 53, 1, 8, [.map]⟩ := ⟨by kernel_rfl⟩
instance Tryz.ty103 : Ty Tryz.prog 103 ⟨.func, 1, 8, [.func]⟩ := ⟨by kernel_rfl⟩
instance Tryz.ty104 : Ty Tryz.prog 104 ⟨.func, 1, 8, [.func]⟩ := ⟨by kernel_rfl⟩
instance Tryz.ty105 : Ty Tryz.prog 105 ⟨.func, 1, 8, [.func]⟩ := ⟨by kernel_rfl⟩
instance Tryz.ty106 : Ty Tryz.prog 106 ⟨.func, 1, 8, [.func]⟩ := ⟨by kernel_rfl⟩
instance Tryz.ty107 : Ty Tryz.prog 107 ⟨.struct [(0, 30)], 1, 24, [.slice]⟩ := ⟨by kernel_rfl⟩
instance Tryz.ty108 : Ty Tryz.prog 108 ⟨.struct [(0, 30)], 1, 24, [.slice]⟩ := ⟨by kernel_rfl⟩
instance Tryz.ty109 : Ty Tryz.prog 109 ⟨.func, 1, 8, [.func]⟩ := ⟨by kernel_rfl⟩
instance Tryz.ty110 : Ty Tryz.prog 110 ⟨.func, 1, 8, [.func]⟩ := ⟨by kernel_rfl⟩
instance Tryz.ty111 : Ty Tryz.prog 111 ⟨.func, 1, 8, [.func]⟩ := ⟨by kernel_rfl⟩
instance Tryz.ty112 : Ty Tryz.prog 112 ⟨.func, 1, 8, [.func]⟩ := ⟨by kernel_rfl⟩
instance Tryz.ty113 : Ty Tryz.prog 113 ⟨.slice 30, 1, 24, [.slice]⟩ := ⟨by kernel_rfl⟩
instance Tryz.ty114 : Ty Tryz.prog 114 ⟨.func, 1, 8, [.func]⟩ := ⟨by kernel_rfl⟩
instance Tryz.ty115 : Ty Tryz.prog 115 ⟨.func, 1, 8, [.func]⟩ := ⟨by kernel_rfl⟩
instance Tryz.ty116 : Ty Tryz.prog 116 ⟨.func, 1, 8, [.func]⟩ := ⟨by kernel_rfl⟩
instance Tryz.ty117 : Ty Tryz.prog 117 ⟨.func, 1, 8, [.func]⟩ := ⟨by kernel_rfl⟩
instance Tryz.ty118 : Ty Tryz.prog 118 ⟨.slice 9, 1, 24, [.slice]⟩ := ⟨by kernel_rfl⟩
instance Tryz.ty119 : Ty Tryz.prog 119 ⟨.func, 1, 8, [.func]⟩ := ⟨by kernel_rfl⟩
instance Tryz.ty120 : Ty Tryz.prog 120 ⟨.func, 1, 8, [.func]⟩ := ⟨by kernel_rfl⟩
instance Tryz.ty121 : Ty Tryz.prog 121 ⟨.func, 1, 8, [.func]⟩ := ⟨by kernel_rfl⟩
instance Tryz.ty122 : Ty Tryz.prog 122 ⟨.func, 1, 8, [.func]⟩ := ⟨by kernel_rfl⟩
instance Tryz.ty124 : Ty Tryz.prog 124 ⟨.func, 1, 8, [.func]⟩ := ⟨by kernel_rfl⟩
instance Tryz.ty125 : Ty Tryz.prog 125 ⟨.func, 1, 8, [.func]⟩ := ⟨by kernel_rfl⟩
instance Tryz.ty127 : Ty Tryz.prog 127 ⟨.struct [(0, 9)], 1, 16, [.str]⟩ := ⟨by kernel_rfl⟩
instance Tryz.ty128 : Ty Tryz.prog 128 ⟨.struct [(0, 9)], 1, 16, [.str]⟩ := ⟨by kernel_rfl⟩
instance Tryz.ty129 : Ty Tryz.prog 129 ⟨.func, 1, 8, [.func]⟩ := ⟨by kernel_rfl⟩
instance Tryz.ty130 : Ty Tryz.prog 130 ⟨.func, 1, 8, [.func]⟩ := ⟨by kernel_rfl⟩
instance Tryz.ty131 : Ty Tryz.prog 131 ⟨.func, 1, 8, [.func]⟩ := ⟨by kernel_rfl⟩
instance Tryz.ty132 : Ty Tryz.prog 132 ⟨.func, 1, 8, [.func]⟩ := ⟨by kernel_rfl⟩
instance Tryz.ty133 : Ty Tryz.prog 133 ⟨.func, 1, 8, [.func]⟩ := ⟨by kernel_rfl⟩
instance Tryz.ty134 : Ty Tryz.prog 134 ⟨.array 4 9, 4, 64, [.str, .str, .str, .str]⟩ := ⟨by kernel_rfl⟩
instance Tryz.ty135 : Ty Tryz.prog 135 ⟨.func, 1, 8, [.func]⟩ := ⟨by kernel_rfl⟩
instance Tryz.ty136 : Ty Tryz.prog 136 ⟨.func, 1, 8, [.func]⟩ := ⟨by kernel_rfl⟩
instance Tryz.ty137 : Ty Tryz.prog 137 ⟨.func, 1, 8, [.func]⟩ := ⟨by kernel_rfl⟩
instance Tryz.ty138 : Ty Tryz.prog 138 ⟨.func, 1, 8, [.func]⟩ := ⟨by kernel_rfl⟩
instance Tryz.ty139 : Ty Tryz.prog 139 ⟨.func, 1, 8, [.func]⟩ := ⟨by kernel_rfl⟩
instance Tryz.ty140 : Ty Tryz.prog 140 ⟨.func, 1, 8, [.func]⟩ := ⟨by kernel_rfl⟩
instance Tryz.ty141 : Ty Tryz.prog 141 ⟨.func, 1, 8, [.func]⟩ := ⟨by kernel_rfl⟩
instance Tryz.ty142 : Ty Tryz.prog 142 ⟨.func, 1, 8, [.func]⟩ := ⟨by kernel_rfl⟩
instance Tryz.ty143 : Ty Tryz.prog 143 ⟨.struct [(0, 33)], 4, 64, [.int .i64, .int .i64, .slice, .slice]⟩ := ⟨by kernel_rfl⟩
instance Tryz.ty144 : Ty Tryz.prog 144 ⟨.struct [(0, 33)], 4, 64, [.int .i64, .int .i64, .slice, .slice]⟩ := ⟨by kernel_rfl⟩
instance Tryz.ty145 : Ty Tryz.prog 145 ⟨.slice 151, 1, 24, [.slice]⟩ := ⟨by kernel_rfl⟩
instance Tryz.ty146 : Ty Tryz.prog 146 ⟨.struct [(0, 3)], 1, 8, [.int .i64]⟩ := ⟨by kernel_rfl⟩
instance Tryz.ty147 : Ty Tryz.prog 147 ⟨.struct [(0, 3)], 1, 8, [.int .i64]⟩ := ⟨by kernel_rfl⟩
instance Tryz.ty148 : Ty Tryz.prog 148 ⟨.struct [(0, 3)], 1, 8, [.int .i64]⟩ := ⟨by kernel_rfl⟩
instance Tryz.ty149 : Ty Tryz.prog 149 ⟨.struct [(0, 3)], 1, 8, [.int .i64]⟩ := ⟨by kernel_rfl⟩
instance Tryz.ty150 : Ty Tryz.prog 150 ⟨.iface, 1, 16, [.iface]⟩ := ⟨by kernel_rfl⟩
instance Tryz.ty151 : Ty Tryz.prog 151 ⟨.iface, 1, 16, [.iface]⟩ := ⟨by kernel_rfl⟩
instance Tryz.ty152 : Ty Tryz.prog 152 ⟨.func, 1, 8, [.func]⟩ := ⟨by kernel_rfl⟩
instance Tryz.ty153 : Ty Tryz.prog 153 ⟨.slice 5, 1, 24, [.slice]⟩ := ⟨by kernel_rfl⟩
instance Tryz.ty154 : Ty Tryz.prog 154 ⟨.func, 1, 8, [.func]⟩ := ⟨by kernel_rfl⟩
instance Tryz.ty155 : Ty Tryz.prog 155 ⟨.func, 1, 8, [.func]⟩ := ⟨by kernel_rfl⟩
instance Tryz.ty157 : Ty Tryz.prog 157 ⟨.func, 1, 8, [.func]⟩ := ⟨by kernel_rfl⟩
instance Tryz.ty158 : Ty Tryz.prog 158 ⟨.func, 1, 8, [.func]⟩ := ⟨by kernel_rfl⟩
instance Tryz.ty159 : Ty Tryz.prog 159 ⟨.func, 1, 8, [.func]⟩ := ⟨by kernel_rfl⟩
instance Tryz.ty160 : Ty Tryz.prog 160 ⟨.func, 1, 8, [.func]⟩ := ⟨by kernel_rfl⟩
instance Tryz.ty161 : Ty Tryz.prog 161 ⟨.int .u64, 1, 8, [.int .u64]⟩ := ⟨by kernel_rfl⟩
instance Tryz.ty162 : Ty Tryz.prog 162 ⟨.array 24 5, 24, 24, [.int .u8, .int .u8, .int .u8, .int .u8, .int .u8, .int .u8, .int .u8, .int .u8, .int .u8, .int .u8, .int .u8, .int .u8, .int .u8, .int .u8, .int .u8, .int .u8, .int .u8, .int .u8, .int .u8, .int .u8, .int .u8, .int .u8, .int .u8, .int .u8]⟩ := ⟨by kernel_rfl⟩
instance Tryz.ty163 : Ty Tryz.prog 163 ⟨.int .u64, 1, 8, [.int .u64]⟩ := ⟨by kernel_rfl⟩
instance Tryz.ty164 : Ty Tryz.prog 164 ⟨.func, 1, 8, [.func]⟩ := ⟨by kernel_rfl⟩
instance Tryz.ty165 : Ty Tryz.prog 165 ⟨.func, 1, 8, [.func]⟩ := ⟨by kernel_rfl⟩
instance Tryz.ty167 : Ty Tryz.prog 167 ⟨.func, 1, 8, [.func]⟩ := ⟨by kernel_rfl⟩
instance Tryz.ty169 : Ty Tryz.prog 169 ⟨.struct [(0, 5), (1, 5)], 2, 2, [.int .u8, .int .u8]⟩ := ⟨by kernel_rfl⟩
instance Tryz.ty170 : Ty Tryz.prog 170 ⟨.struct [(0, 5), (1, 5)], 2, 2, [.int .u8, .int .u8]⟩ := ⟨by kernel_rfl⟩
instance Tryz.ty171 : Ty Tryz.prog 171 ⟨.array 16 170, 32, 32, [.int .u8, .int .u8, .int .u8, .int .u8, .int .u8, .int .u8, .int .u8, .int .u8, .int .u8, .int .u8, .int .u8, .int .u8, .int .u8, .int .u8, .int .u8, .int .u8, .int .u8, .int .u8, .int .u8, .int .u8, .int .u8, .int .u8, .int .u8, .int .u8, .int .u8, .int .u8, .int .u8, .int .u8, .int .u8, .int .u8, .int .u8, .int .u8]⟩ := ⟨by kernel_rfl⟩
instance Tryz.ty172 : Ty Tryz.prog 172 ⟨.int .u32, 1, 4, [.int .u32]⟩ := ⟨by kernel_rfl⟩
instance Tryz.ty174 : Ty Tryz.prog 174 ⟨.func, 1, 8, [.func]⟩ := ⟨by kernel_rfl⟩
instance Tryz.ty175 : Ty Tryz.prog 175 ⟨.func, 1, 8, [.func]⟩ := ⟨by kernel_rfl⟩
instance Tryz.ty176 : Ty Tryz.prog 176 ⟨.array 20 163, 20, 160, [.int .u64, .int .u64, .int .u64, .int .u64, .int .u64, .int .u64, .int .u64, .int .u64, .int .u64, .int .u64, .int .u64, .int .u64, .int .u64, .int .u64, .int .u64, .int .u64, .int .u64, .int .u64, .int .u64, .int .u64]⟩ := ⟨by kernel_rfl⟩
instance Tryz.ty178 : Ty Tryz.prog 178 ⟨.func, 1, 8, [.func]⟩ := ⟨by kernel_rfl⟩
instance Tryz.ty179 : Ty Tryz.prog 179 ⟨.func, 1, 8, [.func]⟩ := ⟨by kernel_rfl⟩
instance Tryz.ty180 : Ty Tryz.prog 180 ⟨.array 32 5, 32, 32, [.int .u8, .int .u8, .int .u8, .int .u8, .int .u8, .int .u8, .int .u8, .int .u8, .int .u8, .int .u8, .int .u8, .int .u8, .int .u8, .int .u8, .int .u8, .int .u8, .int .u8, .int .u8, .int .u8, .int .u8, .int .u8, .int .u8, .int .u8, .int .u8, .int .u8, .int .u8, .int .u8, .int .u8, .int .u8, .int .u8, .int .u8, .int .u8]⟩ := ⟨by kernel_rfl⟩
instance Tryz.ty182 : Ty Tryz.prog 182 ⟨.func, 1, 8, [.func]⟩ := ⟨by kernel_rfl⟩
instance Tryz.ty183 : Ty Tryz.prog 183 ⟨.struct [(0, 17), (1, 17), (2, 17), (3, 9)], 4, 40, [.ptr, .ptr, .ptr, .str]⟩ := ⟨by kernel_rfl⟩
instance Tryz.ty184 : Ty Tryz.prog 184 ⟨.struct [(0, 17), (1, 17), (2, 17), (3, 9)], 4, 40, [.ptr, .ptr, .ptr, .str]⟩ := ⟨by kernel_rfl⟩
instance Tryz.ty185 : Ty Tryz.prog 185 ⟨.array 0 16, 0, 0, []⟩ := ⟨by kernel_rfl⟩
instance Tryz.ty186 : Ty Tryz.prog 186 ⟨.struct [(0, 185)], 0, 0, []⟩ := ⟨by kernel_rfl⟩
instance Tryz.ty187 : Ty Tryz.prog 187 ⟨.struct [(0, 185)], 0, 0, []⟩ := ⟨by kernel_rfl⟩
instance Tryz.ty188 : Ty Tryz.prog 188 ⟨.func, 1, 8, [.func]⟩ := ⟨by kernel_rfl⟩
instance Tryz.ty189 : Ty Tryz.prog 189 ⟨.int .u8, 1, 1, [.int .u8]⟩ := ⟨by kernel_rfl⟩
instance Tryz.ty190 : Ty Tryz.prog 190 ⟨.int .u8, 1, 1, [.int .u8]⟩ := ⟨by kernel_rfl⟩
instance Tryz.ty191 : Ty Tryz.prog 191 ⟨.func, 1, 8, [.func]⟩ := ⟨by kernel_rfl⟩
instance Tryz.ty192 : Ty Tryz.prog 192 ⟨.ptr 5, 1, 8, [.ptr]⟩ := ⟨by kernel_rfl⟩
instance Tryz.ty193 : Ty Tryz.prog 193 ⟨.int .i32, 1, 4, [.int .i32]⟩ := ⟨by kernel_rfl⟩
instance Tryz.ty194 : Ty Tryz.prog 194 ⟨.int .i32, 1, 4, [.int .i32]⟩ := ⟨by kernel_rfl⟩
instance Tryz.ty195 : Ty Tryz.prog 195 ⟨.struct [(0, 12), (1, 12), (2, 172), (3, 189), (4, 5), (5, 5), (6, 190), (7, 191), (8, 192), (9, 193), (10, 194)], 11, 48, [.int .u64, .int .u64, .int .u32, .int .u8, .int .u8, .int .u8, .int .u8, .func, .ptr, .int .i32, .int .i32]⟩ := ⟨by kernel_rfl⟩
instance Tryz.ty196 : Ty Tryz.prog 196 ⟨.struct [(0, 12), (1, 12), (2, 172), (3, 189), (4, 5), (5, 5), (6, 190), (7, 191), (8, 192), (9, 193), (10, 194)], 11, 48, [.int .u64, .int .u64, .int .u32, .int .u8, .int .u8, .int .u8, .int .u8, .func, .ptr, .int .i32, .int .i32]⟩ := ⟨by kernel_rfl⟩
instance Tryz.fn2 : FnOk Tryz.prog 2 := fnOk Tryz.func2 rfl (by kernel_rfl)
instance Tryz.fn3 : FnOk Tryz.prog 3 := fnOk Tryz.func3 rfl (by kernel_rfl)
instance Tryz.fn4 : FnOk Tryz.prog 4 := fnOk Tryz.func4 rfl (by kernel_rfl)
instance Tryz.fn5 : FnOk Tryz.prog 5 := fnOk Tryz.func5 rfl (by kernel_rfl)
instance Tryz.fn6 : FnOk Tryz.prog 6 := fnOk Tryz.func6 rfl (by kernel_rfl)
instance Tryz.fn7 : FnOk Tryz.prog 7 := fnOk Tryz.func7 rfl (by kernel_rfl)
instance Tryz.fn8 : FnOk Tryz.prog 8 := fnOk Tryz.func8 rfl (by kernel_rfl)
instance Tryz.fn9 : FnOk Tryz.prog 9 := fnOk Tryz.func9 rfl (by kernel_rfl)
instance Tryz.fn10 : FnOk Tryz.prog 10 := fnOk Tryz.func10 rfl (by kernel_rfl)
instance Tryz.fn11 : FnOk Tryz.prog 11 := fnOk Tryz.func11 rfl (by kernel_rfl)
instance Tryz.fn12 : FnOk Tryz.prog 12 := fnOk Tryz.func12 rfl (by kernel_rfl)
instance Tryz.fn13 : FnOk Tryz.prog 13 := fnOk Tryz.func13 rfl (by kernel_rfl)
instance Tryz.fn14 : FnOk Tryz.prog 14 := fnOk Tryz.func14 rfl (by kernel_rfl)
instance Tryz.fn15 : FnOk Tryz.prog 15 := fnOk Tryz.func15 rfl (by kernel_rfl)
instance Tryz.fn16 : FnOk Tryz.prog 16 := fnOk Tryz.func16 rfl (by kernel_rfl)
instance Tryz.fn17 : FnOk Tryz.prog 17 := fnOk Tryz.func17 rfl (by kernel_rfl)
instance Tryz.fn18 : FnOk Tryz.prog 18 := fnOk Tryz.func18 rfl (by kernel_rfl)
instance Tryz.fn19 : FnOk Tryz.prog 19 := fnOk Tryz.func19 rfl (by kernel_rfl)
instance Tryz.fn20 : FnOk Tryz.prog 20 := fnOk Tryz.func20 rfl (by kernel_rfl)
instance Tryz.fn21 : FnOk Tryz.prog 21 := fnOk Tryz.func21 rfl (by kernel_rfl)
instance Tryz.fn22 : FnOk Tryz.prog 22 := fnOk Tryz.func22 rfl (by kernel_rfl)
instance Tryz.fn23 : FnOk Tryz.prog 23 := fnOk Tryz.func23 rfl (by kernel_rfl)
instance Tryz.fn24 : FnOk Tryz.prog 24 := fnOk Tryz.func24 rfl (by kernel_rfl)
instance Tryz.fn25 : FnOk Tryz.prog 25 := fnOk Tryz.func25 rfl (by kernel_rfl)
instance Tryz.fn26 : FnOk Tryz.prog 26 := fnOk Tryz.func26 rfl (by kernel_rfl)
instance Tryz.fn27 : FnOk Tryz.prog 27 := fnOk Tryz.func27 rfl (by kernel_rfl)
instance Tryz.fn28 : FnOk Tryz.prog 28 := fnOk Tryz.func28 rfl (by kernel_rfl)
instance Tryz.fn29 : FnOk Tryz.prog 29 := fnOk Tryz.func29 rfl (by kernel_rfl)
instance Tryz.fn30 : FnOk Tryz.prog 30 := fnOk Tryz.func30 rfl (by kernel_rfl)
instance Tryz.fn31 : FnOk Tryz.prog 31 := fnOk Tryz.func31 rfl (by kernel_rfl)
instance Tryz.fn32 : FnOk Tryz.prog 32 := fnOk Tryz.func32 rfl (by kernel_rfl)
instance Tryz.fn33 : FnOk Tryz.prog 33 := fnOk Tryz.func33 rfl (by kernel_rfl)
instance Tryz.fn34 : FnOk Tryz.prog 34 := fnOk Tryz.func34 rfl (by kernel_rfl)
instance Tryz.fn35 : FnOk Tryz.prog 35 := fnOk Tryz.func35 rfl (by kernel_rfl)
instance Tryz.fn36 : FnOk Tryz.prog 36 := fnOk Tryz.func36 rfl (by kernel_rfl)
instance Tryz.fn37 : FnOk Tryz.prog 37 := fnOk Tryz.func37 rfl (by kernel_rfl)
instance Tryz.fn38 : FnOk Tryz.prog 38 := fnOk Tryz.func38 rfl (by kernel_rfl)
instance Tryz.fn39 : FnOk Tryz.prog 39 := fnOk Tryz.func39 rfl (by kernel_rfl)
instance Tryz.fn40 : FnOk Tryz.prog 40 := fnOk Tryz.func40 rfl (by kernel_rfl)
instance Tryz.fn41 : FnOk Tryz.prog 41 := fnOk Tryz.func41 rfl (by kernel_rfl)
instance Tryz.fn42 : FnOk Tryz.prog 42 := fnOk Tryz.func42 rfl (by kernel_rfl)
instance Tryz.fn43 : FnOk Tryz.prog 43 := fnOk Tryz.func43 rfl (by kernel_rfl)
instance Tryz.fn44 : FnOk Tryz.prog 44 := fnOk Tryz.func44 rfl (by kernel_rfl)
instance Tryz.fn45 : FnOk Tryz.prog 45 := fnOk Tryz.func45 rfl (by kernel_rfl)
instance Tryz.fn46 : FnOk Tryz.prog 46 := fnOk Tryz.func46 rfl (by kernel_rfl)
instance Tryz.fn47 : FnOk Tryz.prog 47 := fnOk Tryz.func47 rfl (by kernel_rfl)
instance Tryz.fn48 : FnOk Tryz.prog 48 := fnOk Tryz.func48 rfl (by kernel_rfl)
instance Tryz.fn49 : FnOk Tryz.prog 49 := fnOk Tryz.func49 rfl (by kernel_rfl)
instance Tryz.fn50 : FnOk Tryz.prog 50 := fnOk Tryz.func50 rfl (by kernel_rfl)
instance Tryz.fn51 : FnOk Tryz.prog 51 := fnOk Tryz.func51 rfl (by kernel_rfl)
instance Tryz.fn52 : FnOk Tryz.prog 52 := fnOk Tryz.func52 rfl (by kernel_rfl)
instance Tryz.fn53 : FnOk Tryz.prog 53 := fnOk Tryz.func53 rfl (by kernel_rfl)
instance Tryz.fn54 : FnOk Tryz.prog 54 := fnOk Tryz.func54 rfl (by kernel_rfl)
instance Tryz.fn55 : FnOk Tryz.prog 55 := fnOk Tryz.func55 rfl (by kernel_rfl)
instance Tryz.fn56 : FnOk Tryz.prog 56 := fnOk Tryz.func56 rfl (by kernel_rfl)
instance Tryz.fn57 : FnOk Tryz.prog 57 := fnOk Tryz.func57 rfl (by kernel_rfl)
instance Tryz.fn58 : FnOk Tryz.prog 58 := fnOk Tryz.func58 rfl (by kernel_rfl)
instance Tryz.fn59 : FnOk Tryz.prog 59 := fnOk Tryz.func59 rfl (by kernel_rfl)
instance Tryz.fn60 : FnOk Tryz.prog 60 := fnOk Tryz.func60 rfl (by kernel_rfl)
instance Tryz.fn61 : FnOk Tryz.prog 61 := fnOk Tryz.func61 rfl (by kernel_rfl)
instance Tryz.fn62 : FnOk Tryz.prog 62 := fnOk Tryz.func62 rfl (by kernel_rfl)
instance Tryz.fn63 : FnOk Tryz.prog 63 := fnOk Tryz.func63 rfl (by kernel_rfl)
instance Tryz.fn64 : FnOk Tryz.prog 64 := fnOk Tryz.func64 rfl (by kernel_rfl)
instance Tryz.fn65 : FnOk Tryz.prog 65 := fnOk Tryz.func65 rfl (by kernel_rfl)
instance Tryz.fn66 : FnOk Tryz.prog 66 := fnOk Tryz.func66 rfl (by kernel_rfl)
instance Tryz.fn67 : FnOk Tryz.prog 67 := fnOk Tryz.func67 rfl (by kernel_rfl)
instance Tryz.fn68 : FnOk Tryz.prog 68 := fnOk Tryz.func68 rfl (by kernel_rfl)
instance Tryz.fn69 : FnOk Tryz.prog 69 := fnOk Tryz.func69 rfl (by kernel_rfl)
instance Tryz.fn70 : FnOk Tryz.prog 70 := fnOk Tryz.func70 rfl (by kernel_rfl)
instance Tryz.fn71 : FnOk Tryz.prog 71 := fnOk Tryz.func71 rfl (by kernel_rfl)
instance Tryz.fn72 : FnOk Tryz.prog 72 := fnOk Tryz.func72 rfl (by kernel_rfl)
instance Tryz.fn73 : FnOk Tryz.prog 73 := fnOk Tryz.func73 rfl (by kernel_rfl)
instance Tryz.fn74 : FnOk Tryz.prog 74 := fnOk Tryz.func74 rfl (by kernel_rfl)
instance Tryz.fn75 : FnOk Tryz.prog 75 := fnOk Tryz.func75 rfl (by kernel_rfl)
instance Tryz.fn76 : FnOk Tryz.prog 76 := fnOk Tryz.func76 rfl (by kernel_rfl)
instance Tryz.fn77 : FnOk Tryz.prog 77 := fnOk Tryz.func77 rfl (by kernel_rfl)
instance Tryz.fn78 : FnOk Tryz.prog 78 := fnOk Tryz.func78 rfl (by kernel_rfl)
instance Tryz.fn79 : FnOk Tryz.prog 79 := fnOk Tryz.func79 rfl (by kernel_rfl)
instance Tryz.fn80 : FnOk Tryz.prog 80 := fnOk Tryz.func80 rfl (by kernel_rfl)
instance Tryz.fn81 : FnOk Tryz.prog 81 := fnOk Tryz.func81 rfl (by kernel_rfl)
instance Tryz.fn82 : FnOk Tryz.prog 82 := fnOk Tryz.func82 rfl (by kernel_rfl)
instance Tryz.fn83 : FnOk Tryz.prog 83 := fnOk Tryz.func83 rfl (by kernel_rfl)
instance Tryz.fn84 : FnOk Tryz.prog 84 := fnOk Tryz.func84 rfl (by kernel_rfl)
instance Tryz.fn85 : FnOk Tryz.prog 85 := fnOk Tryz.func85 rfl (by kernel_rfl)
instance Tryz.fn86 : FnOk Tryz.prog 86 := fnOk Tryz.func86 rfl (by kernel_rfl)
instance Tryz.fn87 : FnOk Tryz.prog 87 := fnOk Tryz.func87 rfl (by kernel_rfl)
instance Tryz.fn88 : FnOk Tryz.prog 88 := fnOk Tryz.func88 rfl (by kernel_rfl)
instance Tryz.fn89 : FnOk Tryz.prog 89 := fnOk Tryz.func89 rfl (by kernel_rfl)
instance Tryz.fn90 : FnOk Tryz.prog 90 := fnOk Tryz.func90 rfl (by kernel_rfl)
instance Tryz.fn91 : FnOk Tryz.prog 91 := fnOk Tryz.func91 rfl (by kernel_rfl)
instance Tryz.fn92 : FnOk Tryz.prog 92 := fnOk Tryz.func92 rfl (by kernel_rfl)
instance Tryz.fn93 : FnOk Tryz.prog 93 := fnOk Tryz.func93 rfl (by kernel_rfl)
instance Tryz.fn94 : FnOk Tryz.prog 94 := fnOk Tryz.func94 rfl (by kernel_rfl)
instance Tryz.fn95 : FnOk Tryz.prog 95 := fnOk Tryz.func95 rfl (by kernel_rfl)
instance Tryz.fn96 : FnOk Tryz.prog 96 := fnOk Tryz.func96 rfl (by kernel_rfl)
instance Tryz.fn97 : FnOk Tryz.prog 97 := fnOk Tryz.func97 rfl (by kernel_rfl)
instance Tryz.fn98 : FnOk Tryz.prog 98 := fnOk Tryz.func98 rfl (by kernel_rfl)
instance Tryz.fn99 : FnOk Tryz.prog 99 := fnOk Tryz.func99 rfl (by kernel_rfl)
instance Tryz.fn100 : FnOk Tryz.prog 100 := fnOk Tryz.func100 rfl (by kernel_rfl)
instance Tryz.fn101 : FnOk Tryz.prog 101 := fnOk Tryz.func101 rfl (by kernel_rfl)
instance Tryz.fn102 : FnOk Tryz.prog 102 := fnOk Tryz.func102 rfl (by kernel_rfl)
instance Tryz.fn103 : FnOk Tryz.prog 103 := fnOk Tryz.func103 rfl (by kernel_rfl)
instance Tryz.fn104 : FnOk Tryz.prog 104 := fnOk Tryz.func104 rfl (by kernel_rfl)
instance Tryz.fn105 : FnOk Tryz.prog 105 := fnOk Tryz.func105 rfl (by kernel_rfl)
instance Tryz.fn106 : FnOk Tryz.prog 106 := fnOk Tryz.func106 rfl (by kernel_rfl)
instance Tryz.fn107 : FnOk Tryz.prog 107 := fnOk Tryz.func107 rfl (by kernel_rfl)
instance Tryz.fn108 : FnOk Tryz.prog 108 := fnOk Tryz.func108 rfl (by kernel_rfl)
instance Tryz.fn109 : FnOk Tryz.prog 109 := fnOk Tryz.func109 rfl (by kernel_rfl)
instance Tryz.fn110 : FnOk Tryz.prog 110 := fnOk Tryz.func110 rfl (by kernel_rfl)
instance Tryz.fn111 : FnOk Tryz.prog 111 := fnOk Tryz.func111 rfl (by kernel_rfl)
instance Tryz.fn112 : FnOk Tryz.prog 112 := fnOk Tryz.func112 rfl (by kernel_rfl)
instance Tryz.fn113 : FnOk Tryz.prog 113 := fnOk Tryz.func113 rfl (by kernel_rfl)
instance Tryz.fn114 : FnOk Tryz.prog 114 := fnOk Tryz.func114 rfl (by kernel_rfl)
instance Tryz.fn115 : FnOk Tryz.prog 115 := fnOk Tryz.func115 rfl (by kernel_rfl)
instance Tryz.fn116 : FnOk Tryz.prog 116 := fnOk Tryz.func116 rfl (by kernel_rfl)
instance Tryz.fn117 : FnOk Tryz.prog 117 := fnOk Tryz.func117 rfl (by kernel_rfl)
instance Tryz.fn118 : FnOk Tryz.prog 118 := fnOk Tryz.func118 rfl (by kernel_rfl)
instance Tryz.fn119 : FnOk Tryz.prog 119 := fnOk Tryz.func119 rfl (by kernel_rfl)
instance Tryz.fn120 : FnOk Tryz.prog 120 := fnOk Tryz.func120 rfl (by kernel_rfl)
instance Tryz.fn121 : FnOk Tryz.prog 121 := fnOk Tryz.func121 rfl (by kernel_rfl)
instance Tryz.fn122 : FnOk Tryz.prog 122 := fnOk Tryz.func122 rfl (by kernel_rfl)
instance Tryz.fn123 : FnOk Tryz.prog 123 := fnOk Tryz.func123 rfl (by kernel_rfl)
instance Tryz.fn124 : FnOk Tryz.prog 124 := fnOk Tryz.func124 rfl (by kernel_rfl)
instance Tryz.fn125 : FnOk Tryz.prog 125 := fnOk Tryz.func125 rfl (by kernel_rfl)
instance Tryz.fn126 : FnOk Tryz.prog 126 := fnOk Tryz.func126 rfl (by kernel_rfl)
instance Tryz.fn127 : FnOk Tryz.prog 127 := fnOk Tryz.func127 rfl (by kernel_rfl)
instance Tryz.fn128 : FnOk Tryz.prog 128 := fnOk Tryz.func128 rfl (by kernel_rfl)
instance Tryz.fn129 : FnOk Tryz.prog 129 := fnOk Tryz.func129 rfl (by kernel_rfl)
instance Tryz.fn130 : FnOk Tryz.prog 130 := fnOk Tryz.func130 rfl (by kernel_rfl)
instance Tryz.fn131 : FnOk Tryz.prog 131 := fnOk Tryz.func131 rfl (by kernel_rfl)
instance Tryz.fn132 : FnOk Tryz.prog 132 := fnOk Tryz.func132 rfl (by kernel_rfl)
instance Tryz.fn133 : FnOk Tryz.prog 133 := fnOk Tryz.func133 rfl (by kernel_rfl)
instance Tryz.fn134 : FnOk Tryz.prog 134 := fnOk Tryz.func134 rfl (by kernel_rfl)
instance Tryz.fn136 : FnOk Tryz.prog 136 := fnOk Tryz.func136 rfl (by kernel_rfl)
instance Tryz.fn137 : FnOk Tryz.prog 137 := fnOk Tryz.func137 rfl (by kernel_rfl)
instance Tryz.fn138 : FnOk Tryz.prog 138 := fnOk Tryz.func138 rfl (by kernel_rfl)
instance Tryz.fn139 : FnOk Tryz.prog 139 := fnOk Tryz.func139 rfl (by kernel_rfl)
instance Tryz.fn140 : FnOk Tryz.prog 140 := fnOk Tryz.func140 rfl (by kernel_rfl)
instance Tryz.fn142 : FnOk Tryz.prog 142 := fnOk Tryz.func142 rfl (by kernel_rfl)
instance Tryz.fn143 : FnOk Tryz.prog 143 := fnOk Tryz.func143 rfl (by kernel_rfl)
instance Tryz.fn144 : FnOk Tryz.prog 144 := fnOk Tryz.func144 rfl (by kernel_rfl)
instance Tryz.fn145 : FnOk Tryz.prog 145 := fnOk Tryz.func145 rfl (by kernel_rfl)
instance Tryz.fn146 : FnOk Tryz.prog 146 := fnOk Tryz.func146 rfl (by kernel_rfl)
instance Tryz.fn147 : FnOk Tryz.prog 147 := fnOk Tryz.func147 rfl (by kernel_rfl)
instance Tryz.fn149 : FnOk Tryz.prog 149 := fnOk Tryz.func149 rfl (by kernel_rfl)
instance Tryz.fn150 : FnOk Tryz.prog 150 := fnOk Tryz.func150 rfl (by kernel_rfl)
instance Tryz.fn151 : FnOk Tryz.prog 151 := fnOk Tryz.func151 rfl (by kernel_rfl)
instance Tryz.fn152 : FnOk Tryz.prog 152 := fnOk Tryz.func152 rfl (by kernel_rfl)
instance Tryz.fn153 : FnOk Tryz.prog 153 := fnOk Tryz.func153 rfl (by kernel_rfl)
instance Tryz.fn154 : FnOk Tryz.prog 154 := fnOk Tryz.func154 rfl (by kernel_rfl)
instance Tryz.fn155 : FnOk Tryz.prog 155 := fnOk Tryz.func155 rfl (by kernel_rfl)
instance Tryz.fn156 : FnOk Tryz.prog 156 := fnOk Tryz.func156 rfl (by kernel_rfl)
instance Tryz.fn183 : FnOk Tryz.prog 183 := fnOk Tryz.func183 rfl (by kernel_rfl)
theorem Tryz.eql53 : EqL Tryz.prog 2 53 ⟨.struct [(0, 3), (1, 3)], 2, 16, [.int .i64, .int .i64]⟩ := eqL_struct Tryz.ty53 (by kernel_rfl) ⟨rfl, _, Tryz.ty3, fun _ => rfl, (eqL_int Tryz.ty3).mono (by decide), rfl, _, Tryz.ty3, fun _ => rfl, (eqL_int Tryz.ty3).mono (by decide), rfl⟩
instance Tryz.eqc53 : EqC Tryz.prog 53 ⟨.struct [(0, 3), (1, 3)], 2, 16, [.int .i64, .int .i64]⟩ := ⟨⟨2, by decide, Tryz.eql53⟩, by kernel_rfl, rfl⟩
end Go.Proofs


namespace Go.Proofs
open Go Go.Sx

/-! # What is plain about round -/

def inB (x lo hi : Int) : Bool := decide (lo ≤ x) && decide (x ≤ hi)
theorem inB_iff {x lo hi : Int} : inB x lo hi = true ↔ lo ≤ x ∧ x ≤ hi := by simp [inB]
abbrev iv (i : Int) : Value := .int .i64 i
theorem all_succ {P : Nat → Prop} {k : Nat} (h : ∀ j, j < k → P j) (hk : P k) : ∀ j, j < k + 1 → P j := fun j hj => by
  rcases Nat.lt_succ_iff_lt_or_eq.1 hj with h1 | h1
  · exact h j h1
  · exact h1 ▸ hk
theorem all_of_get {α : Type} {p : α → Bool} {xs : List α} (h : ∀ j, j < xs.length → ∀ y, xs[j]? = some y → p y = true) : xs.all p = true := by
  rw [List.all_eq_true]
  intro y hy
  obtain ⟨j, hj⟩ := List.mem_iff_getElem?.1 hy
  exact h j (List.getElem?_eq_some_iff.1 hj).1 y hj
theorem not_all_of_get {α : Type} {p : α → Bool} {xs : List α} {j : Nat} {y : α} (h : xs[j]? = some y) (hp : p y = false) : xs.all p = false := by
  rw [Bool.eq_false_iff]
  intro h2
  rw [List.all_eq_true] at h2
  have := h2 y (List.mem_of_getElem? h)
  rw [hp] at this; cases this
theorem map_get {α β : Type} {f : α → β} {xs : List α} {k : Nat} {y : α} (h : xs[k]? = some y) : (xs.map f)[k]? = some (f y) := by
  rw [List.getElem?_map, h]; rfl
theorem some_get {α : Type} {xs : List α} {k : Nat} (h : k < xs.length) : ∃ y, xs[k]? = some y := ⟨_, List.getElem?_eq_getElem h⟩
/-- Ints as rows. -/
@[reducible] def intC (i : Int) : List Value := [.int .i64 i]
@[reducible] def ints (xs : List Int) : List (List Value) := xs.map intC
@[reducible] def spanC (s : Int × Int) : List Value := [.int .i64 s.1, .int .i64 s.2]
@[reducible] def spanV (s : Int × Int) : Value := .agg (spanC s).toArray
@[reducible] def spans (xs : List (Int × Int)) : List (List Value) := xs.map spanC
def sumI (xs : List Int) : Int := xs.foldl (· + ·) 0
theorem sumI_nil : sumI [] = 0 := rfl
theorem sumI_snoc (xs : List Int) (y : Int) : sumI (xs ++ [y]) = sumI xs + y := by simp [sumI]
theorem take_snoc {α : Type} {xs : List α} {k : Nat} {y : α} (h : xs[k]? = some y) : xs.take (k + 1) = xs.take k ++ [y] := by
  rw [List.take_add_one, h]; rfl
theorem sumI_take {xs : List Int} {k : Nat} {y : Int} (h : xs[k]? = some y) : sumI (xs.take (k + 1)) = sumI (xs.take k) + y := by
  rw [take_snoc h, sumI_snoc]
theorem sumI_bd {B : Int} (hB : 0 ≤ B) : ∀ {xs : List Int}, (∀ x ∈ xs, 0 ≤ x ∧ x ≤ B) → ∀ k, 0 ≤ sumI (xs.take k) ∧ sumI (xs.take k) ≤ k * B := by
  intro xs h k
  induction k with
  | zero => simp [sumI]
  | succ k ih =>
    by_cases hk : k < xs.length
    · obtain ⟨y, hy⟩ := some_get hk
      have := h y (List.mem_of_getElem? hy)
      rw [sumI_take hy]
      have e : ((k + 1 : Nat) : Int) * B = (k : Int) * B + B := by rw [Int.natCast_add, Int.add_mul]; simp
      omega
    · have e1 : xs.take (k + 1) = xs := List.take_of_length_le (by omega)
      have e2 : xs.take k = xs := List.take_of_length_le (by omega)
      rw [e2] at ih
      rw [e1]
      have e : ((k + 1 : Nat) : Int) * B = (k : Int) * B + B := by rw [Int.natCast_add, Int.add_mul]; simp
      omega
/-- The first of what is so, or -1. -/
def idxI {α : Type} (p : α → Bool) : List α → Int
  | [] => -1
  | x :: xs => if p x then 0 else if idxI p xs < 0 then -1 else idxI p xs + 1
theorem idxI_any {α : Type} {p : α → Bool} : ∀ {xs : List α}, decide (0 ≤ idxI p xs) = xs.any p
  | [] => rfl
  | x :: xs => by
    have ih := idxI_any (p := p) (xs := xs)
    rw [List.any_cons, ← ih]
    by_cases hp : p x = true
    · simp [idxI, hp]
    · have hp' : p x = false := by simpa using hp
      simp only [idxI, hp', Bool.false_eq_true, if_false, Bool.false_or]
      split
      · rename_i h; simp; omega
      · rename_i h; simp; omega
theorem idxI_found {α : Type} {p : α → Bool} : ∀ {xs : List α} {k : Nat} {y : α}, (∀ j, j < k → ∀ y, xs[j]? = some y → p y = false) → xs[k]? = some y → p y = true → idxI p xs = k
  | x :: xs, 0, y, _, h, hp => by simp at h; subst h; simp [idxI, hp]
  | x :: xs, k + 1, y, hn, h, hp => by
    have h0 := hn 0 (Nat.succ_pos _) x rfl
    have ih := idxI_found (p := p) (xs := xs) (k := k) (y := y) (fun j hj y hy => hn (j + 1) (by omega) y (by simpa using hy)) (by simpa using h) hp
    simp only [idxI, h0, Bool.false_eq_true, if_false, ih]
    rw [if_neg (by omega)]; simp
theorem idxI_none {α : Type} {p : α → Bool} : ∀ {xs : List α}, (∀ j, j < xs.length → ∀ y, xs[j]? = some y → p y = false) → idxI p xs = -1
  | [], _ => rfl
  | x :: xs, hn => by
    have h0 := hn 0 (by simp) x rfl
    have ih := idxI_none (p := p) (xs := xs) (fun j hj y hy => hn (j + 1) (by simpa using hj) y (by simpa using hy))
    simp [idxI, h0, ih]
theorem eq_of_get {α : Type} {xs ys : List α} (h : xs.length = ys.length) (hall : ∀ j, j < xs.length → ∀ y z, xs[j]? = some y → ys[j]? = some z → y = z) : xs = ys := by
  apply List.ext_getElem h
  intro i h1 h2
  exact hall i h1 _ _ (List.getElem?_eq_getElem h1) (List.getElem?_eq_getElem h2)
theorem ne_of_get {α : Type} {xs ys : List α} {k : Nat} {y z : α} (hy : xs[k]? = some y) (hz : ys[k]? = some z) (hne : y ≠ z) : xs ≠ ys := fun h => by
  subst h; rw [hy] at hz; cases hz; exact hne rfl
theorem ne_of_len {α : Type} {xs ys : List α} (h : ¬ (xs.length = ys.length)) : xs ≠ ys := fun e => h (by rw [e])
/-- Lexicographic order. -/
def befI : List Int → List Int → Bool
  | x :: xs, y :: ys => if x = y then befI xs ys else decide (x < y)
  | [], _ :: _ => true
  | _, [] => false
theorem befI_at : ∀ {xs ys : List Int} {k : Nat} {y z : Int}, (∀ j, j < k → ∀ y z, xs[j]? = some y → ys[j]? = some z → y = z) → xs[k]? = some y → ys[k]? = some z → y ≠ z → befI xs ys = decide (y < z)
  | x :: xs, u :: ys, 0, y, z, _, hy, hz, hne => by
    simp at hy hz; subst hy; subst hz; simp [befI, hne]
  | x :: xs, u :: ys, k + 1, y, z, h, hy, hz, hne => by
    have h0 := h 0 (Nat.succ_pos _) x u rfl rfl
    simp only [befI, h0, if_true]
    exact befI_at (fun j hj y z h1 h2 => h (j + 1) (Nat.succ_lt_succ hj) y z (by simpa using h1) (by simpa using h2)) (by simpa using hy) (by simpa using hz) hne
  | [], _, _, _, _, _, hy, _, _ => by simp at hy
  | _ :: _, [], _, _, _, _, _, hz, _ => by simp at hz
theorem befI_end : ∀ {xs ys : List Int}, (∀ j, j < min xs.length ys.length → ∀ y z, xs[j]? = some y → ys[j]? = some z → y = z) → befI xs ys = decide (xs.length < ys.length)
  | [], [], _ => by simp [befI]
  | [], _ :: _, _ => by simp [befI]
  | _ :: _, [], _ => by simp [befI]
  | x :: xs, y :: ys, h => by
    have h0 := h 0 (by simp) x y rfl rfl
    simp only [befI, h0, if_true, List.length_cons, Nat.add_lt_add_iff_right]
    exact befI_end (fun j hj a b h1 h2 => h (j + 1) (by have := hj; simp only [List.length_cons]; omega) a b (by simpa using h1) (by simpa using h2))
theorem ints_snoc (xs : List Int) (y : Int) : ints (xs ++ [y]) = ints xs ++ [intC y] := by simp
theorem emod_bd (a : Int) {b : Int} (h : 0 < b) : 0 ≤ a % b ∧ a % b < b := ⟨Int.emod_nonneg _ (by omega), Int.emod_lt_of_pos _ h⟩
/-- A slice of ints with an error, made by the call. -/
def RSlE (xs : List Int) (er : Int) : Nat → World → Value → Prop := fun lo w1 v => ∃ a1 c1, v = .tuple #[.slice a1 xs.length c1, .int .i64 er] ∧ Ro w1 lo w1.heap.size a1 xs.length c1 1 (ints xs)
def RSl (xs : List Int) : Nat → World → Value → Prop := fun lo w1 v => ∃ a1 c1, v = .slice a1 xs.length c1 ∧ Ro w1 lo w1.heap.size a1 xs.length c1 1 (ints xs)
theorem rsle_of {xs : List Int} {er : Int} {n c lo : Nat} {a : Option Addr} {w : World} (hn : xs.length = n) (h : Ro w lo w.heap.size a n c 1 (ints xs)) : RSlE xs er lo w (.tuple #[.slice a n c, .int .i64 er]) := by
  subst hn; exact ⟨_, _, rfl, h⟩
theorem rsl_of {xs : List Int} {n c lo : Nat} {a : Option Addr} {w : World} (hn : xs.length = n) (h : Ro w lo w.heap.size a n c 1 (ints xs)) : RSl xs lo w (.slice a n c) := by
  subst hn; exact ⟨_, _, rfl, h⟩
def rngN : Int → Nat → List Int
  | _, 0 => []
  | lo, k + 1 => lo :: rngN (lo + 1) k
def stepE (of : List Int → Int) (is : List Int → Bool) (st : Option (Int × Int)) (t : List Int) : Option (Int × Int) :=
  if is t then some (match st with | none => (min (of t) (of t), max (of t) (of t)) | some s => (min s.1 (of t), max s.2 (of t))) else st
def spF (of : List Int → Int) (is : List Int → Bool) (L : List (List Int)) : Option (Int × Int) := L.foldl (stepE of is) none
def endsV (o : Option (Int × Int)) : (Int × Int) × Int := match o with | none => ((0, 0), 5) | some s => (s, 0)
theorem mem_rngN : ∀ {k : Nat} {lo x : Int}, x ∈ rngN lo k ↔ lo ≤ x ∧ x < lo + k
  | 0, lo, x => by simp [rngN] <;> omega
  | k + 1, lo, x => by
    simp only [rngN, List.mem_cons, mem_rngN (k := k)]; omega
theorem rb_up {w w' : World} {b : Nat} {cs : List Value} (h : Rb w 0 w.heap.size b cs) (hb : BelowH w w') : Rb w' 0 w'.heap.size b cs := by
  obtain ⟨h1, h2, t, h3⟩ := h
  exact ⟨h1, Nat.lt_of_lt_of_le h2 hb.1, t, (hb.2 b h2).trans h3⟩
theorem below_of {w w' : World} {H : List Seg} (s : St w H w') [hs : SnapAt w H 0 w.heap.size] : RowKit.Below w.heap.size w w' := s.below0 hs.mem
def RSlB (xs : List Int) (bb : Bool) : Nat → World → Value → Prop := fun lo w1 v => ∃ a1 c1, v = .tuple #[.slice a1 xs.length c1, .bool bb] ∧ Ro w1 lo w1.heap.size a1 xs.length c1 1 (ints xs)
theorem tx_use {x : Cx} {e : Exit} {ks : List KI} {E : Env} {H H2 : List Seg} {p : Prop} [h : RegAt H 0 0 (fun _ => p) H2] (k : p → TX x e ks E H) : TX x e ks E H := fun a w ea s => by
  obtain ⟨_, _, hp, _⟩ := s.reg_at (lo := 0) (hi := 0) (p := fun _ => p)
  exact k hp a w ea s
theorem ro_take {w : World} {lo hi : Nat} {a : Option Addr} {n cap sz k : Nat} {xs : List (List Value)} (h : Ro w lo hi a n cap sz xs) (hk : k ≤ n) : Ro w lo hi a k cap sz (xs.take k) := by
  refine ⟨by rw [List.length_take, h.len]; omega, fun x hx => h.each x (List.mem_of_mem_take hx), Nat.le_trans hk h.le, ?_⟩
  rcases h.here with ⟨h1, h2, h3⟩ | ⟨ad, h1, h2, h3, h4, h5⟩
  · exact .inl ⟨h1, by omega, h3⟩
  · refine .inr ⟨ad, h1, h2, h3, h4, fun i x hx j v hv => h5 i x ?_ j v hv⟩
    rw [List.getElem?_take] at hx
    split at hx
    · exact hx
    · cases hx
def SpInv (of : List Int → Int) (is : List Int → Bool) (seen : List (List Int)) : Option (Int × Int) → Prop
  | none => ∀ t ∈ seen, is t = false
  | some s => (∃ t ∈ seen, is t = true ∧ of t = s.1) ∧ (∃ t ∈ seen, is t = true ∧ of t = s.2) ∧ ∀ t ∈ seen, is t = true → s.1 ≤ of t ∧ of t ≤ s.2
theorem sp_step {of : List Int → Int} {is : List Int → Bool} {seen : List (List Int)} {st : Option (Int × Int)} (h : SpInv of is seen st) (t : List Int) : SpInv of is (seen ++ [t]) (stepE of is st t) := by
  have hm : ∀ u, u ∈ seen ++ [t] ↔ u ∈ seen ∨ u = t := fun u => by simp
  by_cases ht : is t = true
  · cases st with
    | none =>
      simp only [stepE, ht, if_true, SpInv, Int.min_self, Int.max_self]
      refine ⟨⟨t, by simp, ht, rfl⟩, ⟨t, by simp, ht, rfl⟩, fun u hu hi => ?_⟩
      rcases (hm u).1 hu with h1 | rfl
      · have := h u h1; rw [hi] at this; cases this
      · exact ⟨Int.le_refl _, Int.le_refl _⟩
    | some s =>
      simp only [stepE, ht, if_true, SpInv]
      obtain ⟨⟨u1, h1, h2, h3⟩, ⟨u2, h4, h5, h6⟩, h7⟩ := h
      have e1 := Int.min_def s.1 (of t)
      have e2 := Int.max_def s.2 (of t)
      refine ⟨?_, ?_, fun u hu hi => ?_⟩
      · by_cases hle : s.1 ≤ of t
        · exact ⟨u1, (hm _).2 (.inl h1), h2, by rw [e1, if_pos hle]; exact h3⟩
        · exact ⟨t, by simp, ht, by rw [e1, if_neg hle]⟩
      · by_cases hle : s.2 ≤ of t
        · exact ⟨t, by simp, ht, by rw [e2, if_pos hle]⟩
        · exact ⟨u2, (hm _).2 (.inl h4), h5, by rw [e2, if_neg hle]; exact h6⟩
      · rcases (hm u).1 hu with h1 | rfl
        · have := h7 u h1 hi; omega
        · omega
  · have hf : is t = false := by simpa using ht
    have : stepE of is st t = st := by simp [stepE, hf]
    rw [this]
    cases st with
    | none =>
      intro u hu
      rcases (hm u).1 hu with h1 | rfl
      · exact h u h1
      · exact hf
    | some s =>
      obtain ⟨⟨u1, h1, h2, h3⟩, ⟨u2, h4, h5, h6⟩, h7⟩ := h
      refine ⟨⟨u1, (hm _).2 (.inl h1), h2, h3⟩, ⟨u2, (hm _).2 (.inl h4), h5, h6⟩, fun u hu hi => ?_⟩
      rcases (hm u).1 hu with h1 | rfl
      · exact h7 u h1 hi
      · rw [hf] at hi; cases hi
theorem sp_fold {of : List Int → Int} {is : List Int → Bool} : ∀ (L seen : List (List Int)) (st : Option (Int × Int)), SpInv of is seen st → SpInv of is (seen ++ L) (L.foldl (stepE of is) st)
  | [], seen, st, h => by simpa using h
  | t :: L, seen, st, h => by
    have := sp_fold L (seen ++ [t]) (stepE of is st t) (sp_step h t)
    simpa using this
theorem sp_inv (of : List Int → Int) (is : List Int → Bool) (L : List (List Int)) : SpInv of is L (spF of is L) := by
  have := sp_fold (of := of) (is := is) L [] none (fun t h => by cases h)
  simpa [spF] using this
theorem sp_none {of : List Int → Int} {is : List Int → Bool} {L : List (List Int)} (h : ∀ t ∈ L, is t = false) : spF of is L = none := by
  have := sp_inv of is L
  cases hq : spF of is L with
  | none => rfl
  | some s =>
    rw [hq] at this
    obtain ⟨⟨t, h1, h2, _⟩, _⟩ := this
    rw [h t h1] at h2; cases h2
theorem sp_some {of : List Int → Int} {is : List Int → Bool} {L : List (List Int)} {t : List Int} (h : t ∈ L) (hi : is t = true) : ∃ s, spF of is L = some s ∧ SpInv of is L (some s) := by
  have := sp_inv of is L
  cases hq : spF of is L with
  | none => rw [hq] at this; have := this t h; rw [hi] at this; cases this
  | some s => rw [hq] at this; exact ⟨s, rfl, this⟩
/-- Where two truths are the ends. -/
theorem sp_ends {of : List Int → Int} {L : List (List Int)} {u v : List Int} (hu : u ∈ L) (hv : v ∈ L) (h : ∀ t ∈ L, of u ≤ of t ∧ of t ≤ of v) : spF of (fun _ => true) L = some (of u, of v) := by
  obtain ⟨s, h1, ⟨t1, h2, _, h3⟩, ⟨t2, h4, _, h5⟩, h6⟩ := sp_some (of := of) (is := fun _ => true) hu rfl
  have a1 := h t1 h2
  have a2 := h t2 h4
  have a3 := h6 u hu rfl
  have a4 := h6 v hv rfl
  rw [h1, show s = (of u, of v) from Prod.ext (by show s.1 = of u; omega) (by show s.2 = of v; omega)]
theorem pfx_snoc {α : Type} {A C : List α} {n : α} (h : n :: C <:+ A) : A.take (A.length - C.length) = A.take (A.length - (n :: C).length) ++ [n] := by
  obtain ⟨p, rfl⟩ := h
  simp only [List.length_append, List.length_cons]
  rw [show p.length + (C.length + 1) - C.length = p.length + 1 from by omega, show p.length + (C.length + 1) - (C.length + 1) = p.length from by omega]
  simp [List.take_append]; exact List.take_of_length_le (by omega)
/-- What of a list has come, if L is left. -/
def pfxL {α : Type} (A L : List α) : List α := A.take (A.length - L.length)
theorem pfxL_all {α : Type} (A : List α) : pfxL A A = [] := by simp [pfxL]
theorem pfxL_nil {α : Type} (A : List α) : pfxL A [] = A := by simp [pfxL]
theorem pfxL_cons {α : Type} {A C : List α} {n : α} (h : n :: C <:+ A) : pfxL A C = pfxL A (n :: C) ++ [n] := pfx_snoc h
theorem sfx_tail {α : Type} {A C : List α} {n : α} (h : n :: C <:+ A) : C <:+ A := (List.suffix_cons n C).trans h
theorem sfx_mem {α : Type} {A C : List α} {n : α} (h : n :: C <:+ A) : n ∈ A := h.subset (List.mem_cons_self ..)

/-! ## Sheets -/

structure Sh where
  unit : Int
  rule : Int
  errs : List Int
  rows : List Int
  deriving DecidableEq
/-- Where a sheet's lists lie. -/
structure Pt where
  ea : Option Addr
  ec : Nat
  ra : Option Addr
  rc : Nat
@[reducible] def shC (s : Sh) (p : Pt) : List Value := [.int .i64 s.unit, .int .i64 s.rule, .slice p.ea s.errs.length p.ec, .slice p.ra s.rows.length p.rc]
@[reducible] def shV (s : Sh) (p : Pt) : Value := .agg (shC s p).toArray
@[reducible] def tbC (s : Sh) (p : Pt) (g : Int) : List Value := [.int .i64 s.unit, .int .i64 s.rule, .slice p.ea s.errs.length p.ec, .slice p.ra s.rows.length p.rc, .int .i64 g]
@[reducible] def tbV (s : Sh) (p : Pt) (g : Int) : Value := .agg (tbC s p g).toArray

def errsOk : Int → List Int → Bool
  | _, [] => true
  | m, e :: es => inB e 0 m && errsOk e es
def isSh (s : Sh) : Bool :=
  inB s.unit 1 1000 && inB s.rule 1 4 && inB s.errs.length 1 5 && inB s.rows.length 1 5 && errsOk 8 s.errs && s.rows.all (fun n => inB n (-100000) 100000)
theorem isSh_b {s : Sh} (h : isSh s = true) : (1 ≤ s.unit ∧ s.unit ≤ 1000) ∧ (1 ≤ s.rule ∧ s.rule ≤ 4) ∧ (1 ≤ s.errs.length ∧ s.errs.length ≤ 5) ∧ (1 ≤ s.rows.length ∧ s.rows.length ≤ 5) := by
  simp only [isSh, inB, Bool.and_eq_true, decide_eq_true_eq] at h; omega
theorem isSh_e {s : Sh} (h : isSh s = true) : errsOk 8 s.errs = true := by
  simp only [isSh, Bool.and_eq_true] at h; exact h.1.2
theorem isSh_r {s : Sh} (h : isSh s = true) {n : Int} (hn : n ∈ s.rows) : -100000 ≤ n ∧ n ≤ 100000 := by
  simp only [isSh, Bool.and_eq_true, List.all_eq_true] at h
  exact inB_iff.1 (h.2 n hn)
/-- The errors up to one, walked. -/
theorem errsOk_iff : ∀ {m : Int} {es : List Int}, errsOk m es = true ↔ ∀ (j : Nat) e, es[j]? = some e → inB e 0 (if j = 0 then m else es.getD (j - 1) 0) = true
  | m, [] => by simp [errsOk]
  | m, e :: es => by
    simp only [errsOk, Bool.and_eq_true, errsOk_iff (m := e) (es := es)]
    constructor
    · rintro ⟨h1, h2⟩ j x hx
      cases j with
      | zero => simp at hx; subst hx; simpa using h1
      | succ j =>
        have h3 := h2 j x (by simpa using hx)
        cases j with
        | zero => simpa using h3
        | succ j => simpa using h3
    · intro h
      refine ⟨by simpa using h 0 e rfl, fun j x hx => ?_⟩
      have h3 := h (j + 1) x (by simpa using hx)
      cases j with
      | zero => simpa using h3
      | succ j => simpa using h3
theorem errs_b : ∀ {m : Int} {es : List Int}, errsOk m es = true → ∀ e ∈ es, 0 ≤ e ∧ e ≤ m
  | m, [], _, e, h => by cases h
  | m, x :: es, h, e, he => by
    simp only [errsOk, Bool.and_eq_true] at h
    have h1 := inB_iff.1 h.1
    rcases List.mem_cons.1 he with rfl | he
    · exact h1
    · have := errs_b h.2 e he; omega
theorem errs_mono : ∀ {m : Int} {es : List Int}, errsOk m es = true → ∀ (i j : Nat) a b, i ≤ j → es[i]? = some a → es[j]? = some b → b ≤ a
  | m, [], _, i, j, a, b, _, h, _ => by simp at h
  | m, x :: es, h, i, j, a, b, hij, ha, hb => by
    simp only [errsOk, Bool.and_eq_true] at h
    cases i with
    | zero =>
      simp at ha; subst ha
      cases j with
      | zero => simp at hb; omega
      | succ j => exact (errs_b h.2 b (List.mem_of_getElem? (by simpa using hb))).2
    | succ i =>
      cases j with
      | zero => omega
      | succ j => exact errs_mono h.2 i j a b (by omega) (by simpa using ha) (by simpa using hb)

/-! ## Rounding -/

def toF (u r v : Int) : Int :=
  if r = 1 then v / u else if r = 2 then -((-v) / u) else if r = 3 then (2 * v + u) / (2 * u)
  else if 2 * v + u = 2 * u * ((2 * v + u) / (2 * u)) ∧ (2 * v + u) / (2 * u) % 2 ≠ 0 then (2 * v + u) / (2 * u) - 1 else (2 * v + u) / (2 * u)

/-- v = q u + r. -/
theorem ediv_bd (v : Int) {u : Int} (hu : 0 < u) : v / u * u ≤ v ∧ v < v / u * u + u := by
  have h1 := Int.ediv_mul_le v (Int.ne_of_gt hu)
  have h2 := Int.lt_ediv_add_one_mul_self v hu
  rw [Int.add_mul, Int.one_mul] at h2
  exact ⟨h1, h2⟩
theorem ediv_uniq {v u q : Int} (hu : 0 < u) (h1 : q * u ≤ v) (h2 : v < q * u + u) : v / u = q := by
  have h3 : q ≤ v / u := (Int.le_ediv_iff_mul_le hu).2 h1
  have h4 : v / u < q + 1 := (Int.ediv_lt_iff_lt_mul hu).2 (by rw [Int.add_mul, Int.one_mul]; exact h2)
  omega
theorem tdiv_cases (v : Int) {u : Int} (hu : 0 < u) : (v.tdiv u = v / u ∧ ¬ (v < v.tdiv u * u)) ∨ (v.tdiv u - 1 = v / u ∧ v < v.tdiv u * u) := by
  have hs : u.sign = 1 := Int.sign_eq_one_of_pos hu
  have hb := ediv_bd v hu
  rw [Int.tdiv_eq_ediv, hs]
  split
  · left; rw [Int.add_zero]; exact ⟨rfl, by omega⟩
  · right; refine ⟨by omega, ?_⟩; rw [Int.add_mul, Int.one_mul]; exact hb.2
theorem tdiv_bd (v : Int) {u B : Int} (hu : 0 < u) (huB : u ≤ B) (hv : -B ≤ v ∧ v ≤ B) : (-(2 * B) ≤ v.tdiv u * u ∧ v.tdiv u * u ≤ 2 * B) ∧ -B - 1 ≤ v.tdiv u ∧ v.tdiv u ≤ B + 1 := by
  have hb := ediv_bd v hu
  have h3 : -B ≤ v / u := (Int.le_ediv_iff_mul_le hu).2 (by
    have : B * 1 ≤ B * u := Int.mul_le_mul_of_nonneg_left (by omega) (by omega)
    rw [Int.neg_mul]; omega)
  have h4 : v / u ≤ B := by
    rcases Int.le_total 0 v with h | h
    · exact Int.le_trans (Int.ediv_le_self u h) hv.2
    · have : v / u < 1 := (Int.ediv_lt_iff_lt_mul hu).2 (by omega)
      omega
  rcases tdiv_cases v hu with ⟨h1, h2⟩ | ⟨h1, h2⟩
  · rw [h1]; omega
  · have h5 : v.tdiv u = v / u + 1 := by omega
    rw [h5, Int.add_mul, Int.one_mul]; omega
theorem near_eq (v : Int) {u : Int} (hu : 0 < u) : (2 * v + u) / (2 * u) = if u ≤ 2 * (v - v / u * u) then v / u + 1 else v / u := by
  have hb := ediv_bd v hu
  generalize hq : v / u = q at *
  have e : q * (2 * u) = 2 * (q * u) := by rw [Int.mul_left_comm]
  have e2 : (q + 1) * (2 * u) = 2 * (q * u) + 2 * u := by rw [Int.add_mul, e, Int.one_mul]
  split
  · exact ediv_uniq (by omega) (by rw [e2]; omega) (by rw [e2]; omega)
  · exact ediv_uniq (by omega) (by rw [e]; omega) (by rw [e]; omega)
theorem toF_b {u r v B : Int} (hu : 1 ≤ u) (hv : -B ≤ v ∧ v ≤ B) : -B - 1 ≤ toF u r v ∧ toF u r v ≤ B + 1 := by
  have key : ∀ v : Int, -B ≤ v ∧ v ≤ B → -B ≤ v / u ∧ v / u ≤ B := fun v hv => by
    have hu0 : 0 < u := by omega
    have h3 : -B ≤ v / u := (Int.le_ediv_iff_mul_le hu0).2 (by
      have : B * 1 ≤ B * u := Int.mul_le_mul_of_nonneg_left (by omega) (by omega)
      rw [Int.neg_mul]; omega)
    refine ⟨h3, ?_⟩
    rcases Int.le_total 0 v with h | h
    · exact Int.le_trans (Int.ediv_le_self u h) hv.2
    · have : v / u < 1 := (Int.ediv_lt_iff_lt_mul hu0).2 (by omega)
      omega
  have h1 := key v hv
  have h2 := key (-v) (by omega)
  have h3 := near_eq v (u := u) (by omega)
  have hb := ediv_bd v (u := u) (by omega)
  unfold toF
  split
  · omega
  split
  · omega
  by_cases hc : u ≤ 2 * (v - v / u * u)
  · rw [if_pos hc] at h3
    split
    · omega
    · by_cases h4 : v / u = B
      · -- v = B u: no rest
        have h5 : v / u * u ≤ B := Int.le_trans hb.1 hv.2
        have h6 : B * 1 ≤ B * u := Int.mul_le_mul_of_nonneg_left (by omega) (by omega)
        rw [h4] at hb h5
        split <;> omega
      · split <;> omega
  · rw [if_neg hc] at h3
    split
    · omega
    · split <;> omega
theorem ediv_mono {a b u : Int} (hu : 0 < u) (h : a ≤ b) : a / u ≤ b / u := Int.ediv_le_ediv hu h
theorem toF_mono {u r v w : Int} (hu : 1 ≤ u) (h : v ≤ w) : toF u r v ≤ toF u r w := by
  have hu0 : 0 < u := by omega
  have h1 := ediv_mono hu0 h
  have h2 := ediv_mono hu0 (show -w ≤ -v by omega)
  have h3 := ediv_mono (show 0 < 2 * u by omega) (show 2 * v + u ≤ 2 * w + u by omega)
  unfold toF
  split
  · exact h1
  split
  · omega
  split
  · exact h3
  have hb := ediv_bd (2 * v + u) (show 0 < 2 * u by omega)
  generalize (2 * v + u) / (2 * u) = p at *
  generalize (2 * w + u) / (2 * u) = q at *
  by_cases hpq : p = q
  · subst hpq
    by_cases hvw : v = w
    · subst hvw; omega
    · have : ¬ (2 * w + u = 2 * u * p) := fun hh => by
        have h5 : 2 * u * p = p * (2 * u) := Int.mul_comm _ _
        omega
      split <;> simp only [this, false_and, if_false] <;> omega
  · split <;> split <;> omega
theorem tmod2 (n : Int) : (n.tmod 2 ≠ 0) ↔ n % 2 ≠ 0 := by
  rw [Int.tmod_eq_emod]; split <;> omega

def fig (s : Sh) (n : Int) : Int := toF s.unit s.rule n

/-! ## The ends of sets of numbers -/

def mgO : Option Sp → Option Sp → Option Sp
  | none, b => b
  | some a, none => some a
  | some a, some b => some (min a.1 b.1, max a.2 b.2)
def shO (o : Option Sp) (f : Int) : Option Sp := o.map fun v => (v.1 + f, v.2 + f)
def IsE (S : Int → Prop) : Option Sp → Prop
  | none => ∀ x, ¬ S x
  | some v => S v.1 ∧ S v.2 ∧ ∀ x, S x → v.1 ≤ x ∧ x ≤ v.2
theorem isE_uniq {S : Int → Prop} {a b : Option Sp} (ha : IsE S a) (hb : IsE S b) : a = b := by
  cases a with
  | none => cases b with
    | none => rfl
    | some v => exact absurd hb.1 (ha v.1)
  | some u => cases b with
    | none => exact absurd ha.1 (hb u.1)
    | some v =>
      obtain ⟨h1, h2, h3⟩ := ha
      obtain ⟨h4, h5, h6⟩ := hb
      have a1 := h3 _ h4
      have a2 := h3 _ h5
      have a3 := h6 _ h1
      have a4 := h6 _ h2
      have e1 : u.1 = v.1 := by omega
      have e2 : u.2 = v.2 := by omega
      exact congrArg some (Prod.ext e1 e2)
theorem isE_congr {S T : Int → Prop} {a : Option Sp} (ha : IsE S a) (h : ∀ x, S x ↔ T x) : IsE T a := by
  have : S = T := funext fun x => propext (h x)
  exact this ▸ ha
theorem isE_mg {S T : Int → Prop} {a b : Option Sp} (ha : IsE S a) (hb : IsE T b) : IsE (fun x => S x ∨ T x) (mgO a b) := by
  cases a with
  | none => exact isE_congr hb fun x => ⟨.inr, fun h => h.resolve_left (ha x)⟩
  | some u => cases b with
    | none => exact isE_congr ha fun x => ⟨.inl, fun h => h.resolve_right (hb x)⟩
    | some v =>
      obtain ⟨h1, h2, h3⟩ := ha
      obtain ⟨h4, h5, h6⟩ := hb
      refine ⟨?_, ?_, fun x hx => ?_⟩
      · show S (min u.1 v.1) ∨ T (min u.1 v.1)
        rcases Int.le_total u.1 v.1 with h | h
        · rw [Int.min_eq_left h]; exact .inl h1
        · rw [Int.min_eq_right h]; exact .inr h4
      · show S (max u.2 v.2) ∨ T (max u.2 v.2)
        rcases Int.le_total u.2 v.2 with h | h
        · rw [Int.max_eq_right h]; exact .inr h5
        · rw [Int.max_eq_left h]; exact .inl h2
      · show min u.1 v.1 ≤ x ∧ x ≤ max u.2 v.2
        rcases hx with hx | hx
        · have := h3 x hx; omega
        · have := h6 x hx; omega
theorem isE_sh {S : Int → Prop} {a : Option Sp} (f : Int) (ha : IsE S a) : IsE (fun x => S (x - f)) (shO a f) := by
  cases a with
  | none => exact fun x => ha _
  | some u =>
    obtain ⟨h1, h2, h3⟩ := ha
    refine ⟨?_, ?_, fun x hx => ?_⟩
    · show S (u.1 + f - f); rwa [Int.add_sub_cancel]
    · show S (u.2 + f - f); rwa [Int.add_sub_cancel]
    · show u.1 + f ≤ x ∧ x ≤ u.2 + f
      have := h3 _ hx; omega
/-- The ends of a list. -/
def endsI (l : List Int) : Option Sp := l.foldl (fun o x => mgO o (some (x, x))) none
theorem isE_fold : ∀ (l : List Int) {S : Int → Prop} {o : Option Sp}, IsE S o → IsE (fun x => S x ∨ x ∈ l) (l.foldl (fun o x => mgO o (some (x, x))) o)
  | [], S, o, h => isE_congr h fun x => by simp
  | y :: l, S, o, h => by
    have h1 : IsE (fun x => x = y) (some (y, y)) := ⟨rfl, rfl, fun x hx => by subst hx; exact ⟨Int.le_refl _, Int.le_refl _⟩⟩
    refine isE_congr (isE_fold l (isE_mg h h1)) fun x => ?_
    simp only [List.mem_cons]
    constructor
    · rintro ((h | h) | h)
      · exact .inl h
      · exact .inr (.inl h)
      · exact .inr (.inr h)
    · rintro (h | h | h)
      · exact .inl (.inl h)
      · exact .inl (.inr h)
      · exact .inr h
theorem isE_ends (l : List Int) : IsE (fun x => x ∈ l) (endsI l) :=
  isE_congr (isE_fold l (S := fun _ => False) (o := none) fun _ h => h) fun x => by simp

/-! ## Exact numbers, truths, and their sums -/

def exL (e r : Int) : List Int := rngN (r - e) (2 * e + 1).toNat
theorem mem_exL {e r n : Int} (he : 0 ≤ e) : n ∈ exL e r ↔ r - e ≤ n ∧ n ≤ r + e := by
  rw [exL, mem_rngN]; omega
def truR (e : Int) : List Int → List (List Int)
  | [] => [[]]
  | r :: rs => (exL e r).flatMap fun n => (truR e rs).map (n :: ·)
def truK (e : Int) : List Int → List Int → Bool
  | [], [] => true
  | r :: rs, n :: t => inB n (r - e) (r + e) && truK e rs t
  | _, _ => false
theorem mem_truR {e : Int} (he : 0 ≤ e) : ∀ {rs t : List Int}, t ∈ truR e rs ↔ truK e rs t = true
  | [], [] => by simp [truR, truK]
  | [], n :: t => by simp [truR, truK]
  | r :: rs, [] => by simp [truR, truK]
  | r :: rs, n :: t => by
    simp only [truR, List.mem_flatMap, List.mem_map, List.cons.injEq, truK, Bool.and_eq_true, inB_iff]
    constructor
    · rintro ⟨m, h1, t', h2, rfl, rfl⟩
      exact ⟨(mem_exL he).1 h1, (mem_truR he).1 h2⟩
    · rintro ⟨h1, h2⟩
      exact ⟨n, (mem_exL he).2 h1, t, (mem_truR he).2 h2, rfl, rfl⟩
theorem truK_iff : ∀ {e : Int} {rs t : List Int}, truK e rs t = true ↔ t.length = rs.length ∧ ∀ (j : Nat) r n, rs[j]? = some r → t[j]? = some n → inB n (r - e) (r + e) = true
  | e, [], [] => by simp [truK]
  | e, [], n :: t => by simp [truK]
  | e, r :: rs, [] => by simp [truK]
  | e, r :: rs, n :: t => by
    simp only [truK, Bool.and_eq_true, truK_iff (rs := rs) (t := t), List.length_cons, Nat.add_right_cancel_iff]
    constructor
    · rintro ⟨h1, h2, h3⟩
      refine ⟨h2, fun j r' n' hl he => ?_⟩
      cases j with
      | zero => simp at hl he; subst hl; subst he; exact h1
      | succ j => exact h3 j r' n' (by simpa using hl) (by simpa using he)
    · rintro ⟨h1, h2⟩
      exact ⟨h2 0 r n rfl rfl, h1, fun j r' n' hl he => h2 (j + 1) r' n' (by simpa using hl) (by simpa using he)⟩
theorem truK_app {e : Int} : ∀ {rs qs t u : List Int}, t.length = rs.length → truK e (rs ++ qs) (t ++ u) = (truK e rs t && truK e qs u)
  | [], qs, [], u, _ => by simp [truK]
  | r :: rs, qs, n :: t, u, h => by
    simp only [List.cons_append, truK, truK_app (rs := rs) (qs := qs) (t := t) (u := u) (by simpa using h), Bool.and_assoc]
theorem truK_len {e : Int} {rs t : List Int} (h : truK e rs t = true) : t.length = rs.length := (truK_iff.1 h).1

theorem sumI_foldl : ∀ (l : List Int) (a : Int), l.foldl (· + ·) a = a + sumI l
  | [], a => by simp [sumI]
  | x :: l, a => by
    have h1 : sumI (x :: l) = 0 + x + sumI l := (List.foldl_cons ..).trans (sumI_foldl l (0 + x))
    rw [List.foldl_cons, sumI_foldl l (a + x), h1]
    omega
theorem sumI_cons (x : Int) (l : List Int) : sumI (x :: l) = x + sumI l := by
  show (x :: l).foldl (· + ·) 0 = _
  rw [List.foldl_cons, sumI_foldl]; omega
theorem sumI_app (l m : List Int) : sumI (l ++ m) = sumI l + sumI m := by
  show (l ++ m).foldl (· + ·) 0 = _
  rw [List.foldl_append, sumI_foldl]; rfl
/-- The sum of what is rounded. -/
def figO (F : Int → Int) (t : List Int) : Int := sumI (t.map F)
theorem figO_cons (F : Int → Int) (x : Int) (l : List Int) : figO F (x :: l) = F x + figO F l := by simp [figO, sumI_cons]
theorem figO_app (F : Int → Int) (l m : List Int) : figO F (l ++ m) = figO F l + figO F m := by simp [figO, sumI_app]

def stepO (F : Int → Int) (G : Int → Option Sp) (L : List Int) (k : Int) : Option Sp := L.foldl (fun o n => mgO o (shO (G (k - n)) (F n))) none
def O0 (k : Int) : Option Sp := if k = 0 then some (0, 0) else none
def sumO (F : Int → Int) (e : Int) (rows : List Int) : Int → Option Sp := rows.foldl (fun G r => stepO F G (exL e r)) O0
theorem stepO_snoc (F : Int → Int) (G : Int → Option Sp) (L : List Int) (n k : Int) : stepO F G (L ++ [n]) k = mgO (stepO F G L k) (shO (G (k - n)) (F n)) := by simp [stepO]
theorem sumO_snoc (F : Int → Int) (e : Int) (rows : List Int) (r : Int) : sumO F e (rows ++ [r]) = stepO F (sumO F e rows) (exL e r) := by simp [sumO]
theorem stepO_isE {F : Int → Int} {G : Int → Option Sp} {S : Int → Int → Prop} (hG : ∀ k, IsE (S k) (G k)) (L : List Int) (k : Int) : IsE (fun x => ∃ n ∈ L, S (k - n) (x - F n)) (stepO F G L k) := by
  have key : ∀ (L : List Int) {T : Int → Prop} {o : Option Sp}, IsE T o → IsE (fun x => T x ∨ ∃ n ∈ L, S (k - n) (x - F n)) (L.foldl (fun o n => mgO o (shO (G (k - n)) (F n))) o) := by
    intro L
    induction L with
    | nil => exact fun h => isE_congr h fun x => by simp
    | cons n L ih =>
      intro T o h
      refine isE_congr (ih (isE_mg h (isE_sh (F n) (hG (k - n))))) fun x => ?_
      simp only [List.mem_cons]
      constructor
      · rintro ((h | h) | ⟨m, hm, h⟩)
        · exact .inl h
        · exact .inr ⟨n, .inl rfl, h⟩
        · exact .inr ⟨m, .inr hm, h⟩
      · rintro (h | ⟨m, rfl | hm, h⟩)
        · exact .inl (.inl h)
        · exact .inl (.inr h)
        · exact .inr ⟨m, hm, h⟩
  exact isE_congr (key L (T := fun _ => False) (o := none) fun _ h => h) fun x => by simp
/-- The map of the sums: for each sum the ends of the sums of figures. -/
theorem sumO_isE {F : Int → Int} {e : Int} (he : 0 ≤ e) (rows : List Int) : ∀ k, IsE (fun x => ∃ t, truK e rows t = true ∧ sumI t = k ∧ figO F t = x) (sumO F e rows k) := by
  have key : ∀ (m : Nat) (rows : List Int), rows.length = m → ∀ k, IsE (fun x => ∃ t, truK e rows t = true ∧ sumI t = k ∧ figO F t = x) (sumO F e rows k) := by
    intro m
    induction m with
    | zero =>
      intro rows h k
      have : rows = [] := List.eq_nil_of_length_eq_zero h
      subst this
      show IsE _ (O0 k)
      by_cases hk : k = 0
      · subst hk
        refine ⟨⟨[], rfl, rfl, rfl⟩, ⟨[], rfl, rfl, rfl⟩, ?_⟩
        rintro x ⟨t, h1, _, h3⟩
        have : t = [] := List.eq_nil_of_length_eq_zero (truK_len h1)
        subst this
        rw [← h3]; exact ⟨Int.le_refl _, Int.le_refl _⟩
      · simp only [O0, if_neg hk]
        rintro x ⟨t, h1, h2, _⟩
        have : t = [] := List.eq_nil_of_length_eq_zero (truK_len h1)
        subst this
        exact hk h2.symm
    | succ m ih =>
      intro rows h k
      have hne : rows ≠ [] := by intro hh; subst hh; simp at h
      obtain ⟨r, hr⟩ : ∃ r, rows = rows.dropLast ++ [r] := ⟨rows.getLast hne, (List.dropLast_concat_getLast hne).symm⟩
      have hl : rows.dropLast.length = m := by rw [List.length_dropLast]; omega
      generalize rows.dropLast = rs at *
      subst hr
      rw [sumO_snoc]
      refine isE_congr (stepO_isE (F := F) (ih rs hl) (exL e r) k) fun x => ?_
      constructor
      · rintro ⟨n, hn, t, h1, h2, h3⟩
        refine ⟨t ++ [n], ?_, ?_, ?_⟩
        · rw [truK_app (truK_len h1), h1]
          simp only [truK, Bool.true_and, Bool.and_true]
          exact inB_iff.2 ((mem_exL he).1 hn)
        · rw [sumI_snoc]; omega
        · rw [figO_app]; simp only [figO, List.map_cons, List.map_nil, sumI_cons, sumI_nil] at h3 ⊢; omega
      · rintro ⟨t, h1, h2, h3⟩
        have hlen := truK_len h1
        have htne : t ≠ [] := by intro hh; subst hh; simp at hlen
        obtain ⟨n, hn⟩ : ∃ n, t = t.dropLast ++ [n] := ⟨t.getLast htne, (List.dropLast_concat_getLast htne).symm⟩
        have htl : t.dropLast.length = rs.length := by rw [List.length_dropLast, hlen]; simp
        generalize t.dropLast = u at *
        subst hn
        rw [truK_app htl] at h1
        simp only [truK, Bool.and_true, Bool.and_eq_true] at h1
        rw [sumI_snoc] at h2
        rw [figO_app] at h3
        refine ⟨n, (mem_exL he).2 (inB_iff.1 h1.2), u, h1.1, by omega, ?_⟩
        simp only [figO, List.map_cons, List.map_nil, sumI_cons, sumI_nil] at h3 ⊢; omega
  exact fun k => key _ rows rfl k

end Go.Proofs


namespace Go.Proofs
open Go Go.Sx

/-! # Plain facts for the walks over sums -/

theorem rng_drop : ∀ (N j : Nat) (lo : Int), (rngN lo N).drop j = rngN (lo + j) (N - j)
  | N, 0, lo => by simp
  | 0, j + 1, lo => by simp [rngN]
  | N + 1, j + 1, lo => by
    rw [rngN, List.drop_succ_cons, rng_drop N j (lo + 1)]
    rw [show N + 1 - (j + 1) = N - j by omega, show lo + 1 + (j : Int) = lo + ((j + 1 : Nat) : Int) by omega]
theorem rng_cons {lo : Int} {N j : Nat} (h : j < N) : rngN (lo + j) (N - j) = (lo + j) :: rngN (lo + (j + 1 : Nat)) (N - (j + 1)) := by
  obtain ⟨k, hk⟩ : ∃ k, N - j = k + 1 := ⟨N - j - 1, by omega⟩
  rw [hk, rngN, show N - (j + 1) = k by omega, show lo + (j : Int) + 1 = lo + ((j + 1 : Nat) : Int) by omega]
theorem rng_sfx (lo : Int) (N j : Nat) : rngN (lo + j) (N - j) <:+ rngN lo N := by rw [← rng_drop]; exact List.drop_suffix _ _
theorem rng_nil {lo : Int} {N j : Nat} (h : N ≤ j) : rngN (lo + j) (N - j) = [] := by rw [show N - j = 0 by omega]; rfl

/-! ### The best of a list -/

def bestK (p : Int → Int → Bool) (xs : List Int) (k : Nat) : Int := (((xs.drop 1).take k)).foldl (fun o y => if p y o then y else o) (xs.headD 0)
def bestI (p : Int → Int → Bool) (xs : List Int) : Int := bestK p xs (xs.length - 1)
theorem bestK_succ {p : Int → Int → Bool} {xs : List Int} {k : Nat} {y : Int} (h : xs[k + 1]? = some y) : bestK p xs (k + 1) = if p y (bestK p xs k) then y else bestK p xs k := by
  have h2 : (xs.drop 1)[k]? = some y := by rw [List.getElem?_drop, Nat.add_comm]; exact h
  simp only [bestK, take_snoc h2, List.foldl_append, List.foldl_cons, List.foldl_nil]
  rfl
theorem fold_lt : ∀ (l : List Int) (z : Int), let r := l.foldl (fun o y => if decide (y < o) then y else o) z; (r = z ∨ r ∈ l) ∧ r ≤ z ∧ ∀ x ∈ l, r ≤ x
  | [], z => ⟨.inl rfl, Int.le_refl _, fun _ h => by cases h⟩
  | y :: l, z => by
    simp only [List.foldl_cons, decide_eq_true_eq]
    have ih := fold_lt l (if y < z then y else z)
    simp only [decide_eq_true_eq] at ih
    generalize l.foldl (fun o y => if y < o then y else o) (if y < z then y else z) = r at ih
    obtain ⟨h1, h2, h3⟩ := ih
    split at h1 <;> split at h2 <;> first | omega | skip
    · exact ⟨.inr (by simp only [List.mem_cons]; exact h1), by omega, fun x hx => by rcases List.mem_cons.1 hx with rfl | hx; exact h2; exact h3 x hx⟩
    · exact ⟨by rcases h1 with h1 | h1; exact .inl h1; exact .inr (List.mem_cons_of_mem _ h1), h2, fun x hx => by rcases List.mem_cons.1 hx with rfl | hx; omega; exact h3 x hx⟩
theorem fold_gt : ∀ (l : List Int) (z : Int), let r := l.foldl (fun o y => if decide (y > o) then y else o) z; (r = z ∨ r ∈ l) ∧ z ≤ r ∧ ∀ x ∈ l, x ≤ r
  | [], z => ⟨.inl rfl, Int.le_refl _, fun _ h => by cases h⟩
  | y :: l, z => by
    simp only [List.foldl_cons, decide_eq_true_eq]
    have ih := fold_gt l (if y > z then y else z)
    simp only [decide_eq_true_eq] at ih
    generalize l.foldl (fun o y => if y > o then y else o) (if y > z then y else z) = r at ih
    obtain ⟨h1, h2, h3⟩ := ih
    split at h1 <;> split at h2 <;> first | omega | skip
    · exact ⟨.inr (by simp only [List.mem_cons]; exact h1), by omega, fun x hx => by rcases List.mem_cons.1 hx with rfl | hx; exact h2; exact h3 x hx⟩
    · exact ⟨by rcases h1 with h1 | h1; exact .inl h1; exact .inr (List.mem_cons_of_mem _ h1), h2, fun x hx => by rcases List.mem_cons.1 hx with rfl | hx; omega; exact h3 x hx⟩
theorem best_ends {xs : List Int} (h : 1 ≤ xs.length) : IsE (fun x => x ∈ xs) (some (bestI (fun a b => decide (a < b)) xs, bestI (fun a b => decide (a > b)) xs)) := by
  match xs, h with
  | z :: l, _ =>
    have e : ∀ p, bestI p (z :: l) = l.foldl (fun o y => if p y o then y else o) z := fun p => by simp [bestI, bestK]
    rw [e, e]
    obtain ⟨h1, h2, h3⟩ := fold_lt l z
    obtain ⟨h4, h5, h6⟩ := fold_gt l z
    refine ⟨?_, ?_, fun x hx => ?_⟩
    · rcases h1 with h1 | h1
      · rw [h1]; exact List.mem_cons_self ..
      · exact List.mem_cons_of_mem _ h1
    · rcases h4 with h4 | h4
      · rw [h4]; exact List.mem_cons_self ..
      · exact List.mem_cons_of_mem _ h4
    · rcases List.mem_cons.1 hx with rfl | hx
      · exact ⟨h2, h5⟩
      · exact ⟨h3 x hx, h6 x hx⟩

/-! ### The map of sums, while it is made -/

section mid
variable {F : Int → Int} {G : Int → Option Sp} {L : List Int} {n : Int} {l left : List En} {c : Nat}
def midO (F : Int → Int) (G : Int → Option Sp) (L : List Int) (n : Int) (left : List En) (k : Int) : Option Sp := mgO (stepO F G L k) (if keyIn left (k - n) then none else shO (G (k - n)) (F n))
theorem mgO_none (a : Option Sp) : mgO a none = a := by cases a <;> rfl
theorem mid_start (ok : OkN l c G) : midO F G L n l = stepO F G L := funext fun k => by
  simp only [midO, keyIn_all ok]
  cases h : G (k - n) with
  | none => simp [shO, mgO_none]
  | some v => simp [mgO_none]
theorem mid_end : midO F G L n [] = stepO F G (L ++ [n]) := funext fun k => by simp [midO, keyIn, stepO_snoc]
theorem mid_at {e : En} (he : e ∈ left) : midO F G L n left (e.1 + n) = stepO F G L (e.1 + n) := by
  have : keyIn left (e.1 + n - n) = true := List.any_eq_true.2 ⟨e, he, by simp⟩
  simp only [midO, this, if_true, mgO_none]
theorem mid_step (ok : OkN l c G) (hs : ∀ x ∈ left, x ∈ l) {e : En} (he : e ∈ left) {y : Sp} (hy : some y = mgO (midO F G L n left (e.1 + n)) (some (e.2.1.1 + F n, e.2.1.2 + F n))) :
    updO (midO F G L n left) (e.1 + n) y = midO F G L n (dropE left e) := funext fun k => by
  simp only [updO]
  by_cases hk : k = e.1 + n
  · subst hk
    rw [if_pos rfl, hy, mid_at he]
    have h1 : keyIn (dropE left e) (e.1 + n - n) = false := by rw [keyIn_drop ok hs he]; simp
    simp only [midO, h1, Bool.false_eq_true, if_false]
    rw [show e.1 + n - n = e.1 by omega, okN_mem ok (hs e he)]; rfl
  · rw [if_neg hk]
    have h1 : keyIn (dropE left e) (k - n) = keyIn left (k - n) := by
      rw [keyIn_drop ok hs he, show (k - n != e.1) = true by simp; omega, Bool.and_true]
    simp only [midO, h1]
theorem mid_f (ok : OkN l c G) (hs : ∀ x ∈ left, x ∈ l) {e : En} (he : e ∈ left) (h : (midO F G L n left (e.1 + n)).isSome = false) :
    updO (midO F G L n left) (e.1 + n) (e.2.1.1 + F n, e.2.1.2 + F n) = midO F G L n (dropE left e) := by
  refine mid_step ok hs he ?_
  cases hc : midO F G L n left (e.1 + n) with
  | none => rfl
  | some v => rw [hc] at h; cases h
theorem mid_t (ok : OkN l c G) (hs : ∀ x ∈ left, x ∈ l) {e : En} (he : e ∈ left) (h : (midO F G L n left (e.1 + n)).isSome = true) :
    updO (midO F G L n left) (e.1 + n) (min (e.2.1.1 + F n) ((midO F G L n left (e.1 + n)).getD (0, 0)).1, max (e.2.1.2 + F n) ((midO F G L n left (e.1 + n)).getD (0, 0)).2) = midO F G L n (dropE left e) := by
  refine mid_step ok hs he ?_
  cases hc : midO F G L n left (e.1 + n) with
  | none => rw [hc] at h; cases h
  | some v => simp [mgO, Int.min_comm, Int.max_comm]
end mid

theorem sum_bd {B : Int} (hB : 0 ≤ B) : ∀ {xs : List Int}, (∀ x ∈ xs, -B ≤ x ∧ x ≤ B) → -(xs.length * B) ≤ sumI xs ∧ sumI xs ≤ xs.length * B
  | [], _ => by simp [sumI]
  | x :: xs, h => by
    have ih := sum_bd hB (xs := xs) (fun y hy => h y (List.mem_cons_of_mem _ hy))
    have h1 := h x (List.mem_cons_self ..)
    rw [sumI_cons, List.length_cons, show ((xs.length + 1 : Nat) : Int) * B = xs.length * B + B by rw [Int.natCast_add, Int.add_mul]; simp]
    omega
theorem tru_bd {e : Int} {rs t : List Int} {B : Int} (h : truK e rs t = true) (hr : ∀ r ∈ rs, -B ≤ r ∧ r ≤ B) : ∀ n ∈ t, -(B + e) ≤ n ∧ n ≤ B + e := by
  intro n hn
  obtain ⟨j, hj⟩ := List.mem_iff_getElem?.1 hn
  have h1 := truK_iff.1 h
  obtain ⟨r, hr1⟩ := some_get (xs := rs) (k := j) (by rw [← h1.1]; exact (List.getElem?_eq_some_iff.1 hj).1)
  have h2 := inB_iff.1 (h1.2 j r n hr1 hj)
  have h3 := hr r (List.mem_of_getElem? hr1)
  omega
/-- What is in such a map is small. -/
theorem sumO_bd {F : Int → Int} {e : Int} {rs : List Int} (he : 0 ≤ e ∧ e ≤ 8) (hF : ∀ n, -100008 ≤ n ∧ n ≤ 100008 → -100009 ≤ F n ∧ F n ≤ 100009) (hr : ∀ r ∈ rs, -100000 ≤ r ∧ r ≤ 100000) (hl : rs.length ≤ 5) {k : Int} {v : Sp} (h : sumO F e rs k = some v) :
    (-500045 ≤ k ∧ k ≤ 500045) ∧ (-500045 ≤ v.1 ∧ v.1 ≤ 500045) ∧ (-500045 ≤ v.2 ∧ v.2 ≤ 500045) := by
  have h1 := sumO_isE (F := F) he.1 rs k
  rw [h] at h1
  obtain ⟨⟨t, a1, a2, a3⟩, ⟨u, b1, b2, b3⟩, _⟩ := h1
  have key : ∀ t, truK e rs t = true → (-500045 ≤ sumI t ∧ sumI t ≤ 500045) ∧ -500045 ≤ figO F t ∧ figO F t ≤ 500045 := fun t ht => by
    have hb := tru_bd ht hr
    have hl2 : t.length ≤ 5 := by rw [truK_len ht]; exact hl
    have c1 := sum_bd (B := 100009) (by decide) (xs := t) (fun n hn => by have := hb n hn; omega)
    have c2 := sum_bd (B := 100009) (by decide) (xs := t.map F) (fun n hn => by
      obtain ⟨m, hm, rfl⟩ := List.mem_map.1 hn
      have := hb m hm
      exact hF m (by omega))
    rw [List.length_map] at c2
    simp only [figO]
    omega
  have k1 := key t a1
  have k2 := key u b1
  omega
end Go.Proofs


namespace Go.Proofs
open Go Go.Sx

theorem mem_dropE {l left : List En} {c : Nat} {G : Int → Option Sp} (ok : OkN l c G) (hs : ∀ x ∈ left, x ∈ l) {e : En} (he : e ∈ left) (x : En) : x ∈ dropE left e ↔ x ∈ left ∧ x ≠ e := by
  simp only [dropE, List.mem_filter, bne_iff_ne, ne_eq]
  constructor
  · rintro ⟨h1, h2⟩; exact ⟨h1, fun hh => h2 (by rw [hh])⟩
  · rintro ⟨h1, h2⟩; exact ⟨h1, fun hh => h2 (nodup_inj ok.borns x (hs x h1) e (hs e he) hh)⟩
theorem okN_len {l : List En} {c : Nat} {G : Int → Option Sp} (ok : OkN l c G) (hb : ∀ k v, G k = some v → -500045 ≤ k ∧ k ≤ 500045) : l.length ≤ 1000091 := by
  have h1 := ok.keys.length_le_of_subset (l₂ := rngN (-500045) 1000091) (fun k hk => by
    obtain ⟨e, he, rfl⟩ := List.mem_map.1 hk
    have := hb _ _ (okN_mem ok he)
    rw [mem_rngN]; omega)
  rw [List.length_map] at h1
  have h2 : ∀ (n : Nat) (lo : Int), (rngN lo n).length = n := by
    intro n
    induction n with
    | zero => intro lo; rfl
    | succ n ih => intro lo; simp [rngN, ih]
  rw [h2] at h1
  exact h1
theorem okN_ex {l : List En} {c : Nat} {G : Int → Option Sp} (ok : OkN l c G) (p : Int → Sp → Prop) : (∃ e ∈ l, p e.1 e.2.1) ↔ ∃ k v, G k = some v ∧ p k v := by
  constructor
  · rintro ⟨e, he, h⟩; exact ⟨_, _, okN_mem ok he, h⟩
  · rintro ⟨k, v, hk, h⟩
    rw [← ok.get] at hk
    obtain ⟨e, he, rfl, rfl⟩ := lget_some hk
    exact ⟨e, he, h⟩
theorem ints_two (l : List Int) (a b : Int) : ints (l ++ [a, b]) = ints l ++ [intC a, intC b] := by simp
/-- What has come of a range over a map, collected two by two. -/
def ColI (A B : Int → Sp → Int) (lm left : List En) (l : List Int) : Prop := (∀ x ∈ left, x ∈ lm) ∧ l.length + 2 * left.length ≤ 2 * lm.length ∧ ∀ x, x ∈ l ↔ ∃ en ∈ lm, ¬ en ∈ left ∧ (x = A en.1 en.2.1 ∨ x = B en.1 en.2.1)
theorem col_start (A B : Int → Sp → Int) (lm : List En) : ColI A B lm lm [] := by
  refine ⟨fun _ h => h, by simp, fun x => ?_⟩
  constructor
  · intro h; cases h
  · rintro ⟨en, h1, h2, _⟩; exact absurd h1 h2
theorem col_step {A B : Int → Sp → Int} {lm left : List En} {l : List Int} {c : Nat} {G : Int → Option Sp} (ok : OkN lm c G) (h : ColI A B lm left l) {en : En} (he : en ∈ left) : ColI A B lm (dropE left en) (l ++ [A en.1 en.2.1, B en.1 en.2.1]) := by
  obtain ⟨h1, h2, h3⟩ := h
  have hd := drop_len he
  refine ⟨fun x hx => h1 x (drop_sub hx), by rw [List.length_append]; simp; omega, fun x => ?_⟩
  rw [List.mem_append, h3]
  simp only [mem_dropE ok h1 he, List.mem_cons, List.not_mem_nil, or_false]
  constructor
  · rintro (⟨e, a1, a2, a3⟩ | h4)
    · exact ⟨e, a1, fun hh => a2 hh.1, a3⟩
    · exact ⟨en, h1 en he, fun hh => hh.2 rfl, h4⟩
  · rintro ⟨e, a1, a2, a3⟩
    by_cases hq : e = en
    · subst hq; exact .inr a3
    · exact .inl ⟨e, a1, fun hh => a2 ⟨hh, hq⟩, a3⟩
theorem col_end {A B : Int → Sp → Int} {lm : List En} {l : List Int} {c : Nat} {G : Int → Option Sp} {v : Sp} (ok : OkN lm c G) (h : ColI A B lm [] l) (hv : IsE (fun x => ∃ k v, G k = some v ∧ (x = A k v ∨ x = B k v)) (some v)) : IsE (fun x => x ∈ l) (some v) ∧ 1 ≤ l.length := by
  have h1 : IsE (fun x => x ∈ l) (some v) := isE_congr hv fun x => by
    rw [h.2.2, ← okN_ex ok (fun k v => x = A k v ∨ x = B k v)]
    simp
  refine ⟨h1, ?_⟩
  have := h1.1
  cases l with
  | nil => cases this
  | cons => simp

/-! ### Totals -/

/-- What is asked of a truth's sum and the sum of its figures. -/
def endT (F : Int → Int) (e : Int) (rows : List Int) (of : Int → Int → Int) : Option Sp := endsI ((truR e rows).map fun t => of (sumI t) (figO F t))
theorem endT_isE {F : Int → Int} {e : Int} (he : 0 ≤ e) (rows : List Int) (of : Int → Int → Int) : IsE (fun x => ∃ t, truK e rows t = true ∧ of (sumI t) (figO F t) = x) (endT F e rows of) :=
  isE_congr (isE_ends _) fun x => by
    simp only [List.mem_map, mem_truR he]
theorem tru_self {e : Int} (he : 0 ≤ e) : ∀ rs : List Int, truK e rs rs = true
  | [] => rfl
  | r :: rs => by simp only [truK, Bool.and_eq_true]; exact ⟨inB_iff.2 (by omega), tru_self he rs⟩
theorem endT_some {F : Int → Int} {e : Int} (he : 0 ≤ e) (rows : List Int) (of : Int → Int → Int) : endT F e rows of = some ((endT F e rows of).getD (0, 0)) := by
  have h := endT_isE (F := F) he rows of
  cases hq : endT F e rows of with
  | none => rw [hq] at h; exact absurd ⟨rows, tru_self he rows, rfl⟩ (h _)
  | some v => rfl
/-- By sums: if in each of them the ends of the figures give the ends. -/
theorem endT_sums {F : Int → Int} {e : Int} (he : 0 ≤ e) (rows : List Int) (of : Int → Int → Int) (hm : ∀ k a b, a ≤ b → of k a ≤ of k b) : IsE (fun x => ∃ k v, sumO F e rows k = some v ∧ (x = of k v.1 ∨ x = of k v.2)) (some ((endT F e rows of).getD (0, 0))) := by
  have h := endT_isE (F := F) he rows of
  rw [endT_some he rows of] at h
  generalize (endT F e rows of).getD (0, 0) = z at h
  have hG := fun k => sumO_isE (F := F) he rows k
  obtain ⟨⟨t, a1, a2⟩, ⟨u, b1, b2⟩, h3⟩ := h
  have at_ : ∀ t, truK e rows t = true → ∃ v, sumO F e rows (sumI t) = some v ∧ v.1 ≤ figO F t ∧ figO F t ≤ v.2 := fun t ht => by
    have := hG (sumI t)
    cases hq : sumO F e rows (sumI t) with
    | none => rw [hq] at this; exact absurd ⟨t, ht, rfl, rfl⟩ (this _)
    | some v => rw [hq] at this; exact ⟨v, rfl, this.2.2 _ ⟨t, ht, rfl, rfl⟩⟩
  have of_ : ∀ k v, sumO F e rows k = some v → (z.1 ≤ of k v.1 ∧ of k v.1 ≤ z.2) ∧ (z.1 ≤ of k v.2 ∧ of k v.2 ≤ z.2) := fun k v hk => by
    have := hG k
    rw [hk] at this
    obtain ⟨⟨t1, c1, c2, c3⟩, ⟨t2, d1, d2, d3⟩, _⟩ := this
    have e1 := h3 _ ⟨t1, c1, rfl⟩
    have e2 := h3 _ ⟨t2, d1, rfl⟩
    rw [c2, c3] at e1; rw [d2, d3] at e2
    exact ⟨e1, e2⟩
  refine ⟨?_, ?_, ?_⟩
  · obtain ⟨v, v1, v2, v3⟩ := at_ t a1
    have := hm (sumI t) v.1 (figO F t) v2
    have h4 := of_ _ _ v1
    refine ⟨sumI t, v, v1, .inl ?_⟩
    omega
  · obtain ⟨v, v1, v2, v3⟩ := at_ u b1
    have := hm (sumI u) (figO F u) v.2 v3
    have h4 := of_ _ _ v1
    refine ⟨sumI u, v, v1, .inr ?_⟩
    omega
  · rintro x ⟨k, v, hk, rfl | rfl⟩
    · exact (of_ k v hk).1
    · exact (of_ k v hk).2
end Go.Proofs

