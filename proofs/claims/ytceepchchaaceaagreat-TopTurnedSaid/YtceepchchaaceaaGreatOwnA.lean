/- Rules by which a Go function's code is walked, operation by operation (frames, heap segments, rows). No condition. -/
import Derived.RangeFuncIn
import Derived.TacticsIn
import Derived.Below
import Derived.KernelRfl
import Derived.Deep.Quiet
import Derived.IntWalk
import Derived.Scope
import Derived.OrdersIn
set_option linter.unusedVariables false
set_option linter.unusedSimpArgs false

namespace Go.Sx
open Go Go.RowKit

/-! ## Fences, contexts, continuations -/

abbrev WF (r : Option Nat) : Fence := { fn := fun _ => True, depth := none, alive := false, round := r }

theorem WF_none : WF none = Fence.wide := rfl

inductive KI where
  | code (c : Code)
  | blk (id : Nat)
  | scp
  | inv (J : Act → World → Prop)

structure Cx where
  P : Program
  r : Option Nat
  w0 : World
  Q : Exit → Act → World → Prop

def Qk (x : Cx) : List KI → Exit → Act → World → Prop
  | [] => x.Q
  | .code c :: ks => Exit.then (fun a w => c.wpIn (WF x.r) 0 x.P (Qk x ks) a w) (Qk x ks)
  | .blk id :: ks => Exit.inBlock id (Qk x ks)
  | .scp :: ks => Exit.noGoto (Qk x ks)
  | .inv J :: ks => Exit.then J (Qk x ks)

/-! ## Frames: a partial list of what the temporaries hold -/

def lk : List (Nat × Value) → Nat → Option Value
  | [], _ => none
  | (t, v) :: m, s => match Nat.beq t s with | true => some v | false => lk m s

structure Env where
  n : Nat
  m : List (Nat × Value)
  ds : List Deferred

structure Env.ok (E : Env) (a : Act) : Prop where
  size : a.tmps.size = E.n
  ds : a.defers = E.ds
  get : ∀ s v, lk E.m s = some v → a.tmps[s]? = some v

def ev (m : List (Nat × Value)) : Operand → Option Value
  | .tmp t => lk m t
  | .const v => some v
  | .global g => some (.pointer (some ⟨g, 0, none⟩))
  | .func f => some (.func (.func f) #[] #[])

theorem Env.ok.ev {E : Env} {a : Act} (h : E.ok a) {x : Operand} {v : Value} (hx : Sx.ev E.m x = some v) : a.eval x = v := by
  cases x with
  | tmp t =>
    have := h.get t v hx
    simp [Act.eval, this, Array.getD_eq_getD_getElem?]
  | const u => simpa [Sx.ev, Act.eval] using hx
  | global g => simpa [Sx.ev, Act.eval] using hx
  | func f => simpa [Sx.ev, Act.eval] using hx

theorem Env.ok.put {n : Nat} {m : List (Nat × Value)} {ds : List Deferred} {a : Act} (h : Env.ok ⟨n, m, ds⟩ a) {d : Nat} (hd : Nat.blt d n = true) (v : Value) :
    Env.ok ⟨n, (d, v) :: m, ds⟩ (a.put (some d) v) := by
  have hlt : d < n := by simpa [Nat.blt_eq] using hd
  refine ⟨by simp [Act.put, h.size], h.ds, fun s u hs => ?_⟩
  simp only [Act.put]
  simp only [lk] at hs
  cases hb : Nat.beq d s with
  | true =>
    rw [hb] at hs
    have e : d = s := Nat.eq_of_beq_eq_true hb
    cases hs
    subst e
    rw [Array.getElem?_setIfInBounds_self_of_lt (by rw [h.size]; exact hlt)]
  | false =>
    rw [hb] at hs
    have e : d ≠ s := fun e => by subst e; simp at hb
    rw [Array.getElem?_setIfInBounds_ne e]
    exact h.get s u hs

/-- Writing a value that is there already known: a frame may forget, and may learn what is equal. -/
def AllLk (m : List (Nat × Value)) : List (Nat × Value) → Prop
  | [] => True
  | (s, v) :: l => lk m s = some v ∧ AllLk m l

theorem AllLk.get {m : List (Nat × Value)} : ∀ {l : List (Nat × Value)}, AllLk m l → ∀ s v, lk l s = some v → lk m s = some v
  | [], _, s, v, h => by simp [lk] at h
  | (t, u) :: l, h, s, v, hs => by
    simp only [lk] at hs
    cases hb : Nat.beq t s with
    | true =>
      rw [hb] at hs; cases hs
      have e : t = s := Nat.eq_of_beq_eq_true hb
      subst e; exact h.1
    | false => rw [hb] at hs; exact AllLk.get h.2 s v hs

theorem Env.ok.sub {n : Nat} {m m' : List (Nat × Value)} {ds : List Deferred} {a : Act} (h : Env.ok ⟨n, m, ds⟩ a) (hl : AllLk m m') : Env.ok ⟨n, m', ds⟩ a :=
  ⟨h.size, h.ds, fun s v hs => h.get s v (hl.get s v hs)⟩

/-! ## Heap segments -/

inductive Seg where
  | own (b : Nat) (p : Obj → Prop)
  | snap (lo hi : Nat) (w1 : World)
  | row (a : Option Addr) (n cap : Nat) (t : TypeId) (sz : Nat) (xs : List (List Value))
  | reg (lo hi : Nat) (p : World → Prop)

def Seg.lo : Seg → Nat
  | .own b _ => b
  | .snap lo _ _ => lo
  | .reg lo _ _ => lo
  | .row (some a) .. => a.block
  | .row none .. => 0

def Seg.hi : Seg → Nat
  | .own b _ => b + 1
  | .snap _ hi _ => hi
  | .reg _ hi _ => hi
  | .row (some a) .. => a.block + 1
  | .row none .. => 0

/-- What a row of the call's own is: nil and empty, or the head of a block of cells. -/
def RowOk (h : Nat → Option Obj) (a : Option Addr) (n cap : Nat) (t : TypeId) (sz : Nat) (xs : List (List Value)) : Prop :=
  xs.length = n ∧ (∀ x ∈ xs, x.length = sz) ∧
  ((a = none ∧ n = 0 ∧ cap = 0) ∨
   ∃ g sp, a = some ⟨g, 0, none⟩ ∧ n ≤ cap ∧ sp.length = (cap - n) * sz ∧ h g = some (.cells (xs.flatten ++ sp).toArray t (0, 0)))

def Seg.ok (w : World) : Seg → Prop
  | .own b p => ∃ o, w.heap[b]? = some o ∧ p o
  | .snap lo hi w1 => ∀ k, lo ≤ k → k < hi → w.heap[k]? = w1.heap[k]?
  | .reg lo hi p => ∃ w1, p w1 ∧ ∀ k, lo ≤ k → k < hi → w.heap[k]? = w1.heap[k]?
  | .row a n cap t sz xs => RowOk (fun k => w.heap[k]?) a n cap t sz xs

theorem Seg.ok_congr {w w' : World} : ∀ {s : Seg}, (∀ k, s.lo ≤ k → k < s.hi → w'.heap[k]? = w.heap[k]?) → s.ok w → s.ok w'
  | .own b p, h, ⟨o, ho, hp⟩ => ⟨o, (h b (Nat.le_refl _) (Nat.lt_succ_self _)).trans ho, hp⟩
  | .snap _ _ _, h, ho => fun k h1 h2 => (h k h1 h2).trans (ho k h1 h2)
  | .reg _ _ _, h, ⟨w1, hp, ho⟩ => ⟨w1, hp, fun k h1 h2 => (h k h1 h2).trans (ho k h1 h2)⟩
  | .row none .., _, ho => by
    obtain ⟨h1, h2, ⟨h3, h4, h5⟩ | ⟨g, sp, h3, _⟩⟩ := ho
    · exact ⟨h1, h2, .inl ⟨h3, h4, h5⟩⟩
    · cases h3
  | .row (some a) .., h, ho => by
    obtain ⟨h1, h2, ⟨h3, _⟩ | ⟨g, sp, h3, h4, h5, h6⟩⟩ := ho
    · cases h3
    · cases h3
      exact ⟨h1, h2, .inr ⟨g, sp, rfl, h4, h5, (h g (Nat.le_refl _) (Nat.lt_succ_self _)).trans h6⟩⟩

def Seg.apart (s t : Seg) : Prop := s.hi ≤ t.lo ∨ t.hi ≤ s.lo

theorem Seg.apart.symm {s t : Seg} (h : s.apart t) : t.apart s := Or.symm h

structure St (w0 : World) (H : List Seg) (w : World) : Prop where
  os : w.os = w0.os
  tape : w.tape = w0.tape
  output : w.output = w0.output
  ge : w0.heap.size ≤ w.heap.size
  le : ∀ s ∈ H, s.hi ≤ w.heap.size
  ok : ∀ s ∈ H, s.ok w
  apart : H.Pairwise Seg.apart

theorem St.perm {w0 w : World} {H H' : List Seg} (h : St w0 H w) (p : H.Perm H') : St w0 H' w :=
  ⟨h.os, h.tape, h.output, h.ge, fun s hs => h.le s (p.mem_iff.2 hs), fun s hs => h.ok s (p.mem_iff.2 hs),
   (p.pairwise_iff (fun {_ _} => Seg.apart.symm)).1 h.apart⟩

theorem St.tail {w0 w : World} {s : Seg} {H : List Seg} (h : St w0 (s :: H) w) : St w0 H w :=
  ⟨h.os, h.tape, h.output, h.ge, fun t ht => h.le t (List.mem_cons_of_mem _ ht), fun t ht => h.ok t (List.mem_cons_of_mem _ ht), (List.pairwise_cons.1 h.apart).2⟩

/-- What only adds blocks keeps every segment. -/
theorem St.below {w0 w w' : World} {H : List Seg} (h : St w0 H w) (hb : Below w.heap.size w w') : St w0 H w' :=
  ⟨hb.os.trans h.os, hb.tape.trans h.tape, hb.output.trans h.output, Nat.le_trans h.ge hb.size, fun s hs => Nat.le_trans (h.le s hs) hb.size,
   fun s hs => Seg.ok_congr (fun k _ h2 => hb.block k (Nat.lt_of_lt_of_le h2 (h.le s hs))) (h.ok s hs), h.apart⟩

theorem St.drew {w0 w : World} {H : List Seg} (h : St w0 H w) : St w0 H w.drew :=
  ⟨h.os, h.tape, h.output, h.ge, h.le, fun s hs => Seg.ok_congr (fun _ _ _ => rfl) (h.ok s hs), h.apart⟩

/-- A new block. -/
theorem St.alloc {w0 w : World} {H : List Seg} (h : St w0 H w) {o : Obj} {p : Obj → Prop} (hp : p o) : St w0 (.own w.heap.size p :: H) (w.alloc o) := by
  have hb : Below w.heap.size w (w.alloc o) := (Below.refl _ _).alloc (Nat.le_refl _) o
  have h' := h.below hb
  refine ⟨h'.os, h'.tape, h'.output, h'.ge, ?_, ?_, ?_⟩
  · intro s hs
    rcases List.mem_cons.1 hs with rfl | hs
    · simp [Seg.hi]
    · exact h'.le s hs
  · intro s hs
    rcases List.mem_cons.1 hs with rfl | hs
    · exact ⟨o, (Array.getElem?_push_size : (w.heap.push o)[w.heap.size]? = some o), hp⟩
    · exact h'.ok s hs
  · refine List.pairwise_cons.2 ⟨fun s hs => .inr (h.le s hs), h'.apart⟩

/-- What a call has made. -/
theorem St.snap {w0 w w' : World} {H : List Seg} (h : St w0 H w) (hb : Below w.heap.size w w') : St w0 (.snap w.heap.size w'.heap.size w' :: H) w' := by
  have h' := h.below hb
  refine ⟨h'.os, h'.tape, h'.output, h'.ge, ?_, ?_, ?_⟩
  · intro s hs
    rcases List.mem_cons.1 hs with rfl | hs
    · exact Nat.le_refl _
    · exact h'.le s hs
  · intro s hs
    rcases List.mem_cons.1 hs with rfl | hs
    · exact fun _ _ _ => rfl
    · exact h'.ok s hs
  · refine List.pairwise_cons.2 ⟨fun s hs => .inr (h.le s hs), h'.apart⟩

/-- One segment turned, in place. -/
theorem St.upd {w0 w w' : World} {s s' : Seg} {H : List Seg} (h : St w0 (s :: H) w) (hos : w'.os = w.os) (ht : w'.tape = w.tape) (hout : w'.output = w.output)
    (hsz : w'.heap.size = w.heap.size) (hblk : ∀ k, (k < s.lo ∨ s.hi ≤ k) → w'.heap[k]? = w.heap[k]?) (hlo : s'.lo = s.lo) (hhi : s'.hi = s.hi) (hok : s'.ok w') :
    St w0 (s' :: H) w' := by
  refine ⟨hos.trans h.os, ht.trans h.tape, hout.trans h.output, hsz ▸ h.ge, ?_, ?_, ?_⟩
  · intro t ht
    rcases List.mem_cons.1 ht with rfl | ht
    · rw [hhi, hsz]; exact h.le s (List.mem_cons_self ..)
    · rw [hsz]; exact h.le t (List.mem_cons_of_mem _ ht)
  · intro t ht
    rcases List.mem_cons.1 ht with rfl | ht
    · exact hok
    · refine Seg.ok_congr (fun k h1 h2 => hblk k ?_) (h.ok t (List.mem_cons_of_mem _ ht))
      rcases (List.pairwise_cons.1 h.apart).1 t ht with ha | ha <;> omega
  · refine List.pairwise_cons.2 ⟨fun t ht => ?_, (List.pairwise_cons.1 h.apart).2⟩
    rcases (List.pairwise_cons.1 h.apart).1 t ht with ha | ha
    · exact .inl (by omega)
    · exact .inr (by omega)

/-- The start of a function's walk: all that lay there is one segment. -/
theorem St.start (w : World) : St w [.snap 0 w.heap.size w] w :=
  ⟨rfl, rfl, rfl, Nat.le_refl _, fun s hs => by simp at hs; subst hs; exact Nat.le_refl _, fun s hs => by simp at hs; subst hs; exact fun _ _ _ => rfl, by simp⟩

theorem St.below0 {w w' : World} {H : List Seg} (h : St w H w') (hm : .snap 0 w.heap.size w ∈ H) : Below w.heap.size w w' :=
  ⟨h.os, h.tape, h.output, h.ge, fun k hk => h.ok _ hm k (Nat.zero_le _) hk⟩

/-! ## Finding a segment -/

class Pick (s : Seg) (H : List Seg) (H2 : outParam (List Seg)) : Prop where
  perm : H.Perm (s :: H2)
instance Pick.here (s : Seg) (H : List Seg) : Pick s (s :: H) H := ⟨.refl _⟩
instance Pick.there (s t : Seg) (H H2 : List Seg) [h : Pick s H H2] : Pick s (t :: H) (t :: H2) := ⟨(h.perm.cons t).trans (.swap ..)⟩

class OwnAt (b : Nat) (H : List Seg) (p : outParam (Obj → Prop)) (H2 : outParam (List Seg)) : Prop where
  perm : H.Perm (.own b p :: H2)
instance OwnAt.here (b : Nat) (p : Obj → Prop) (H : List Seg) : OwnAt b (.own b p :: H) p H := ⟨.refl _⟩
instance OwnAt.there (b : Nat) (t : Seg) (H : List Seg) (p : Obj → Prop) (H2 : List Seg) [h : OwnAt b H p H2] : OwnAt b (t :: H) p (t :: H2) := ⟨(h.perm.cons t).trans (.swap ..)⟩

class RowAt (a : Option Addr) (H : List Seg) (n cap t sz : outParam Nat) (xs : outParam (List (List Value))) (H2 : outParam (List Seg)) : Prop where
  perm : H.Perm (.row a n cap t sz xs :: H2)
instance RowAt.here (a : Option Addr) (n cap t sz : Nat) (xs : List (List Value)) (H : List Seg) : RowAt a (.row a n cap t sz xs :: H) n cap t sz xs H := ⟨.refl _⟩
instance RowAt.there (a : Option Addr) (s : Seg) (H : List Seg) (n cap t sz : Nat) (xs : List (List Value)) (H2 : List Seg) [h : RowAt a H n cap t sz xs H2] :
    RowAt a (s :: H) n cap t sz xs (s :: H2) := ⟨(h.perm.cons s).trans (.swap ..)⟩

class SnapAt (w1 : World) (H : List Seg) (lo hi : outParam Nat) : Prop where
  mem : .snap lo hi w1 ∈ H
instance SnapAt.here (w1 : World) (lo hi : Nat) (H : List Seg) : SnapAt w1 (.snap lo hi w1 :: H) lo hi := ⟨List.mem_cons_self ..⟩
instance SnapAt.there (w1 : World) (t : Seg) (lo hi : Nat) (H : List Seg) [h : SnapAt w1 H lo hi] : SnapAt w1 (t :: H) lo hi := ⟨List.mem_cons_of_mem _ h.mem⟩

/-- H' is a part of H, in whatever order. -/
class SubH (H' H : List Seg) : Prop where
  sub : ∃ R, H.Perm (H' ++ R)
instance SubH.nil (H : List Seg) : SubH [] H := ⟨H, .refl _⟩
instance SubH.cons (s : Seg) (H' H H2 : List Seg) [hp : Pick s H H2] [hs : SubH H' H2] : SubH (s :: H') H :=
  ⟨let ⟨R, h⟩ := hs.sub; ⟨R, hp.perm.trans (h.cons s)⟩⟩

theorem St.sub {w0 w : World} {H H' : List Seg} (h : St w0 H w) [s : SubH H' H] : St w0 H' w := by
  obtain ⟨R, hp⟩ := s.sub
  have h' := h.perm hp
  exact ⟨h.os, h.tape, h.output, h.ge, fun t ht => h'.le t (List.mem_append_left _ ht), fun t ht => h'.ok t (List.mem_append_left _ ht), (List.pairwise_append.1 h'.apart).1⟩

end Go.Sx



namespace Go.Sx
open Go Go.RowKit

/-! ## Drawn orders with operations that turn the world

Some operations of the region (their numbers: S) turn the world; each of them is the only one that can come when all before it in the text have come. All others yield one value in every world of the class C. -/

theorem callsIn_WF {r : Option Nat} {k : Nat} {P : Program} {f : Nat} {args : Array Value} {w : World} {R : Ending → World → Prop} (h : Calls P f args w R) : CallsIn (WF r) k P f args w R :=
  (callsIn_wide (n := k)).2 h

section mixed
variable {P : Program} {ops : Array Oper} {md : Region.Mode} {C : World → Prop} {S : List Nat}

def quietM (P : Program) (C : World → Prop) (o : Oper) (a : Act) (v : Value) : Prop :=
  ∀ w, C w → match (execOp a.eval o).run P w with
    | .ok (.value u) w' => w' = w ∧ u = v
    | .ok .skip w' => w' = w ∧ v = undef
    | .ok (.enter f args) w' => w' = w ∧ Calls P f args w (fun e w'' => e = .returned v ∧ Below w.heap.size w w'')
    | _ => False

/-- Kept by whatever only adds blocks, and within C. -/
structure Good (C D : World → Prop) : Prop where
  below : ∀ w w', D w → Below w.heap.size w w' → D w'
  sub : ∀ w, D w → C w

/-- The last operation waits for all others. -/
def lastB (ops : Array Oper) : Bool :=
  match ops[ops.size - 1]? with
  | some o => (List.range (ops.size - 1)).all fun j => o.after.any fun e => Region.binds .any e && e.on == j
  | none => false

/-- What is asked of the worlds behind operation i: nothing, if it is the last of all. -/
def Fine (ops : Array Oper) (C : World → Prop) (i : Nat) (D : World → Prop) : Prop := (lastB ops = true ∧ i + 1 = ops.size) ∨ Good C D

theorem last_done {listed : Array Bool} (hl : lastB ops = true) {i : Nat} (hn : i + 1 = ops.size) (hi : i ∈ Region.ready .any ops listed) : Region.ready .any ops (listed.setIfInBounds i true) = [] := by
  obtain ⟨h0, o, ho, hall⟩ := mem_ready.1 hi
  unfold lastB at hl
  have hi' : ops.size - 1 = i := by omega
  rw [hi', ho] at hl
  simp only [List.all_eq_true, List.mem_range] at hl
  refine List.eq_nil_iff_forall_not_mem.2 fun j hj => ?_
  obtain ⟨h1, oj, hoj, _⟩ := mem_ready.1 hj
  have hjlt : j < ops.size := (Array.getElem?_eq_some_iff.1 hoj).1
  by_cases hji : j = i
  · subst hji
    rcases Nat.lt_or_ge j listed.size with h' | h'
    · simp [h'] at h1
    · simp [Array.getElem?_eq_none h'] at h1
  · rw [getD_set_ne true (Ne.symm hji)] at h1
    obtain ⟨e, he, hb⟩ := Array.any_eq_true'.1 (hl j (by omega))
    simp only [Bool.and_eq_true, beq_iff_eq] at hb
    have h2 := hall e he hb.1
    rw [hb.2] at h2
    rcases Nat.lt_or_ge j listed.size with h' | h'
    · simp [h'] at h1 h2; rw [h2] at h1; cases h1
    · simp [Array.getElem?_eq_none h'] at h1

def QF : Exit → Act → World → Prop := fun _ _ _ => False

def mOp (P : Program) (ops : Array Oper) (S : List Nat) (C D : World → Prop) (i : Nat) (K : (World → Prop) → Act → Prop) (a : Act) : Prop :=
  match ops[i]? with
  | none => K D a
  | some o => if Region.wanted o (yielded ops a.tmps) then
      if S.contains i then ∀ w, D w → o.wpIn (WF none) 0 P a w (fun a' w' => a'.defers = a.defers ∧ ∃ D', Fine ops C i D' ∧ D' w' ∧ K D' a') QF
      else ∃ v, quietM P C o a v ∧ K D (a.put o.dst v)
    else K D (a.put o.dst undef)

theorem upon_mono {F : Fence} {n : Nat} {o : Oper} {a : Act} {K K' : Act → World → Prop} {Q : Exit → Act → World → Prop} {r : Result Next} (h : ∀ a w, K a w → K' a w) (hh : o.uponIn F n P a K QF r) : o.uponIn F n P a K' Q r := by
  have hL : ¬ LetsOut QF := fun ⟨_, _, h⟩ => h
  unfold Oper.uponIn at *
  split <;> simp only at hh
  · exact h _ _ hh
  · exact h _ _ hh
  · exact h _ _ hh
  · exact ⟨hh.1, hh.2.mono fun e w' he => by
      cases e with
      | returned v => exact h _ _ he
      | panicked c => exact he.elim
      | outgrown => exact (hL he).elim⟩
  · exact ⟨hh.1, hh.2.mono fun v w' hv => h _ _ hv⟩
  · exact ⟨hh.1, hh.2.mono fun e w' he => by
      cases e with
      | returned v => exact h _ _ he
      | panicked c => exact he.elim
      | outgrown => exact (hL he).elim⟩
  · exact hh.elim

/-- The same operation, carried out ahead of another one's value. -/
theorem upon_put {F : Fence} {n : Nat} {o : Oper} {a : Act} {d : Option Tmp} {u : Value} {K K' : Act → World → Prop} {r : Result Next} (h : ∀ v w, K ((a.put d u).put o.dst v) w → K' (a.put o.dst v) w)
    (hd : ∀ x w, ¬ K ({ (a.put d u) with defers := x :: (a.put d u).defers }.put o.dst undef) w) (hh : o.uponIn F n P (a.put d u) K QF r) : o.uponIn F n P a K' QF r := by
  have hL : ¬ LetsOut QF := fun ⟨_, _, h⟩ => h
  unfold Oper.uponIn at *
  split <;> simp only at hh
  · exact h _ _ hh
  · exact h _ _ hh
  · exact (hd _ _ hh).elim
  · exact ⟨hh.1, hh.2.mono fun e w' he => by
      cases e with
      | returned v => exact h _ _ he
      | panicked c => exact he.elim
      | outgrown => exact (hL he).elim⟩
  · exact ⟨hh.1, hh.2.mono fun v w' hv => h _ _ hv⟩
  · exact ⟨hh.1, hh.2.mono fun e w' he => by
      cases e with
      | returned v => exact h _ _ he
      | panicked c => exact he.elim
      | outgrown => exact (hL he).elim⟩
  · exact hh.elim

theorem mOp_mono {D : World → Prop} {i : Nat} {a : Act} {K K' : (World → Prop) → Act → Prop} (h : ∀ D a, K D a → K' D a) (hh : mOp P ops S C D i K a) : mOp P ops S C D i K' a := by
  unfold mOp at *
  split
  · exact h _ _ (by simpa [*] using hh)
  · rename_i o ho
    simp only [ho] at hh
    split
    · rename_i hw
      simp only [hw, if_true] at hh
      split
      · rename_i hs
        simp only [hs, if_true] at hh
        intro w hD
        refine ⟨(hh w hD).1, upon_mono (fun a' w' h' => ?_) (hh w hD).2⟩
        obtain ⟨h1, D', h2, h3, h4⟩ := h'
        exact ⟨h1, D', h2, h3, h _ _ h4⟩
      · rename_i hs
        simp only [hs] at hh
        obtain ⟨v, h1, h2⟩ := hh
        exact ⟨v, h1, h _ _ h2⟩
    · rename_i hw; simp only [hw] at hh; exact h _ _ hh

/-- Whatever order is picked from here on. -/
def mAny (P : Program) (md : Region.Mode) (ops : Array Oper) (S : List Nat) (C : World → Prop) (Q : (World → Prop) → Act → Prop) : Nat → Array Bool → (World → Prop) → Act → Prop
  | 0, listed, D, a => Region.ready md ops listed = [] ∧ Q D a
  | fuel + 1, listed, D, a =>
    (Region.ready md ops listed = [] → Q D a) ∧
    ∀ i ∈ Region.ready md ops listed, mOp P ops S C D i (fun D' a' => mAny P md ops S C Q fuel (listed.setIfInBounds i true) D' a') a

theorem wpAnyIn_of_m (hnd : ∀ (j : Nat) (o : Oper) c, ops[j]? = some o → o.op ≠ .defer c) {Q : (World → Prop) → Act → Prop} {Q' : Exit → Act → World → Prop} (hQ : ∀ D a w, Q D a → D w → Q' .normal a w) :
    ∀ (fuel : Nat) (listed : Array Bool) (D : World → Prop) (a : Act) (w : World), (Good C D ∨ Region.ready .any ops listed = []) → D w → mAny P .any ops S C Q fuel listed D a → wpAnyIn (WF none) 0 P .any ops Q' fuel listed a w
  | 0, _, _, _, _, _, hw, h => ⟨h.1, hQ _ _ _ h.2 hw⟩
  | fuel + 1, _, D, _, w, hg, hw, h => by
    refine ⟨fun h0 => hQ _ _ _ (h.1 h0) hw, fun i hi => ?_⟩
    have hg : Good C D := by
      rcases hg with hg | hg
      · exact hg
      · rw [hg] at hi; cases hi
    have h2 := h.2 i hi
    unfold mOp at h2
    unfold wpOpIn
    split
    · rename_i ho; simp only [ho] at h2; exact wpAnyIn_of_m hnd hQ fuel _ _ _ _ (.inl hg) hw h2
    · rename_i o ho
      simp only [ho] at h2
      split
      · rename_i hwt
        simp only [hwt, if_true] at h2
        split at h2
        · refine ⟨(h2 w hw).1, upon_mono (fun a' w' h' => ?_) (h2 w hw).2⟩
          obtain ⟨_, D', h4, h5, h6⟩ := h'
          rcases h4 with ⟨hl, hn⟩ | h4
          · exact wpAnyIn_of_m hnd hQ fuel _ _ _ _ (.inr (last_done hl hn hi)) h5 h6
          · exact wpAnyIn_of_m hnd hQ fuel _ _ _ _ (.inl h4) h5 h6
        · obtain ⟨v, h3, h4⟩ := h2
          have h5 := h3 w (hg.sub w hw)
          refine ⟨fun _ _ => trivial, ?_⟩
          rw [Oper.semAt_eq _ _ _ (fun c => hnd i o c ho)]
          generalize (execOp _ _).run P w = r at *
          cases r with
          | halt x w' => exact h5.elim
          | ok x w' =>
            cases x <;> simp only at h5 <;> simp only [Oper.uponIn]
            case value u => rw [h5.1, h5.2]; exact wpAnyIn_of_m hnd hQ fuel _ _ _ _ (.inl hg) hw h4
            case skip => rw [h5.1, ← h5.2]; exact wpAnyIn_of_m hnd hQ fuel _ _ _ _ (.inl hg) hw h4
            case enter f args =>
              rw [h5.1]
              refine ⟨(fun h => by cases h), callsIn_WF (h5.2.mono ?_)⟩
              rintro _ w'' ⟨rfl, hb⟩
              exact wpAnyIn_of_m hnd hQ fuel _ _ _ _ (.inl hg) (hg.below _ _ hw hb) h4
      · rename_i hwt
        simp only [hwt] at h2
        exact ⟨fun _ _ => trivial, wpAnyIn_of_m hnd hQ fuel _ _ _ _ (.inl hg) hw h2⟩

def YieldsM (P : Program) (ops : Array Oper) (C : World → Prop) (o : Oper) (v : Value) (a : Act) : Prop :=
  (Region.wanted o (yielded ops a.tmps) = true ∧ quietM P C o a v) ∨ (Region.wanted o (yielded ops a.tmps) = false ∧ v = undef)

theorem YieldsM.op {D : World → Prop} {i : Nat} {o : Oper} {v : Value} {a : Act} (hi : ops[i]? = some o) (hS : S.contains i = false) (hy : YieldsM P ops C o v a) {K : (World → Prop) → Act → Prop} (h : K D (a.put o.dst v)) : mOp P ops S C D i K a := by
  unfold mOp
  simp only [hi]
  rcases hy with ⟨hw, hv⟩ | ⟨hw, rfl⟩
  · simp only [hw, if_true, hS]; exact ⟨v, hv, h⟩
  · simp only [hw, Bool.false_eq_true, if_false]; exact h

theorem YieldsM.of_same {o : Oper} {v : Value} {a a' : Act} (hy : YieldsM P ops C o v a) (he : execOp a'.eval o = execOp a.eval o)
    (hw : Region.wanted o (yielded ops a'.tmps) = Region.wanted o (yielded ops a.tmps)) : YieldsM P ops C o v a' := by
  unfold YieldsM quietM at *
  rw [he, hw]
  exact hy

theorem yieldsM_of_op {D : World → Prop} {i : Nat} {o : Oper} {a : Act} {K : (World → Prop) → Act → Prop} (hi : ops[i]? = some o) (hS : S.contains i = false) (h : mOp P ops S C D i K a) : ∃ v, YieldsM P ops C o v a ∧ K D (a.put o.dst v) := by
  unfold mOp at h
  simp only [hi] at h
  by_cases hw : Region.wanted o (yielded ops a.tmps) = true
  · simp only [hw, if_true, hS] at h
    obtain ⟨v, h1, h2⟩ := h
    exact ⟨v, .inl ⟨hw, h1⟩, h2⟩
  · simp only [hw] at h
    exact ⟨undef, .inr ⟨by simpa using hw, rfl⟩, h⟩

theorem mOp_put (hnd : ∀ (j : Nat) (o : Oper) c, ops[j]? = some o → o.op ≠ .defer c) {D : World → Prop} {j : Nat} {oi oj : Oper} {v : Value} (hj : ops[j]? = some oj) (hap : oi.apart ops oj = true)
    (hsi : ∀ cs b, oi.op ≠ .select cs b) (hsj : ∀ cs b, oj.op ≠ .select cs b) {K : (World → Prop) → Act → Prop} {a : Act}
    (hy : YieldsM P ops C oi v a) (h : mOp P ops S C D j K (a.put oi.dst v)) :
    mOp P ops S C D j (fun D' a' => YieldsM P ops C oi v a' ∧ K D' (a'.put oi.dst v)) a := by
  have hndj : ∀ c, oj.op ≠ .defer c := fun c => hnd j oj c hj
  obtain ⟨h1, h2, h3⟩ := Oper.apart_spec hap
  have keep : ∀ (a : Act), YieldsM P ops C oi v a → ∀ u, YieldsM P ops C oi v (a.put oj.dst u) := fun a hy u =>
    hy.of_same (execOp_put oi hsi a oj.dst u h3) (wanted_put oi a oj.dst u h3)
  unfold mOp at *
  simp only [hj] at *
  rw [wanted_put oj a oi.dst v h1] at h
  split
  · rename_i hw
    simp only [hw, if_true] at h
    split
    · rename_i hs
      simp only [hs, if_true] at h
      intro w hD
      have h4 := (h w hD).2
      refine ⟨fun _ _ => trivial, ?_⟩
      rw [Oper.semAt_eq _ _ _ hndj] at h4 ⊢
      rw [execOp_put oj hsj a oi.dst v h1] at h4
      have hdef : ∀ (dd : Option Tmp) (u : Value) (a : Act), (a.put dd u).defers = a.defers := fun dd u a => by cases dd <;> rfl
      refine upon_put (fun u w' h' => ?_) (fun x w' h' => ?_) h4
      · obtain ⟨e1, D', e2, e3, e4⟩ := h'
        exact ⟨by rw [hdef], D', e2, e3, keep a hy u, by rw [← Act.put_comm a v u h2]; exact e4⟩
      · have := h'.1
        rw [hdef] at this
        have := congrArg List.length this
        simp at this
    · rename_i hs
      simp only [hs] at h
      obtain ⟨u, hu, hn⟩ := h
      refine ⟨u, fun w hw' => ?_, keep a hy u, by rw [← Act.put_comm a v u h2]; exact hn⟩
      have := hu w hw'
      rwa [execOp_put oj hsj a oi.dst v h1] at this
  · rename_i hw
    simp only [hw] at h
    exact ⟨keep a hy _, by rw [← Act.put_comm a v undef h2]; exact h⟩

theorem mAny_first (hnd : ∀ (j : Nat) (o : Oper) c, ops[j]? = some o → o.op ≠ .defer c) {Q : (World → Prop) → Act → Prop} {i : Nat} {oi : Oper} {v : Value} (hi : ops[i]? = some oi) (hS : S.contains i = false) (hsel : ∀ (j : Nat) (o : Oper) cs b, ops[j]? = some o → o.op ≠ .select cs b) :
    ∀ (fuel : Nat) (listed : Array Bool) (D : World → Prop) (a : Act),
      (∀ j oj, ops[j]? = some oj → j ≠ i → listed.getD j true = false → (∀ e ∈ oj.after, Region.binds md e = true → e.on ≠ i) → oi.apart ops oj = true) →
      i ∈ Region.ready md ops listed → YieldsM P ops C oi v a →
      mAny P md ops S C Q fuel (listed.setIfInBounds i true) D (a.put oi.dst v) → mAny P md ops S C Q (fuel + 1) listed D a := by
  intro fuel
  induction fuel with
  | zero =>
    intro listed D a _ hr hy H
    refine ⟨fun h => (by rw [h] at hr; cases hr), fun j hj => ?_⟩
    by_cases hji : j = i
    · subst hji; exact hy.op hi hS H
    · have := ready_mono hj hji
      rw [H.1] at this
      cases this
  | succ fuel ih =>
    intro listed D a hfree hr hy H
    refine ⟨fun h => (by rw [h] at hr; cases hr), fun j hj => ?_⟩
    by_cases hji : j = i
    · subst hji; exact hy.op hi hS H
    · have h1 := H.2 j (ready_mono hj hji)
      obtain ⟨hjun, oj, hoj, hall⟩ := mem_ready.1 hj
      have hnot : ∀ e ∈ oj.after, Region.binds md e = true → e.on ≠ i := fun e he hb heq => by
        have h1 := hall e he hb
        have h0 := (mem_ready.1 hr).1
        rw [heq] at h1
        rcases Nat.lt_or_ge i listed.size with h' | h'
        · simp [h'] at h0 h1; rw [h0] at h1; cases h1
        · simp [Array.getElem?_eq_none h'] at h1
      have h2 := mOp_put hnd hoj (hfree j oj hoj hji hjun hnot) (fun cs b => hsel i oi cs b hi) (fun cs b => hsel j oj cs b hoj) hy h1
      have hfree' : ∀ k ok, ops[k]? = some ok → k ≠ i → (listed.setIfInBounds j true).getD k true = false →
          (∀ e ∈ ok.after, Region.binds md e = true → e.on ≠ i) → oi.apart ops ok = true := fun k ok hk hki hun hno => by
        refine hfree k ok hk hki ?_ hno
        by_cases hjk : j = k
        · subst hjk; exact hjun
        · rw [getD_set_ne true hjk] at hun; exact hun
      refine mOp_mono (fun D' a' h3 => ih (listed.setIfInBounds j true) D' a' hfree' (ready_mono hr (Ne.symm hji)) h3.1 ?_) h2
      rw [Array.setIfInBounds_comm _ _ hji]
      exact h3.2

/-- The lexical walk. -/
def wpMix (P : Program) (ops : Array Oper) (S : List Nat) (C : World → Prop) (Q : (World → Prop) → Act → Prop) : List Oper → Nat → (World → Prop) → Act → Prop
  | [], _, D, a => Q D a
  | o :: rest, k, D, a => if Region.wanted o (yielded ops a.tmps) then
      if S.contains k then ∀ w, D w → o.wpIn (WF none) 0 P a w (fun a' w' => a'.defers = a.defers ∧ ∃ D', Fine ops C k D' ∧ D' w' ∧ wpMix P ops S C Q rest (k + 1) D' a') QF
      else ∃ v, quietM P C o a v ∧ wpMix P ops S C Q rest (k + 1) D (a.put o.dst v)
    else wpMix P ops S C Q rest (k + 1) D (a.put o.dst undef)

def mixFrom (md : Region.Mode) (ops : Array Oper) (S : List Nat) : Nat → Nat → Array Bool → Bool
  | 0, _, listed => (Region.ready md ops listed).isEmpty
  | fuel + 1, k, listed => (if S.contains k then Region.ready md ops listed == [k] else (Region.ready md ops listed).contains k && Region.free md ops listed k) && mixFrom md ops S fuel (k + 1) (listed.setIfInBounds k true)

def noDefer (ops : Array Oper) : Bool := ops.all fun o => match o.op with | .defer _ => false | _ => true

theorem noDefer_spec (h : noDefer ops = true) : ∀ (j : Nat) (o : Oper) c, ops[j]? = some o → o.op ≠ .defer c := by
  intro j o c ho he
  have := Array.all_eq_true_iff_forall_mem.1 h o (Array.mem_of_getElem? ho)
  rw [he] at this
  cases this

def mixB (md : Region.Mode) (ops : Array Oper) (S : List Nat) : Bool := Region.noSelect ops && noDefer ops && mixFrom md ops S ops.size 0 (Array.replicate ops.size false)

theorem mAny_lex {Q : (World → Prop) → Act → Prop} (hs : Region.noSelect ops = true) (hnd : noDefer ops = true) : ∀ (l : List Oper) (k : Nat) (listed : Array Bool) (D : World → Prop) (a : Act), (∀ j, l[j]? = ops[k + j]?) →
    mixFrom md ops S l.length k listed = true → wpMix P ops S C Q l k D a → mAny P md ops S C Q l.length listed D a
  | [], _, _, _, _, _, hB, h => ⟨by simpa [mixFrom] using hB, h⟩
  | o :: l, k, listed, D, a, hl, hB, h => by
    have h0 : ops[k]? = some o := by simpa using (hl 0).symm
    simp only [List.length_cons, mixFrom, Bool.and_eq_true] at hB
    obtain ⟨hr, hB'⟩ := hB
    have hst : mOp P ops S C D k (fun D' a' => wpMix P ops S C Q l (k + 1) D' a') a := by unfold mOp; simp only [h0]; exact h
    have hnext := fun D' a' (h : wpMix P ops S C Q l (k + 1) D' a') => mAny_lex (Q := Q) hs hnd l (k + 1) (listed.setIfInBounds k true) D' a' (fun j => by have := hl (j + 1); simpa [Nat.add_assoc, Nat.add_comm 1 j] using this) hB' h
    cases hS : S.contains k with
    | true =>
      rw [hS] at hr
      have hr' : Region.ready md ops listed = [k] := by simpa using hr
      refine ⟨fun h => (by rw [hr'] at h; cases h), fun i hi => ?_⟩
      rw [hr'] at hi
      have : i = k := by simpa using hi
      subst this
      exact mOp_mono hnext hst
    | false =>
      rw [hS] at hr
      simp only [Bool.false_eq_true, if_false, Bool.and_eq_true] at hr
      obtain ⟨v, hy, hK⟩ := yieldsM_of_op h0 hS hst
      exact mAny_first (noDefer_spec hnd) h0 hS (Region.noSelect_spec hs) l.length listed D a (Region.free_spec h0 hr.2) (by simpa using hr.1) hy (hnext _ _ hK)

theorem wpIn_region_mix {id : Nat} {Q : Exit → Act → World → Prop} {a : Act} {w : World} {l : List Oper} (S : List Nat) (C D : World → Prop) (hm : P.follows .mixedOrders = true) (hB : mixB .any l.toArray S = true) (hg : Good C D)
    (hD : D { w with drawn := w.drawn + 1 }) (h : wpMix P l.toArray S C (fun D a' => ∀ w', D w' → Q .normal a' w') l 0 D a) : (Code.region id l.toArray true).wpIn (WF none) 0 P Q a w := by
  simp only [mixB, Bool.and_eq_true] at hB
  refine wpIn_region_any hm (wpAnyIn_of_m (S := S) (noDefer_spec hB.1.2) (Q := fun D a' => ∀ w', D w' → Q .normal a' w') (fun D a w h hw => h w hw) _ _ D _ _ (.inl hg) hD ?_)
  have := mAny_lex (P := P) (C := C) (md := .any) (S := S) hB.1.1 hB.1.2 l 0 (Array.replicate l.toArray.size false) D a (by simp) (by simpa using hB.2) h
  simpa using this

/-- Quiet operations only. -/
def wpQM (P : Program) (ops : Array Oper) (C : World → Prop) (Q : Act → Prop) : List Oper → Act → Prop
  | [], a => Q a
  | o :: rest, a => if Region.wanted o (yielded ops a.tmps) then ∃ v, quietM P C o a v ∧ wpQM P ops C Q rest (a.put o.dst v) else wpQM P ops C Q rest (a.put o.dst undef)

theorem wpMix_of_quiet {Q : Act → Prop} {Q' : (World → Prop) → Act → Prop} {D : World → Prop} (h : ∀ a, Q a → Q' D a) : ∀ (l : List Oper) (k : Nat) (a : Act), wpQM P ops C Q l a → wpMix P ops [] C Q' l k D a
  | [], _, a, hq => h a hq
  | o :: l, k, a, hq => by
    simp only [wpQM] at hq
    simp only [wpMix, List.contains_nil, Bool.false_eq_true, if_false]
    split
    · rename_i hw
      simp only [hw, if_true] at hq
      obtain ⟨v, h1, h2⟩ := hq
      exact ⟨v, h1, wpMix_of_quiet h l _ _ h2⟩
    · rename_i hw
      simp only [hw] at hq
      exact wpMix_of_quiet h l _ _ hq

end mixed
end Go.Sx




namespace Go.Sx
open Go Go.RowKit

/-! ## The judgements -/

/-- From every frame and world that meet the lists, leaving in this way is good. -/
def TX (x : Cx) (e : Exit) (ks : List KI) (E : Env) (H : List Seg) : Prop := ∀ a w, E.ok a → St x.w0 H w → Qk x ks e a w

def T (x : Cx) (ks : List KI) (c : Code) (E : Env) (H : List Seg) : Prop := ∀ a w, E.ok a → St x.w0 H w → c.wpIn (WF x.r) 0 x.P (Qk x ks) a w

/-- The operations of a region that are still to come. -/
def TO (x : Cx) (d : Bool) (ops : Array Oper) (rest : List Oper) (ks : List KI) (E : Env) (H : List Seg) : Prop :=
  match d with
  | false => ∀ a w, E.ok a → St x.w0 H w → wpListIn (WF x.r) 0 x.P ops (Qk x ks) rest a w
  | true => ∀ a, E.ok a → wpQM x.P ops (St x.w0 H) (fun a' => ∀ w', St x.w0 H w' → Qk x ks .normal a' w') rest a

section control
variable {x : Cx} {ks : List KI} {E : Env} {H : List Seg}

theorem t_seq {a b : Code} (h : T x (.code b :: ks) a E H) : T x ks (.seq a b) E H := fun _ _ e s => wpIn_seq (h _ _ e s)
theorem t_blk {id : Nat} {c : Code} (h : T x (.blk id :: ks) c E H) : T x ks (.block id c) E H := fun _ _ e s => wpIn_block (h _ _ e s)
theorem t_skip (h : TX x .normal ks E H) : T x ks .skip E H := fun _ _ e s => wpIn_skip (h _ _ e s)
theorem t_label {l : Nat} (h : TX x .normal ks E H) : T x ks (.label l) E H := fun _ _ e s => wpIn_label (h _ _ e s)
theorem t_exit {id : Nat} (h : TX x (.exit id) ks E H) : T x ks (.exit id) E H := fun _ _ e s => wpIn_exit (h _ _ e s)

theorem Qk_ret (x : Cx) : ∀ (ks : List KI) (a : Act) (w : World), Qk x ks .ret a w = x.Q .ret a w
  | [], _, _ => rfl
  | .code _ :: ks, a, w => Qk_ret x ks a w
  | .blk _ :: ks, a, w => Qk_ret x ks a w
  | .scp :: ks, a, w => Qk_ret x ks a w
  | .inv _ :: ks, a, w => Qk_ret x ks a w

theorem Qk_panic (x : Cx) (ch : List PanicEntry) : ∀ (ks : List KI) (a : Act) (w : World), Qk x ks (.panic ch) a w = x.Q (.panic ch) a w
  | [], _, _ => rfl
  | .code _ :: ks, a, w => Qk_panic x ch ks a w
  | .blk _ :: ks, a, w => Qk_panic x ch ks a w
  | .scp :: ks, a, w => Qk_panic x ch ks a w
  | .inv _ :: ks, a, w => Qk_panic x ch ks a w

theorem t_ret (h : ∀ a w, E.ok a → St x.w0 H w → x.Q .ret a w) : T x ks .ret E H := fun a w e s => wpIn_ret ((Qk_ret x ks a w).symm ▸ h a w e s)

theorem t_scope {c : Code} (hr : x.r = none) (h : T x (.scp :: ks) c E H) : T x ks (.scope c) E H := fun a w e s => by
  have := h a w e s
  rw [hr, WF_none, wpIn_wide] at this ⊢
  exact wp_scope_straight this
theorem tn_scp (h : TX x .normal ks E H) : TX x .normal (.scp :: ks) E H := h
theorem tx_scp {id : Nat} (h : TX x (.exit id) ks E H) : TX x (.exit id) (.scp :: ks) E H := h

theorem tn_code {c : Code} (h : T x ks c E H) : TX x .normal (.code c :: ks) E H := h
theorem tn_blk {id : Nat} (h : TX x .normal ks E H) : TX x .normal (.blk id :: ks) E H := h
theorem tn_inv {J : Act → World → Prop} (h : ∀ a w, E.ok a → St x.w0 H w → J a w) : TX x .normal (.inv J :: ks) E H := h
theorem tn_nil (h : ∀ a w, E.ok a → St x.w0 H w → x.Q .normal a w) : TX x .normal [] E H := h

theorem tx_code {id : Nat} {c : Code} (h : TX x (.exit id) ks E H) : TX x (.exit id) (.code c :: ks) E H := h
theorem tx_inv {id : Nat} {J : Act → World → Prop} (h : TX x (.exit id) ks E H) : TX x (.exit id) (.inv J :: ks) E H := h
theorem tx_blk {id : Nat} (h : TX x .normal ks E H) : TX x (.exit id) (.blk id :: ks) E H := fun a w e s => by
  show (if id = id then _ else _)
  rw [if_pos rfl]; exact h a w e s
theorem tx_blk_ne {id j : Nat} (hne : Nat.beq id j = false) (h : TX x (.exit id) ks E H) : TX x (.exit id) (.blk j :: ks) E H := fun a w e s => by
  show (if id = j then _ else _)
  rw [if_neg (fun h => by subst h; simp at hne)]; exact h a w e s
theorem tx_nil {id : Nat} (h : ∀ a w, E.ok a → St x.w0 H w → x.Q (.exit id) a w) : TX x (.exit id) [] E H := h

/-- A frame may forget; segments too. -/
theorem t_weak {n : Nat} {m : List (Nat × Value)} {ds : List Deferred} {c : Code} (m' : List (Nat × Value)) (H' : List Seg) [SubH H' H] (hm : AllLk m m') (h : T x ks c ⟨n, m', ds⟩ H') : T x ks c ⟨n, m, ds⟩ H :=
  fun a w e s => h a w (e.sub hm) s.sub
theorem tx_weak {n : Nat} {m : List (Nat × Value)} {ds : List Deferred} {e : Exit} (m' : List (Nat × Value)) (H' : List Seg) [SubH H' H] (hm : AllLk m m') (h : TX x e ks ⟨n, m', ds⟩ H') : TX x e ks ⟨n, m, ds⟩ H :=
  fun a w e s => h a w (e.sub hm) s.sub

variable {c : Operand} {A B : Code}
theorem t_if {b : Bool} (hc : ev E.m c = some (.bool b)) (ht : b = true → T x ks A E H) (hf : b = false → T x ks B E H) : T x ks (.cond c A B) E H :=
  fun a w e s => wpIn_cond_split (e.ev hc) (fun h => ht h a w e s) (fun h => hf h a w e s)
theorem t_ifT (hc : ev E.m c = some (.bool true)) (ht : T x ks A E H) : T x ks (.cond c A B) E H :=
  fun a w e s => wpIn_cond_true (e.ev hc) (ht a w e s)
theorem t_ifF (hc : ev E.m c = some (.bool false)) (hf : T x ks B E H) : T x ks (.cond c A B) E H :=
  fun a w e s => wpIn_cond_false (e.ev hc) (hf a w e s)
theorem t_ifD {p : Prop} [Decidable p] (hc : ev E.m c = some (.bool (decide p))) (ht : p → T x ks A E H) (hf : ¬p → T x ks B E H) : T x ks (.cond c A B) E H :=
  t_if hc (fun h => ht (of_decide_eq_true h)) (fun h => hf (of_decide_eq_false h))
theorem t_ifN {b : Bool} (hc : ev E.m c = some (.bool (!b))) (hf : b = true → T x ks B E H) (ht : b = false → T x ks A E H) : T x ks (.cond c A B) E H :=
  t_if hc (fun h => ht (by simpa using h)) (fun h => hf (by simpa using h))

/-! ### Loops -/

def LoopEnd {ι : Type} (w0 : World) (n : Nat) (ds : List Deferred) (I : ι → Prop) (M : ι → List (Nat × Value)) (S : ι → List Seg) (μ : ι → Nat) (i : ι) (a : Act) (w : World) : Prop :=
  ∃ j, I j ∧ μ j < μ i ∧ Env.ok ⟨n, M j, ds⟩ a ∧ St w0 (S j) w

theorem wpIn_loopI {ι : Type} {F : Fence} {n : Nat} {P : Program} {Q : Exit → Act → World → Prop} {a : Act} {w : World} {c : Code} (R : ι → Act → World → Prop) (μ : ι → Nat) (i0 : ι) (h₀ : R i0 a w)
    (round : ∀ i a w, R i a w → c.wpIn F n P (Exit.then (fun a' w' => ∃ j, R j a' w' ∧ μ j < μ i) Q) a w) : (Code.loop c).wpIn F n P Q a w := by
  intro b k cs hro hb hr
  have key : ∀ j i a w, μ i = j → R i a w →
      ∃ e a' w', Q e a' w' ∧ ArrivesIn (Machine.fenced P F) P (lone (b.atR a (.code c :: .inLoop c :: k)) cs w) b k cs e a' w' := by
    intro j
    induction j using Nat.strongRecOn with
    | _ j ih =>
      intro i a w hn hI
      obtain ⟨e, a₁, w₁, hq, harr⟩ := round i a w hI b (.inLoop c :: k) cs hro hb hr
      cases e with
      | normal =>
        obtain ⟨i', hI₁, hlt⟩ := hq
        obtain ⟨e₂, a₂, w₂, hq₂, harr₂⟩ := ih (μ i') (hn ▸ hlt) i' a₁ w₁ rfl hI₁
        exact ⟨e₂, a₂, w₂, hq₂, .of_steps (StepsIn.trans harr (.one (fenced_calm hb hr rfl) stepR_inLoop)) harr₂⟩
      | exit id => exact ⟨_, a₁, w₁, hq, .pass (x := .inLoop c) rfl (fun _ _ => .inl (by simp)) harr⟩
      | goto l => exact ⟨_, a₁, w₁, hq, .pass (x := .inLoop c) rfl (fun _ _ => .inl (by simp)) harr⟩
      | ret => exact ⟨_, a₁, w₁, hq, .pass (x := .inLoop c) rfl (fun _ _ => .inl (by simp)) harr⟩
      | panic ch => exact ⟨_, a₁, w₁, hq, .pass (x := .inLoop c) rfl (fun _ _ => .inl (by simp)) harr⟩
      | outgrown => exact ⟨_, a₁, w₁, hq, .pass (x := .inLoop c) rfl (fun _ _ => .inl (by simp)) harr⟩
  obtain ⟨e, a', w', hq, harr⟩ := key _ i0 a w rfl h₀
  exact ⟨e, a', w', hq, .of_steps (.one (fenced_calm hb hr rfl) stepR_loop) harr⟩

theorem t_loop {ι : Type} {n : Nat} {m : List (Nat × Value)} {ds : List Deferred} {c : Code} (I : ι → Prop) (M : ι → List (Nat × Value)) (S : ι → List Seg) (μ : ι → Nat) (i0 : ι) (h0 : I i0)
    (hm : AllLk m (M i0)) [SubH (S i0) H] (round : ∀ i, I i → T x (.inv (LoopEnd x.w0 n ds I M S μ i) :: ks) c ⟨n, M i, ds⟩ (S i)) : T x ks (.loop c) ⟨n, m, ds⟩ H := by
  intro a w e s
  refine wpIn_loopI (fun i a w => I i ∧ Env.ok ⟨n, M i, ds⟩ a ∧ St x.w0 (S i) w) μ i0 ⟨h0, e.sub hm, s.sub⟩ ?_
  rintro i a w ⟨hi, he, hs⟩
  refine wpIn_mono (round i hi a w he hs) ?_
  intro e' a' w' hq
  cases e' with
  | normal =>
    obtain ⟨j, hj, hlt, hej, hsj⟩ := hq
    exact ⟨j, ⟨hj, hej, hsj⟩, hlt⟩
  | _ => exact hq

theorem tn_loop {ι : Type} {n : Nat} {m : List (Nat × Value)} {ds : List Deferred} {I : ι → Prop} {M : ι → List (Nat × Value)} {S : ι → List Seg} {μ : ι → Nat} {i : ι} (j : ι) (hj : I j) (hlt : μ j < μ i)
    (hm : AllLk m (M j)) [SubH (S j) H] : TX x .normal (.inv (LoopEnd x.w0 n ds I M S μ i) :: ks) ⟨n, m, ds⟩ H :=
  fun _ _ e s => ⟨j, hj, hlt, e.sub hm, s.sub⟩

theorem t_loop2 {ι : Type} {n : Nat} {m : List (Nat × Value)} {ds : List Deferred} {c : Code} (I : ι → Prop) (M : ι → List (Nat × Value)) (S : ι → List Seg) (μ : ι → Nat) (i0 : ι) (H0 : List Seg) (hH : S i0 = H0) (h0 : I i0)
    (hm : AllLk m (M i0)) [hs : SubH H0 H] (round : ∀ i, I i → T x (.inv (LoopEnd x.w0 n ds I M S μ i) :: ks) c ⟨n, M i, ds⟩ (S i)) : T x ks (.loop c) ⟨n, m, ds⟩ H := by
  subst hH
  exact t_loop I M S μ i0 h0 hm round

theorem tn_loop2 {ι : Type} {n : Nat} {m : List (Nat × Value)} {ds : List Deferred} {I : ι → Prop} {M : ι → List (Nat × Value)} {S : ι → List Seg} {μ : ι → Nat} {i : ι} (j : ι) (H' : List Seg) (hH : S j = H') (hj : I j) (hlt : μ j < μ i)
    (hm : AllLk m (M j)) [SubH H' H] : TX x .normal (.inv (LoopEnd x.w0 n ds I M S μ i) :: ks) ⟨n, m, ds⟩ H := by
  subst hH
  exact tn_loop j hj hlt hm

/-! ### Regions -/

theorem t_reg {id : Nat} {l : List Oper} (h : TO x false l.toArray l ks E H) : T x ks (.region id l.toArray false) E H :=
  fun a w e s => wpIn_region_lit (h a w e s)

theorem st_good {w0 : World} {Hb H : List Seg} [SubH Hb H] : Good (St w0 Hb) (St w0 H) := ⟨fun _ _ h hb => h.below hb, fun _ h => h.sub⟩

theorem t_regD {id : Nat} {l : List Oper} (hr : x.r = none) (hm : x.P.follows .mixedOrders = true) (hB : mixB .any l.toArray [] = true) (h : TO x true l.toArray l ks E H) : T x ks (.region id l.toArray true) E H := by
  intro a w e s
  rw [hr]
  exact wpIn_region_mix [] (St x.w0 H) (St x.w0 H) hm hB ⟨fun _ _ h hb => h.below hb, fun _ h => h⟩ s.drew (wpMix_of_quiet (fun a' h' => h') l 0 a (h a e))

theorem to_nil {d : Bool} {ops : Array Oper} (h : TX x .normal ks E H) : TO x d ops [] ks E H := by
  cases d with
  | false => exact fun a w e s => h a w e s
  | true => exact fun a e w s => h a w e s

/-- One operation that hands back a value and leaves the world alone. -/
theorem to_pure {d : Bool} {ops : Array Oper} {rest : List Oper} {n : Nat} {m : List (Nat × Value)} {ds : List Deferred} {op : Op} {ty : TypeId} {pos : String} {aft : Array Edge} {dd : Nat} (v : Value)
    (hdf : ∀ c, op ≠ .defer c) (hsem : ∀ a w, Env.ok ⟨n, m, ds⟩ a → St x.w0 H w → (execOp a.eval ⟨some dd, op, ty, pos, aft, none⟩).run x.P w = .ok (.value v) w)
    (hd : Nat.blt dd n = true) (h : TO x d ops rest ks ⟨n, (dd, v) :: m, ds⟩ H) : TO x d ops (⟨some dd, op, ty, pos, aft, none⟩ :: rest) ks ⟨n, m, ds⟩ H := by
  cases d with
  | false =>
    intro a w e s
    refine wpListIn_plain rfl fun K hK => ?_
    refine ⟨fun _ _ => trivial, ?_⟩
    rw [Oper.semAt_eq _ _ _ hdf, hsem a w e s]
    exact hK _ _ (h _ _ (e.put hd v) s)
  | true =>
    intro a e
    refine (if_pos rfl).mpr ⟨v, fun w s => ?_, h _ (e.put hd v)⟩
    rw [hsem a w e s]
    exact ⟨rfl, rfl⟩

/-- A guarded operation whose guard says yes is as one without a guard. -/
theorem to_gt {d : Bool} {ops : Array Oper} {rest : List Oper} {op : Op} {ty : TypeId} {pos : String} {aft : Array Edge} {dst : Option Nat} {j : Nat} {want : Bool} {s : Nat}
    (hs : (ops[j]?).bind (·.dst) = some s) (hv : lk E.m s = some (.bool want)) (h : TO x d ops (⟨dst, op, ty, pos, aft, none⟩ :: rest) ks E H) : TO x d ops (⟨dst, op, ty, pos, aft, some (j, want)⟩ :: rest) ks E H := by
  have hw : ∀ a, E.ok a → Region.wanted ⟨dst, op, ty, pos, aft, some (j, want)⟩ (yielded ops a.tmps) = true := by
    intro a e
    simp [Region.wanted, yielded, hs, e.get _ _ hv]
  cases d with
  | false =>
    intro a w e s
    have := h a w e s
    simp only [wpListIn, Region.wanted, if_true] at this
    simp only [wpListIn, hw a e, if_true]
    exact this
  | true =>
    intro a e
    have := h a e
    simp only [wpQM, Region.wanted, if_true] at this
    simp only [wpQM, hw a e, if_true]
    exact this

/-- A guarded operation whose guard says no, or was itself passed over. -/
theorem to_gf {d : Bool} {ops : Array Oper} {rest : List Oper} {n : Nat} {m : List (Nat × Value)} {ds : List Deferred} {op : Op} {ty : TypeId} {pos : String} {aft : Array Edge} {dd : Nat} {j : Nat} {want : Bool} {s : Nat} {u : Value}
    (hs : (ops[j]?).bind (·.dst) = some s) (hv : lk m s = some u) (hu : (match u with | .bool b => b == want | _ => false) = false) (hd : Nat.blt dd n = true)
    (h : TO x d ops rest ks ⟨n, (dd, undef) :: m, ds⟩ H) : TO x d ops (⟨some dd, op, ty, pos, aft, some (j, want)⟩ :: rest) ks ⟨n, m, ds⟩ H := by
  have hw : ∀ a, Env.ok ⟨n, m, ds⟩ a → Region.wanted ⟨some dd, op, ty, pos, aft, some (j, want)⟩ (yielded ops a.tmps) = false := by
    intro a e
    have := e.get _ _ hv
    simp only [Region.wanted, yielded, hs, Option.bind_some, this]
    cases u <;> simp_all
  cases d with
  | false =>
    intro a w e s
    simp only [wpListIn, hw a e]
    exact ⟨fun _ _ => trivial, h _ _ (e.put hd undef) s⟩
  | true =>
    intro a e
    simp only [wpQM, hw a e]
    exact h _ (e.put hd undef)

/-- A guard that is not decided: both ways. -/
theorem to_gs {d : Bool} {ops : Array Oper} {rest : List Oper} {n : Nat} {m : List (Nat × Value)} {ds : List Deferred} {o : Oper} {j : Nat} {want b : Bool} {s : Nat}
    (_hg : o.guard = some (j, want)) (_hs : (ops[j]?).bind (·.dst) = some s) (hv : lk m s = some (.bool b))
    (ht : b = true → TO x d ops (o :: rest) ks ⟨n, (s, .bool true) :: m, ds⟩ H) (hf : b = false → TO x d ops (o :: rest) ks ⟨n, (s, .bool false) :: m, ds⟩ H) : TO x d ops (o :: rest) ks ⟨n, m, ds⟩ H := by
  have key : ∀ a, Env.ok ⟨n, m, ds⟩ a → Env.ok ⟨n, (s, .bool b) :: m, ds⟩ a := by
    intro a e
    refine ⟨e.size, e.ds, fun t u hu => ?_⟩
    simp only [lk] at hu
    cases hb : Nat.beq s t with
    | true =>
      rw [hb] at hu; cases hu
      have e' : s = t := Nat.eq_of_beq_eq_true hb
      subst e'; exact e.get _ _ hv
    | false => rw [hb] at hu; exact e.get _ _ hu
  cases b with
  | true =>
    cases d with
    | false => exact fun a w e s => ht rfl a w (key a e) s
    | true => exact fun a e => ht rfl a (key a e)
  | false =>
    cases d with
    | false => exact fun a w e s => hf rfl a w (key a e) s
    | true => exact fun a e => hf rfl a (key a e)

end control
end Go.Sx



namespace Go.Sx
open Go Go.RowKit

/-! ## What is known of types -/

inductive ZV where
  | int (k : IntKind) | bool | str | slice | func | map | ptr | iface
  deriving DecidableEq

def ZV.val : ZV → Value
  | .int k => .int k 0
  | .bool => .bool false
  | .str => .string ByteArray.empty
  | .slice => .slice none 0 0
  | .func => .nilFunc
  | .map => .map none
  | .ptr => .pointer none
  | .iface => .nilIface

inductive TK where
  | struct (fs : List (Nat × TypeId))
  | array (n : Nat) (e : TypeId)
  | slice (e : TypeId)
  | map (k e : TypeId)
  | int (k : IntKind)
  | bool
  | string
  | iface
  | func
  | ptr (e : TypeId)
  deriving DecidableEq

def TK.agg : TK → Bool
  | .struct _ | .array _ _ => true
  | _ => false

structure TI where
  k : TK
  size : Nat
  bytes : Nat
  zero : List ZV

def zvOk : Value → ZV → Bool
  | .int k n, .int k' => k == k' && n == 0
  | .bool b, .bool => !b
  | .string s, .str => s.data.toList.isEmpty
  | .slice none 0 0, .slice => true
  | .nilFunc, .func => true
  | .map none, .map => true
  | .pointer none, .ptr => true
  | .nilIface, .iface => true
  | _, _ => false

theorem zvOk_eq {v : Value} {z : ZV} (h : zvOk v z = true) : v = z.val := by
  cases z with
  | int k =>
    cases v <;> simp [zvOk] at h
    obtain ⟨h1, h2⟩ := h; subst h1; subst h2; rfl
  | bool => cases v <;> simp [zvOk] at h; subst h; rfl
  | str =>
    cases v <;> simp [zvOk] at h
    rename_i s
    cases s with
    | mk d => cases h; rfl
  | slice =>
    cases v <;> simp [zvOk] at h
    rename_i a n c
    cases a <;> cases n <;> cases c <;> simp_all [ZV.val]
  | func => cases v <;> simp [zvOk] at h; rfl
  | map => cases v <;> simp [zvOk] at h; rename_i r; cases r <;> simp_all [ZV.val]
  | ptr => cases v <;> simp [zvOk] at h; rename_i r; cases r <;> simp_all [ZV.val]
  | iface => cases v <;> simp [zvOk] at h; rfl

def zerosOk : List Value → List ZV → Bool
  | [], [] => true
  | v :: vs, z :: zs => zvOk v z && zerosOk vs zs
  | _, _ => false

theorem zerosOk_eq : ∀ {vs : List Value} {zs : List ZV}, zerosOk vs zs = true → vs = zs.map ZV.val
  | [], [], _ => rfl
  | v :: vs, z :: zs, h => by
    simp only [zerosOk, Bool.and_eq_true] at h
    rw [List.map_cons, ← zvOk_eq h.1, ← zerosOk_eq h.2]
  | [], _ :: _, h => by simp [zerosOk] at h
  | _ :: _, [], h => by simp [zerosOk] at h

def tkOk (P : Program) (t : TypeId) (k : TK) : Bool :=
  match P.underlying t, k with
  | some (.struct fs), .struct l => fs.toList.map (fun f => (f.offset, f.type)) == l && fs.toList.all (fun f => (P.info? f.type).isSome)
  | some (.array n e), .array n' e' => n == n' && e == e'
  | some (.slice e), .slice e' => e == e'
  | some (.map k e), .map k' e' => k == k' && e == e'
  | some (.int k), .int k' => k == k'
  | some .bool, .bool => true
  | some .string, .string => true
  | some (.interface _), .iface => true
  | some (.func _ _ _), .func => true
  | some (.pointer e), .ptr e' => e == e'
  | _, _ => false

/-- Nobody's zero value is an aggregate but a struct's or an array's. -/
def zeroShape (v : Value) (agg : Bool) : Bool := match v with | .agg _ => agg | .tuple _ => false | _ => !agg

def tiOk (P : Program) (t : TypeId) (i : TI) : Bool :=
  (match P.info? t with
   | some ti => ti.size == i.size && ti.bytes == i.bytes && (match ti.zero with | some v => zerosOk v.cells.toList i.zero && zeroShape v i.k.agg | none => false)
   | none => false) && tkOk P t i.k && i.zero.length == i.size

/-- A list of types, and that the program has them so: one closed fact. -/
def tabOk (P : Program) (l : List (TypeId × TI)) : Bool := l.all fun (t, i) => tiOk P t i

class Ty (P : Program) (t : TypeId) (i : outParam TI) : Prop where
  ok : tiOk P t i = true

section types
variable {P : Program} {t : TypeId} {i : TI}

theorem Ty.info (h : Ty P t i) : ∃ ti v, P.info? t = some ti ∧ ti.size = i.size ∧ ti.bytes = i.bytes ∧ ti.zero = some v ∧ v.cells.toList = i.zero.map ZV.val ∧ zeroShape v i.k.agg = true := by
  have := h.ok
  simp only [tiOk, Bool.and_eq_true] at this
  obtain ⟨⟨h1, _⟩, _⟩ := this
  split at h1
  · rename_i ti hti
    simp only [Bool.and_eq_true, beq_iff_eq] at h1
    obtain ⟨⟨h2, h3⟩, h4⟩ := h1
    split at h4
    · rename_i v hv
      simp only [Bool.and_eq_true] at h4
      exact ⟨ti, v, hti, h2, h3, hv, zerosOk_eq h4.1, h4.2⟩
    · cases h4
  · cases h1

theorem Ty.tk (h : Ty P t i) : tkOk P t i.k = true := by
  have := h.ok
  simp only [tiOk, Bool.and_eq_true] at this
  exact this.1.2

theorem Ty.sizeOf (h : Ty P t i) (w : World) : (Go.sizeOf t).run P w = .ok i.size w := by
  obtain ⟨ti, v, h1, h2, _⟩ := h.info
  simp [Go.sizeOf, typeInfo, program, h1, h2, Sem.run, Bind.bind, Sem.bind, pure]

theorem Ty.zeroLen (h : Ty P t i) : i.zero.length = i.size := by
  have := h.ok
  simp only [tiOk, Bool.and_eq_true, beq_iff_eq] at this
  exact this.2

theorem Ty.agg (h : Ty P t i) (w : World) : (isAgg t).run P w = .ok i.k.agg w := by
  have := h.tk
  unfold tkOk at this
  unfold isAgg underlying
  cases hu : P.underlying t with
  | none => simp [hu] at this
  | some d =>
    simp only [hu] at this
    cases d <;> cases hk : i.k <;> simp [hk] at this <;> simp [program, Sem.run, Bind.bind, Sem.bind, pure, hu, TK.agg]

theorem Ty.struct {fs : List (Nat × TypeId)} {n b : Nat} {z : List ZV} (h : Ty P t ⟨.struct fs, n, b, z⟩) : ∃ f : Array Field, P.underlying t = some (.struct f) ∧ f.toList.map (fun f => (f.offset, f.type)) = fs := by
  have := h.tk
  unfold tkOk at this
  split at this <;> simp_all

theorem Ty.structS {fs : List (Nat × TypeId)} {n b : Nat} {z : List ZV} (h : Ty P t ⟨.struct fs, n, b, z⟩) : ∃ f : Array Field, P.underlying t = some (.struct f) ∧ f.toList.map (fun f => (f.offset, f.type)) = fs ∧ ∀ g ∈ f.toList, (P.info? g.type).isSome = true := by
  have := h.tk
  unfold tkOk at this
  cases hu : P.underlying t with
  | none => simp [hu] at this
  | some d =>
    rw [hu] at this
    cases d with
    | struct f =>
      simp only [Bool.and_eq_true, beq_iff_eq, List.all_eq_true] at this
      exact ⟨f, rfl, this.1, this.2⟩
    | _ => simp at this

theorem Ty.array {m e n b : Nat} {z : List ZV} (h : Ty P t ⟨.array m e, n, b, z⟩) : P.underlying t = some (.array m e) := by
  have := h.tk
  unfold tkOk at this
  split at this <;> simp_all

theorem Ty.slice {e n b : Nat} {z : List ZV} (h : Ty P t ⟨.slice e, n, b, z⟩) : P.underlying t = some (.slice e) := by
  have := h.tk
  unfold tkOk at this
  split at this <;> simp_all

theorem Ty.map {k e n b : Nat} {z : List ZV} (h : Ty P t ⟨.map k e, n, b, z⟩) : P.underlying t = some (.map k e) := by
  have := h.tk
  unfold tkOk at this
  split at this <;> simp_all

theorem Ty.int {k : IntKind} {n b : Nat} {z : List ZV} (h : Ty P t ⟨.int k, n, b, z⟩) : P.underlying t = some (.int k) := by
  have := h.tk
  unfold tkOk at this
  split at this <;> simp_all

theorem Ty.string {n b : Nat} {z : List ZV} (h : Ty P t ⟨.string, n, b, z⟩) : P.underlying t = some .string := by
  have := h.tk
  unfold tkOk at this
  split at this <;> simp_all

theorem Ty.iface {n b : Nat} {z : List ZV} (h : Ty P t ⟨.iface, n, b, z⟩) : ∃ ms, P.underlying t = some (.interface ms) := by
  have := h.tk
  unfold tkOk at this
  split at this <;> simp_all

end types

theorem run_underlying {P : Program} {t : TypeId} {d : TypeDesc} (h : P.underlying t = some d) (w : World) : (underlying t).run P w = .ok d w := by
  simp [underlying, program, h, Sem.run, Bind.bind, Sem.bind, pure]

end Go.Sx



namespace Go.Sx
open Go Go.RowKit

theorem Addr.add_none (b o k : Nat) : (⟨b, o, none⟩ : Addr).add k = ⟨b, o + k, none⟩ := by
  unfold Addr.add
  split
  · rename_i h; subst h; rfl
  · rfl

theorem Addr.add_add (a : Addr) (p q : Nat) : (a.add p).add q = a.add (p + q) := by
  unfold Addr.add
  by_cases hp : p = 0
  · subst hp; simp
  · by_cases hq : q = 0
    · subst hq; simp
    · simp [hp, hq, Nat.add_assoc]

/-- The address of offset j in element i of a slice whose elements have sz cells each. -/
@[irreducible] def ead (a : Option Addr) (sz i j : Nat) : Addr := (a.getD ⟨0, 0, none⟩).add (i * sz + j)

theorem ead_add (a : Option Addr) (sz i j k : Nat) : (ead a sz i j).add k = ead a sz i (j + k) := by
  unfold ead
  rw [Addr.add_add, Nat.add_assoc]

theorem run_ok {α : Type} {P : Program} (a : α) (w : World) : (pure a : Sem α).run P w = .ok a w := rfl

/-! ## Operations that touch no memory -/

section pure_ops
variable {x : Cx} {d : Bool} {ops : Array Oper} {rest : List Oper} {ks : List KI} {n : Nat} {m : List (Nat × Value)} {ds : List Deferred} {H : List Seg}
variable {ty : TypeId} {pos : String} {aft : Array Edge} {dd : Nat}

theorem to_mv {y : Operand} {v : Value} (hy : ev m y = some v) (hd : Nat.blt dd n = true) (h : TO x d ops rest ks ⟨n, (dd, v) :: m, ds⟩ H) :
    TO x d ops (⟨some dd, .move y, ty, pos, aft, none⟩ :: rest) ks ⟨n, m, ds⟩ H :=
  to_pure v (fun _ h => by cases h) (fun a w e _ => by simp only [execOp]; rw [e.ev hy]; rfl) hd h

theorem to_as {y : Operand} {v : Value} (hy : ev m y = some v) (hd : Nat.blt dd n = true) (h : TO x d ops rest ks ⟨n, (dd, v) :: m, ds⟩ H) :
    TO x d ops (⟨some dd, .assign y, ty, pos, aft, none⟩ :: rest) ks ⟨n, m, ds⟩ H :=
  to_pure v (fun _ h => by cases h) (fun a w e _ => by simp only [execOp]; rw [e.ev hy]; rfl) hd h

theorem to_pkT {c y z : Operand} {v : Value} (hc : ev m c = some (.bool true)) (hy : ev m y = some v) (hd : Nat.blt dd n = true) (h : TO x d ops rest ks ⟨n, (dd, v) :: m, ds⟩ H) :
    TO x d ops (⟨some dd, .pick c y z, ty, pos, aft, none⟩ :: rest) ks ⟨n, m, ds⟩ H :=
  to_pure v (fun _ h => by cases h) (fun a w e _ => by simp only [execOp]; rw [e.ev hc, e.ev hy]; rfl) hd h

theorem to_pkF {c y z : Operand} {v : Value} (hc : ev m c = some (.bool false)) (hy : ev m z = some v) (hd : Nat.blt dd n = true) (h : TO x d ops rest ks ⟨n, (dd, v) :: m, ds⟩ H) :
    TO x d ops (⟨some dd, .pick c y z, ty, pos, aft, none⟩ :: rest) ks ⟨n, m, ds⟩ H :=
  to_pure v (fun _ h => by cases h) (fun a w e _ => by simp only [execOp]; rw [e.ev hc, e.ev hy]; rfl) hd h

theorem to_mf {fn : Fn} {first cap : Array Operand} {f c : List Value} (hf : first.toList.mapM (ev m) = some f) (hc : cap.toList.mapM (ev m) = some c) (hd : Nat.blt dd n = true)
    (h : TO x d ops rest ks ⟨n, (dd, .func fn f.toArray c.toArray) :: m, ds⟩ H) :
    TO x d ops (⟨some dd, .makeFunc fn first cap, ty, pos, aft, none⟩ :: rest) ks ⟨n, m, ds⟩ H :=
  to_pure _ (fun _ h => by cases h) (fun a w e _ => by
    have key : ∀ (l : List Operand) (vs : List Value), l.mapM (ev m) = some vs → l.map a.eval = vs := by
      intro l
      induction l with
      | nil => intro vs h; simp at h; subst h; rfl
      | cons y l ih =>
        intro vs h
        rw [List.mapM_cons] at h
        cases h1 : ev m y with
        | none => simp [h1] at h
        | some v =>
          cases h2 : l.mapM (ev m) with
          | none => simp [h1, h2] at h
          | some us => simp [h1, h2] at h; subst h; simp [e.ev h1, ih _ h2]
    have e1 : first.map a.eval = f.toArray := by apply Array.toList_inj.1; simpa using key _ _ hf
    have e2 : cap.map a.eval = c.toArray := by apply Array.toList_inj.1; simpa using key _ _ hc
    simp only [execOp, e1, e2]; rfl) hd h

/-- 'x.f' of a variable of the call's own: an address reckoned. -/
theorem to_fa {s : TypeId} {y : Operand} {f b o off o' : Nat} {fs : List (Nat × TypeId)} {sz bb : Nat} {zz : List ZV} {ft : TypeId} {fi : TI} (hy : ev m y = some (.pointer (some ⟨b, o, none⟩)))
    [hs : Ty x.P s ⟨.struct fs, sz, bb, zz⟩] (hf : fs[f]? = some (off, ft)) [ht : Ty x.P ft fi] (hz : Nat.beq fi.size 0 = false) (ho : o + off = o') (hd : Nat.blt dd n = true)
    (h : TO x d ops rest ks ⟨n, (dd, .pointer (some ⟨b, o', none⟩)) :: m, ds⟩ H) :
    TO x d ops (⟨some dd, .fieldAddr s y f, ty, pos, aft, none⟩ :: rest) ks ⟨n, m, ds⟩ H :=
  to_pure _ (fun _ h => by cases h) (fun a w e _ => by
    obtain ⟨fa, h1, h2⟩ := hs.struct
    have h3 : ∃ fd, fa[f]? = some fd ∧ fd.offset = off ∧ fd.type = ft := by
      have := hf
      rw [← h2, List.getElem?_map] at this
      cases h4 : fa[f]? with
      | none => simp [h4] at this
      | some fd => exact ⟨fd, rfl, by simp [h4] at this; exact this.1, by simp [h4] at this; exact this.2⟩
    obtain ⟨fd, h4, h5, h6⟩ := h3
    have h7 : fi.size ≠ 0 := by intro e; rw [e] at hz; cases hz
    simp only [execOp]
    rw [e.ev hy]
    simp only [Instr.fieldAt, Instr.sureAddr, fieldPlace, Sem.run_bind, run_underlying h1, Result.andThen, h4, run_ok, h6, ht.sizeOf, if_neg h7, h5, Addr.add_none, ho]) hd h

/-- The same of a slice's element. -/
theorem to_fae {s : TypeId} {y : Operand} {f off : Nat} {fs : List (Nat × TypeId)} {sz bb : Nat} {zz : List ZV} {ft : TypeId} {fi : TI} {sa : Option Addr} {es i j j' : Nat} (hy : ev m y = some (.pointer (some (ead sa es i j))))
    [hs : Ty x.P s ⟨.struct fs, sz, bb, zz⟩] (hf : fs[f]? = some (off, ft)) [ht : Ty x.P ft fi] (hz : Nat.beq fi.size 0 = false) (ho : j + off = j') (hd : Nat.blt dd n = true)
    (h : TO x d ops rest ks ⟨n, (dd, .pointer (some (ead sa es i j'))) :: m, ds⟩ H) :
    TO x d ops (⟨some dd, .fieldAddr s y f, ty, pos, aft, none⟩ :: rest) ks ⟨n, m, ds⟩ H :=
  to_pure _ (fun _ h => by cases h) (fun a w e _ => by
    obtain ⟨fa, h1, h2⟩ := hs.struct
    have h3 : ∃ fd, fa[f]? = some fd ∧ fd.offset = off ∧ fd.type = ft := by
      have := hf
      rw [← h2, List.getElem?_map] at this
      cases h4 : fa[f]? with
      | none => simp [h4] at this
      | some fd => exact ⟨fd, rfl, by simp [h4] at this; exact this.1, by simp [h4] at this; exact this.2⟩
    obtain ⟨fd, h4, h5, h6⟩ := h3
    have h7 : fi.size ≠ 0 := by intro e; rw [e] at hz; cases hz
    simp only [execOp]
    rw [e.ev hy]
    simp only [Instr.fieldAt, Instr.sureAddr, fieldPlace, Sem.run_bind, run_underlying h1, Result.andThen, h4, run_ok, h6, ht.sizeOf, if_neg h7, h5, ead_add, ho]) hd h

theorem to_ex {y : Operand} {i : Nat} {vs : List Value} {v : Value} (hy : ev m y = some (.tuple vs.toArray)) (hv : vs[i]? = some v) (hd : Nat.blt dd n = true) (h : TO x d ops rest ks ⟨n, (dd, v) :: m, ds⟩ H) :
    TO x d ops (⟨some dd, .extract y i, ty, pos, aft, none⟩ :: rest) ks ⟨n, m, ds⟩ H :=
  to_pure _ (fun _ h => by cases h) (fun a w e _ => by
    simp only [execOp]; rw [e.ev hy]
    simp [Instr.extract, hv, Sem.run_bind, Result.andThen, run_ok]) hd h

/-! ### ints -/

theorem wrap_id {p : Int} (h : -9223372036854775808 ≤ p ∧ p ≤ 9223372036854775807) : IntKind.i64.wrap p = p := IntWalk.i64_in p h

theorem run_binInt {P : Program} {w : World} {op : BinOp} {t : TypeId} {y z : Operand} {p q : Int} {v : Value} (hop : (op == .shl || op == .shr) = false) (h : (binOp op t (.int .i64 p) (.int .i64 q)).run P w = .ok v w) :
    ((do eqGuard op t y z (.int .i64 p) (.int .i64 q); binOp op t (.int .i64 p) (.int .i64 q) : Sem Value)).run P w = .ok v w := by
  have e : (eqGuard op t y z (.int .i64 p) (.int .i64 q)).run P w = .ok () w := by
    unfold eqGuard
    split <;> rfl
  simp only [Sem.run_bind, e, Result.andThen]
  exact h

theorem to_bin {op : BinOp} {t t2 : TypeId} {y z : Operand} {v : Value} {u : Value} {u' : Value} (hy : ev m y = some u) (hz : ev m z = some u')
    (hr : ∀ w, ((do eqGuard op t y z u u'; binOp op t u u' : Sem Value)).run x.P w = .ok v w) (hd : Nat.blt dd n = true) (h : TO x d ops rest ks ⟨n, (dd, v) :: m, ds⟩ H) :
    TO x d ops (⟨some dd, .binOp op t y z t2, ty, pos, aft, none⟩ :: rest) ks ⟨n, m, ds⟩ H :=
  to_pure _ (fun _ h => by cases h) (fun a w e _ => by
    have := hr w
    simp only [execOp]; rw [e.ev hy, e.ev hz]
    simp only [Sem.run_bind] at this ⊢
    rw [this]; rfl) hd h

theorem to_add {t t2 : TypeId} {y z : Operand} {p q : Int} (hy : ev m y = some (.int .i64 p)) (hz : ev m z = some (.int .i64 q)) (hb : -9223372036854775808 ≤ p + q ∧ p + q ≤ 9223372036854775807)
    (hd : Nat.blt dd n = true) (h : TO x d ops rest ks ⟨n, (dd, .int .i64 (p + q)) :: m, ds⟩ H) : TO x d ops (⟨some dd, .binOp .add t y z t2, ty, pos, aft, none⟩ :: rest) ks ⟨n, m, ds⟩ H :=
  to_bin hy hz (fun w => run_binInt rfl (by simp only [binOp, Op.intArith, ne_eq, not_true, if_false, wrap_id hb]; rfl)) hd h
theorem to_sub {t t2 : TypeId} {y z : Operand} {p q : Int} (hy : ev m y = some (.int .i64 p)) (hz : ev m z = some (.int .i64 q)) (hb : -9223372036854775808 ≤ p - q ∧ p - q ≤ 9223372036854775807)
    (hd : Nat.blt dd n = true) (h : TO x d ops rest ks ⟨n, (dd, .int .i64 (p - q)) :: m, ds⟩ H) : TO x d ops (⟨some dd, .binOp .sub t y z t2, ty, pos, aft, none⟩ :: rest) ks ⟨n, m, ds⟩ H :=
  to_bin hy hz (fun w => run_binInt rfl (by simp only [binOp, Op.intArith, ne_eq, not_true, if_false, wrap_id hb]; rfl)) hd h
theorem to_mul {t t2 : TypeId} {y z : Operand} {p q : Int} (hy : ev m y = some (.int .i64 p)) (hz : ev m z = some (.int .i64 q)) (hb : -9223372036854775808 ≤ p * q ∧ p * q ≤ 9223372036854775807)
    (hd : Nat.blt dd n = true) (h : TO x d ops rest ks ⟨n, (dd, .int .i64 (p * q)) :: m, ds⟩ H) : TO x d ops (⟨some dd, .binOp .mul t y z t2, ty, pos, aft, none⟩ :: rest) ks ⟨n, m, ds⟩ H :=
  to_bin hy hz (fun w => run_binInt rfl (by simp only [binOp, Op.intArith, ne_eq, not_true, if_false, wrap_id hb]; rfl)) hd h
theorem to_addw {t t2 : TypeId} {y z : Operand} {p q : Int} (hy : ev m y = some (.int .i64 p)) (hz : ev m z = some (.int .i64 q))
    (hd : Nat.blt dd n = true) (h : TO x d ops rest ks ⟨n, (dd, .int .i64 (IntKind.i64.wrap (p + q))) :: m, ds⟩ H) : TO x d ops (⟨some dd, .binOp .add t y z t2, ty, pos, aft, none⟩ :: rest) ks ⟨n, m, ds⟩ H :=
  to_bin hy hz (fun w => run_binInt rfl (by simp only [binOp, Op.intArith, ne_eq, not_true, if_false]; rfl)) hd h
theorem to_subw {t t2 : TypeId} {y z : Operand} {p q : Int} (hy : ev m y = some (.int .i64 p)) (hz : ev m z = some (.int .i64 q))
    (hd : Nat.blt dd n = true) (h : TO x d ops rest ks ⟨n, (dd, .int .i64 (IntKind.i64.wrap (p - q))) :: m, ds⟩ H) : TO x d ops (⟨some dd, .binOp .sub t y z t2, ty, pos, aft, none⟩ :: rest) ks ⟨n, m, ds⟩ H :=
  to_bin hy hz (fun w => run_binInt rfl (by simp only [binOp, Op.intArith, ne_eq, not_true, if_false]; rfl)) hd h
theorem to_mulw {t t2 : TypeId} {y z : Operand} {p q : Int} (hy : ev m y = some (.int .i64 p)) (hz : ev m z = some (.int .i64 q))
    (hd : Nat.blt dd n = true) (h : TO x d ops rest ks ⟨n, (dd, .int .i64 (IntKind.i64.wrap (p * q))) :: m, ds⟩ H) : TO x d ops (⟨some dd, .binOp .mul t y z t2, ty, pos, aft, none⟩ :: rest) ks ⟨n, m, ds⟩ H :=
  to_bin hy hz (fun w => run_binInt rfl (by simp only [binOp, Op.intArith, ne_eq, not_true, if_false]; rfl)) hd h

theorem to_quo {t t2 : TypeId} {y z : Operand} {p q : Int} (hy : ev m y = some (.int .i64 p)) (hz : ev m z = some (.int .i64 q)) (hp : 0 ≤ p ∧ p ≤ 9223372036854775807) (hq : 0 < q)
    (hd : Nat.blt dd n = true) (h : TO x d ops rest ks ⟨n, (dd, .int .i64 (p / q)) :: m, ds⟩ H) : TO x d ops (⟨some dd, .binOp .quo t y z t2, ty, pos, aft, none⟩ :: rest) ks ⟨n, m, ds⟩ H :=
  to_bin hy hz (fun w => run_binInt rfl (by
    have e : p.tdiv q = p / q := Int.tdiv_eq_ediv_of_nonneg hp.1
    have h1 : 0 ≤ p / q := Int.ediv_nonneg hp.1 (Int.le_of_lt hq)
    have h2 : p / q ≤ p := Int.ediv_le_self q hp.1
    have : IntKind.i64.wrap (p / q) = p / q := wrap_id ⟨by omega, by omega⟩
    simp only [binOp, Op.intDiv, ne_eq, not_true, if_false, if_neg (Int.ne_of_gt hq), e, this]; rfl)) hd h
theorem to_rem {t t2 : TypeId} {y z : Operand} {p q : Int} (hy : ev m y = some (.int .i64 p)) (hz : ev m z = some (.int .i64 q)) (hp : 0 ≤ p) (hq : 0 < q)
    (hd : Nat.blt dd n = true) (h : TO x d ops rest ks ⟨n, (dd, .int .i64 (p % q)) :: m, ds⟩ H) : TO x d ops (⟨some dd, .binOp .rem t y z t2, ty, pos, aft, none⟩ :: rest) ks ⟨n, m, ds⟩ H :=
  to_bin hy hz (fun w => run_binInt rfl (by
    have e : p.tmod q = p % q := Int.tmod_eq_emod_of_nonneg hp
    simp only [binOp, Op.intDiv, ne_eq, not_true, if_false, if_neg (Int.ne_of_gt hq), e]; rfl)) hd h
theorem to_quow {t t2 : TypeId} {y z : Operand} {p q : Int} (hy : ev m y = some (.int .i64 p)) (hz : ev m z = some (.int .i64 q)) (hq : q ≠ 0)
    (hd : Nat.blt dd n = true) (h : TO x d ops rest ks ⟨n, (dd, .int .i64 (IntKind.i64.wrap (p.tdiv q))) :: m, ds⟩ H) : TO x d ops (⟨some dd, .binOp .quo t y z t2, ty, pos, aft, none⟩ :: rest) ks ⟨n, m, ds⟩ H :=
  to_bin hy hz (fun w => run_binInt rfl (by simp only [binOp, Op.intDiv, ne_eq, not_true, if_false, if_neg hq]; rfl)) hd h
theorem to_remw {t t2 : TypeId} {y z : Operand} {p q : Int} (hy : ev m y = some (.int .i64 p)) (hz : ev m z = some (.int .i64 q)) (hq : q ≠ 0)
    (hd : Nat.blt dd n = true) (h : TO x d ops rest ks ⟨n, (dd, .int .i64 (p.tmod q)) :: m, ds⟩ H) : TO x d ops (⟨some dd, .binOp .rem t y z t2, ty, pos, aft, none⟩ :: rest) ks ⟨n, m, ds⟩ H :=
  to_bin hy hz (fun w => run_binInt rfl (by simp only [binOp, Op.intDiv, ne_eq, not_true, if_false, if_neg hq]; rfl)) hd h

theorem to_lss {t t2 : TypeId} {y z : Operand} {p q : Int} (hy : ev m y = some (.int .i64 p)) (hz : ev m z = some (.int .i64 q))
    (hd : Nat.blt dd n = true) (h : TO x d ops rest ks ⟨n, (dd, .bool (decide (p < q))) :: m, ds⟩ H) : TO x d ops (⟨some dd, .binOp .lss t y z t2, ty, pos, aft, none⟩ :: rest) ks ⟨n, m, ds⟩ H :=
  to_bin hy hz (fun w => run_binInt rfl (by simp only [binOp, Op.intCmp, ne_eq, not_true, if_false]; rfl)) hd h
theorem to_leq {t t2 : TypeId} {y z : Operand} {p q : Int} (hy : ev m y = some (.int .i64 p)) (hz : ev m z = some (.int .i64 q))
    (hd : Nat.blt dd n = true) (h : TO x d ops rest ks ⟨n, (dd, .bool (decide (p ≤ q))) :: m, ds⟩ H) : TO x d ops (⟨some dd, .binOp .leq t y z t2, ty, pos, aft, none⟩ :: rest) ks ⟨n, m, ds⟩ H :=
  to_bin hy hz (fun w => run_binInt rfl (by simp only [binOp, Op.intCmp, ne_eq, not_true, if_false]; rfl)) hd h
theorem to_gtr {t t2 : TypeId} {y z : Operand} {p q : Int} (hy : ev m y = some (.int .i64 p)) (hz : ev m z = some (.int .i64 q))
    (hd : Nat.blt dd n = true) (h : TO x d ops rest ks ⟨n, (dd, .bool (decide (q < p))) :: m, ds⟩ H) : TO x d ops (⟨some dd, .binOp .gtr t y z t2, ty, pos, aft, none⟩ :: rest) ks ⟨n, m, ds⟩ H :=
  to_bin hy hz (fun w => run_binInt rfl (by simp only [binOp, Op.intCmp, ne_eq, not_true, if_false]; rfl)) hd h
theorem to_geq {t t2 : TypeId} {y z : Operand} {p q : Int} (hy : ev m y = some (.int .i64 p)) (hz : ev m z = some (.int .i64 q))
    (hd : Nat.blt dd n = true) (h : TO x d ops rest ks ⟨n, (dd, .bool (decide (q ≤ p))) :: m, ds⟩ H) : TO x d ops (⟨some dd, .binOp .geq t y z t2, ty, pos, aft, none⟩ :: rest) ks ⟨n, m, ds⟩ H :=
  to_bin hy hz (fun w => run_binInt rfl (by simp only [binOp, Op.intCmp, ne_eq, not_true, if_false]; rfl)) hd h
theorem to_eql {t t2 : TypeId} {y z : Operand} {p q : Int} (hy : ev m y = some (.int .i64 p)) (hz : ev m z = some (.int .i64 q))
    (hd : Nat.blt dd n = true) (h : TO x d ops rest ks ⟨n, (dd, .bool (decide (p = q))) :: m, ds⟩ H) : TO x d ops (⟨some dd, .binOp .eql t y z t2, ty, pos, aft, none⟩ :: rest) ks ⟨n, m, ds⟩ H :=
  to_bin hy hz (fun w => run_binInt rfl (by
    have e : (p == q) = decide (p = q) := by rw [Bool.eq_iff_iff]; simp
    simp only [binOp, Op.intCmp, ne_eq, not_true, if_false, e]; rfl)) hd h
theorem to_neq {t t2 : TypeId} {y z : Operand} {p q : Int} (hy : ev m y = some (.int .i64 p)) (hz : ev m z = some (.int .i64 q))
    (hd : Nat.blt dd n = true) (h : TO x d ops rest ks ⟨n, (dd, .bool (decide (p ≠ q))) :: m, ds⟩ H) : TO x d ops (⟨some dd, .binOp .neq t y z t2, ty, pos, aft, none⟩ :: rest) ks ⟨n, m, ds⟩ H :=
  to_bin hy hz (fun w => run_binInt rfl (by
    have e : (p != q) = decide (p ≠ q) := by rw [Bool.eq_iff_iff]; simp
    simp only [binOp, Op.intCmp, ne_eq, not_true, if_false, e]; rfl)) hd h

theorem to_not {t : TypeId} {y : Operand} {b : Bool} (hy : ev m y = some (.bool b)) (hd : Nat.blt dd n = true) (h : TO x d ops rest ks ⟨n, (dd, .bool (!b)) :: m, ds⟩ H) :
    TO x d ops (⟨some dd, .unOp .not t y, ty, pos, aft, none⟩ :: rest) ks ⟨n, m, ds⟩ H :=
  to_pure _ (fun _ h => by cases h) (fun a w e _ => by simp only [execOp]; rw [e.ev hy]; rfl) hd h

theorem to_neg {t : TypeId} {y : Operand} {p : Int} (hy : ev m y = some (.int .i64 p)) (hb : -9223372036854775807 ≤ p ∧ p ≤ 9223372036854775807) (hd : Nat.blt dd n = true) (h : TO x d ops rest ks ⟨n, (dd, .int .i64 (-p)) :: m, ds⟩ H) :
    TO x d ops (⟨some dd, .unOp .neg t y, ty, pos, aft, none⟩ :: rest) ks ⟨n, m, ds⟩ H :=
  to_pure _ (fun _ h => by cases h) (fun a w e _ => by
    have : IntKind.i64.wrap (0 - p) = -p := by rw [wrap_id ⟨by omega, by omega⟩]; omega
    simp only [execOp]; rw [e.ev hy]; simp only [Op.unary, Op.intArith, this]; rfl) hd h

theorem to_max {ts : Array TypeId} {y z : Operand} {p q : Int} (hy : ev m y = some (.int .i64 p)) (hz : ev m z = some (.int .i64 q)) (hd : Nat.blt dd n = true) (h : TO x d ops rest ks ⟨n, (dd, .int .i64 (max p q)) :: m, ds⟩ H) :
    TO x d ops (⟨some dd, .call ⟨.builtin .max, #[y, z], ts⟩, ty, pos, aft, none⟩ :: rest) ks ⟨n, m, ds⟩ H :=
  to_pure _ (fun _ h => by cases h) (fun a w e _ => by
    have hm : (if q > p then q else p) = max p q := by rw [Int.max_def]; split <;> split <;> omega
    simp only [execOp, resolve, List.map_toArray, List.map_cons, List.map_nil, e.ev hy, e.ev hz, Sem.run_bind, run_ok, Result.andThen, invoke, builtin, Builtin.max_, List.foldlM, Builtin.max2, hm]) hd h

theorem to_min {ts : Array TypeId} {y z : Operand} {p q : Int} (hy : ev m y = some (.int .i64 p)) (hz : ev m z = some (.int .i64 q)) (hd : Nat.blt dd n = true) (h : TO x d ops rest ks ⟨n, (dd, .int .i64 (min p q)) :: m, ds⟩ H) :
    TO x d ops (⟨some dd, .call ⟨.builtin .min, #[y, z], ts⟩, ty, pos, aft, none⟩ :: rest) ks ⟨n, m, ds⟩ H :=
  to_pure _ (fun _ h => by cases h) (fun a w e _ => by
    have hm : (if q < p then q else p) = min p q := by rw [Int.min_def]; split <;> split <;> omega
    simp only [execOp, resolve, List.map_toArray, List.map_cons, List.map_nil, e.ev hy, e.ev hz, Sem.run_bind, run_ok, Result.andThen, invoke, builtin, Builtin.min_, List.foldlM, Builtin.min2, hm]) hd h

theorem to_lenS {t e b1 b2 : TypeId} {zz : List ZV} {y : Operand} {a : Option Addr} {l c : Nat} (hy : ev m y = some (.slice a l c)) [ht : Ty x.P t ⟨.slice e, b1, b2, zz⟩] (hd : Nat.blt dd n = true) (h : TO x d ops rest ks ⟨n, (dd, .int .i64 (l : Int)) :: m, ds⟩ H) :
    TO x d ops (⟨some dd, .call ⟨.builtin .len, #[y], #[t]⟩, ty, pos, aft, none⟩ :: rest) ks ⟨n, m, ds⟩ H :=
  to_pure _ (fun _ h => by cases h) (fun a w e _ => by
    simp [execOp, resolve, e.ev hy, Sem.run_bind, run_ok, Result.andThen, invoke, builtin, Builtin.len_, run_underlying ht.slice, goInt]) hd h

theorem to_lenT {t b1 b2 : TypeId} {zz : List ZV} {y : Operand} {s : ByteArray} (hy : ev m y = some (.string s)) [ht : Ty x.P t ⟨.string, b1, b2, zz⟩] (hd : Nat.blt dd n = true) (h : TO x d ops rest ks ⟨n, (dd, .int .i64 (s.size : Int)) :: m, ds⟩ H) :
    TO x d ops (⟨some dd, .call ⟨.builtin .len, #[y], #[t]⟩, ty, pos, aft, none⟩ :: rest) ks ⟨n, m, ds⟩ H :=
  to_pure _ (fun _ h => by cases h) (fun a w e _ => by
    simp [execOp, resolve, e.ev hy, Sem.run_bind, run_ok, Result.andThen, invoke, builtin, Builtin.len_, run_underlying ht.string, goInt]) hd h

theorem to_mi {t : TypeId} {i : TI} {y : Operand} {v : Value} (hy : ev m y = some v) [ht : Ty x.P t i] (hi : (match i.k with | .iface => false | _ => true) = true) (hd : Nat.blt dd n = true) (h : TO x d ops rest ks ⟨n, (dd, .iface t v) :: m, ds⟩ H) :
    TO x d ops (⟨some dd, .makeInterface t y, ty, pos, aft, none⟩ :: rest) ks ⟨n, m, ds⟩ H :=
  to_pure _ (fun _ h => by cases h) (fun a w e _ => by
    have hk := ht.tk
    have hu : ∃ u, x.P.underlying t = some u ∧ ∀ ms, u ≠ .interface ms := by
      unfold tkOk at hk
      split at hk <;> simp_all
    obtain ⟨u, h1, h2⟩ := hu
    simp only [execOp]; rw [e.ev hy]
    simp only [Instr.makeInterface, Sem.run_bind, run_underlying h1, Result.andThen]
    cases u <;> first | rfl | exact absurd rfl (h2 _)) hd h

end pure_ops
end Go.Sx



namespace Go.Sx
open Go Go.RowKit

/-! ## Lists of cells, reckoned by instances (so that what comes out is written out) -/

class At (o : Nat) (cs : List Value) (v : outParam Value) : Prop where
  eq : cs[o]? = some v
instance At.here (c : Value) (cs : List Value) : At 0 (c :: cs) c := ⟨rfl⟩
instance At.there (o : Nat) (c v : Value) (cs : List Value) [h : At o cs v] : At (o + 1) (c :: cs) v := ⟨by simpa using h.eq⟩

/-- vs: the s cells of cs from o on. -/
class Cut (o s : Nat) (cs : List Value) (vs : outParam (List Value)) : Prop where
  eq : ∃ r, cs.drop o = vs ++ r ∧ vs.length = s
instance Cut.nil (cs : List Value) : Cut 0 0 cs [] := ⟨cs, rfl, rfl⟩
instance Cut.cons (s : Nat) (c : Value) (cs vs : List Value) [h : Cut 0 s cs vs] : Cut 0 (s + 1) (c :: cs) (c :: vs) :=
  ⟨let ⟨r, h1, h2⟩ := h.eq; ⟨r, by simpa using h1, by simp [h2]⟩⟩
instance Cut.drop (o s : Nat) (c : Value) (cs vs : List Value) [h : Cut o s cs vs] : Cut (o + 1) s (c :: cs) vs := ⟨by simpa using h.eq⟩

theorem Cut.get {o s : Nat} {cs vs : List Value} (h : Cut o s cs vs) {j : Nat} {v : Value} (hv : vs[j]? = some v) : cs[o + j]? = some v := by
  obtain ⟨r, h1, _⟩ := h.eq
  have : (cs.drop o)[j]? = some v := by
    rw [h1, List.getElem?_append_left (List.getElem?_eq_some_iff.1 hv).1]; exact hv
  simpa [List.getElem?_drop] using this

theorem Cut.len {o s : Nat} {cs vs : List Value} (h : Cut o s cs vs) : vs.length = s := h.eq.choose_spec.2

/-- cs': cs with vs laid in from o on. -/
class Put (o : Nat) (vs cs : List Value) (cs' : outParam (List Value)) : Prop where
  eq : ∃ p q r, cs = p ++ q ++ r ∧ p.length = o ∧ q.length = vs.length ∧ cs' = p ++ vs ++ r
instance Put.nil (cs : List Value) : Put 0 [] cs cs := ⟨[], [], cs, rfl, rfl, rfl, rfl⟩
instance Put.cons (v c : Value) (vs cs cs' : List Value) [h : Put 0 vs cs cs'] : Put 0 (v :: vs) (c :: cs) (v :: cs') :=
  ⟨let ⟨p, q, r, h1, h2, h3, h4⟩ := h.eq; ⟨[], c :: q, r, by
    have : p = [] := List.eq_nil_of_length_eq_zero h2
    subst this; simp [h1], rfl, by simp [h3], by
    have : p = [] := List.eq_nil_of_length_eq_zero h2
    subst this; simp [h4]⟩⟩
instance Put.drop (o : Nat) (c : Value) (vs cs cs' : List Value) [h : Put o vs cs cs'] : Put (o + 1) vs (c :: cs) (c :: cs') :=
  ⟨let ⟨p, q, r, h1, h2, h3, h4⟩ := h.eq; ⟨c :: p, q, r, by simp [h1], by simp [h2], h3, by simp [h4]⟩⟩

/-- The cells of a value, written out. -/
class CellsOf (v : Value) (cs : outParam (List Value)) : Prop where
  eq : v.cells = cs.toArray
instance (cs : List Value) : CellsOf (.agg cs.toArray) cs := ⟨rfl⟩
instance (b : Bool) : CellsOf (.bool b) [.bool b] := ⟨rfl⟩
instance (k : IntKind) (i : Int) : CellsOf (.int k i) [.int k i] := ⟨rfl⟩
instance (s : ByteArray) : CellsOf (.string s) [.string s] := ⟨rfl⟩
instance (p : Option Addr) : CellsOf (.pointer p) [.pointer p] := ⟨rfl⟩
instance (a : Option Addr) (l c : Nat) : CellsOf (.slice a l c) [.slice a l c] := ⟨rfl⟩
instance (r : Option Nat) : CellsOf (.map r) [.map r] := ⟨rfl⟩
instance (f : Fn) (a b : Array Value) : CellsOf (.func f a b) [.func f a b] := ⟨rfl⟩
instance : CellsOf .nilFunc [.nilFunc] := ⟨rfl⟩
instance : CellsOf .nilIface [.nilIface] := ⟨rfl⟩
instance (t : TypeId) (v : Value) : CellsOf (.iface t v) [.iface t v] := ⟨rfl⟩

def scal : Value → Bool
  | .agg _ | .tuple _ => false
  | _ => true

/-- Cells that can be stored. -/
def scals : List Value → Bool
  | [] => true
  | v :: vs => match scal v with | true => scals vs | false => false

theorem scals_mem : ∀ {vs : List Value}, scals vs = true → ∀ v ∈ vs, scal v = true
  | [], _, v, h => by cases h
  | u :: vs, hs, v, h => by
    simp only [scals] at hs
    split at hs
    · rename_i hu
      rcases List.mem_cons.1 h with rfl | h
      · exact hu
      · exact scals_mem hs v h
    · cases hs

class ZVals (zs : List ZV) (vs : outParam (List Value)) : Prop where
  eq : zs.map ZV.val = vs
instance : ZVals [] [] := ⟨rfl⟩
instance (k : IntKind) (zs : List ZV) (vs : List Value) [h : ZVals zs vs] : ZVals (.int k :: zs) (.int k 0 :: vs) := ⟨by simp [ZV.val, h.eq]⟩
instance (zs : List ZV) (vs : List Value) [h : ZVals zs vs] : ZVals (.bool :: zs) (.bool false :: vs) := ⟨by simp [ZV.val, h.eq]⟩
instance (zs : List ZV) (vs : List Value) [h : ZVals zs vs] : ZVals (.str :: zs) (.string ByteArray.empty :: vs) := ⟨by simp [ZV.val, h.eq]⟩
instance (zs : List ZV) (vs : List Value) [h : ZVals zs vs] : ZVals (.slice :: zs) (.slice none 0 0 :: vs) := ⟨by simp [ZV.val, h.eq]⟩
instance (zs : List ZV) (vs : List Value) [h : ZVals zs vs] : ZVals (.func :: zs) (.nilFunc :: vs) := ⟨by simp [ZV.val, h.eq]⟩
instance (zs : List ZV) (vs : List Value) [h : ZVals zs vs] : ZVals (.map :: zs) (.map none :: vs) := ⟨by simp [ZV.val, h.eq]⟩
instance (zs : List ZV) (vs : List Value) [h : ZVals zs vs] : ZVals (.ptr :: zs) (.pointer none :: vs) := ⟨by simp [ZV.val, h.eq]⟩
instance (zs : List ZV) (vs : List Value) [h : ZVals zs vs] : ZVals (.iface :: zs) (.nilIface :: vs) := ⟨by simp [ZV.val, h.eq]⟩

/-! ## Runs over cells -/

theorem run_load {P : Program} {w : World} {a : Addr} {v : Value} (h : w.cell? a = some v) : (Go.load a).run P w = .ok v w := by
  simp [Go.load, Sem.run, h]

theorem run_loadCellsFrom {P : Program} {w : World} {a : Addr} : ∀ (vs : List Value) (i : Nat) (acc : Array Value), (∀ j v, vs[j]? = some v → w.cell? (a.add (i + j)) = some v) →
    (loadCellsFrom a i vs.length acc).run P w = .ok (acc ++ vs.toArray) w
  | [], i, acc, _ => by simp [loadCellsFrom, run_ok]
  | v :: vs, i, acc, h => by
    have h0 := h 0 v (by simp)
    rw [Nat.add_zero] at h0
    simp only [List.length_cons, loadCellsFrom, Sem.run_bind, run_load h0, Result.andThen]
    rw [run_loadCellsFrom vs (i + 1) (acc.push v) (fun j u hu => by have := h (j + 1) u (by simpa using hu); rw [show i + 1 + j = i + (j + 1) from by omega]; exact this)]
    simp [← Array.toList_inj]

theorem run_loadCells {P : Program} {w : World} {a : Addr} {vs : List Value} (h : ∀ j v, vs[j]? = some v → w.cell? (a.add j) = some v) : (loadCells a vs.length).run P w = .ok vs.toArray w := by
  have := run_loadCellsFrom (P := P) vs 0 #[] (fun j v hv => by rw [Nat.zero_add]; exact h j v hv)
  simpa [loadCells] using this

theorem run_loadVarA {P : Program} {w : World} {t : TypeId} {i : TI} [ht : Ty P t i] (hk : i.k.agg = true) {a : Addr} {vs : List Value} (hl : vs.length = i.size) (h : ∀ j v, vs[j]? = some v → w.cell? (a.add j) = some v) :
    (loadVar t a).run P w = .ok (.agg vs.toArray) w := by
  simp only [loadVar, Sem.run_bind, ht.agg, hk, Result.andThen, if_true, ht.sizeOf]
  rw [← hl, run_loadCells h]
  rfl

theorem run_loadVarS {P : Program} {w : World} {t : TypeId} {i : TI} [ht : Ty P t i] (hk : i.k.agg = false) {a : Addr} {v : Value} (h : w.cell? a = some v) :
    (loadVar t a).run P w = .ok v w := by
  simp only [loadVar, Sem.run_bind, ht.agg, hk, Result.andThen]
  exact run_load h

/-- The object is just these cells. -/
def isC (cs : List Value) (t : TypeId) : Obj → Prop := fun o => o = .cells cs.toArray t (0, 0)

theorem St.own_at {w0 w : World} {H H2 : List Seg} {b : Nat} {p : Obj → Prop} (h : St w0 H w) [ho : OwnAt b H p H2] : ∃ o, w.heap[b]? = some o ∧ p o :=
  h.ok _ (ho.perm.mem_iff.2 (List.mem_cons_self ..))

theorem St.own_cell {w0 w : World} {H H2 : List Seg} {b : Nat} {cs : List Value} {t : TypeId} (h : St w0 H w) [ho : OwnAt b H (isC cs t) H2] {o : Nat} {v : Value} (hv : cs[o]? = some v) : w.cell? ⟨b, o, none⟩ = some v := by
  obtain ⟨ob, h1, h2⟩ := h.own_at (b := b)
  simp only [isC] at h2
  subst h2
  simp [World.cell?, h1, hv]

/-- In the world w1 the block b holds these cells; it lies from lo to below hi. -/
class Rb (w1 : outParam World) (lo hi : outParam Nat) (b : Nat) (cs : outParam (List Value)) : Prop where
  lo : lo ≤ b
  hi : b < hi
  here : ∃ t, w1.heap[b]? = some (.cells cs.toArray t (0, 0))

/-- Cells that can be read wherever the segments hold. -/
class Cl (w0 : World) (H : List Seg) (b : Nat) (cs : outParam (List Value)) : Prop where
  cell : ∀ w, St w0 H w → ∀ o v, cs[o]? = some v → w.cell? ⟨b, o, none⟩ = some v
instance Cl.own {w0 : World} {H H2 : List Seg} {b : Nat} {cs : List Value} {te : TypeId} [OwnAt b H (isC cs te) H2] : Cl w0 H b cs := ⟨fun _ s _ _ hv => s.own_cell hv⟩
instance Cl.rb {w0 w1 : World} {lo hi : Nat} {H : List Seg} {b : Nat} {cs : List Value} [h : Rb w1 lo hi b cs] [hs : SnapAt w1 H lo hi] : Cl w0 H b cs :=
  ⟨fun w s o v hv => by
    obtain ⟨t, h1⟩ := h.here
    have h2 := (s.ok _ hs.mem b h.lo h.hi).trans h1
    simp [World.cell?, h2, hv]⟩

theorem rbw {w0 w : World} {H H2 : List Seg} {b : Nat} {cs : List Value} {te : TypeId} (s : St w0 H w) [ho : OwnAt b H (isC cs te) H2] : Rb w 0 w.heap.size b cs := by
  obtain ⟨o, h1, h2⟩ := s.own_at (b := b)
  simp only [isC] at h2
  subst h2
  exact ⟨Nat.zero_le _, (Array.getElem?_eq_some_iff.1 h1).1, te, h1⟩

theorem rbr {w0 w w1 : World} {lo hi : Nat} {H : List Seg} {b : Nat} {cs : List Value} (s : St w0 H w) [h : Rb w1 lo hi b cs] [hs : SnapAt w1 H lo hi] : Rb w 0 w.heap.size b cs := by
  obtain ⟨t, h1⟩ := h.here
  have h2 := (s.ok _ hs.mem b h.lo h.hi).trans h1
  exact ⟨Nat.zero_le _, (Array.getElem?_eq_some_iff.1 h2).1, t, h2⟩

section mem
variable {x : Cx} {d : Bool} {ops : Array Oper} {rest : List Oper} {ks : List KI} {n : Nat} {m : List (Nat × Value)} {ds : List Deferred} {H H2 : List Seg}
variable {ty : TypeId} {pos : String} {aft : Array Edge} {dd : Nat}

/-- A whole struct out of a variable of the call's own. -/
theorem to_lda {t : TypeId} {ti : TI} {y : Operand} {b o : Nat} {cs vs : List Value} (hy : ev m y = some (.pointer (some ⟨b, o, none⟩))) [hcl : Cl x.w0 H b cs] [ht : Ty x.P t ti] (hk : ti.k.agg = true)
    [hc : Cut o ti.size cs vs] (hd : Nat.blt dd n = true) (h : TO x d ops rest ks ⟨n, (dd, .agg vs.toArray) :: m, ds⟩ H) :
    TO x d ops (⟨some dd, .load t y, ty, pos, aft, none⟩ :: rest) ks ⟨n, m, ds⟩ H :=
  to_pure _ (fun _ h => by cases h) (fun a w e s => by
    simp only [execOp]; rw [e.ev hy]
    simp only [Instr.loadAt, Instr.sureAddr, Sem.run_bind, run_ok, Result.andThen]
    rw [run_loadVarA hk hc.len (fun j v hv => by rw [Addr.add_none]; exact hcl.cell w s _ _ (hc.get hv))]) hd h

theorem to_lds {t : TypeId} {ti : TI} {y : Operand} {b o : Nat} {cs : List Value} {v : Value} (hy : ev m y = some (.pointer (some ⟨b, o, none⟩))) [hcl : Cl x.w0 H b cs] [ht : Ty x.P t ti] (hk : ti.k.agg = false)
    [hc : At o cs v] (hd : Nat.blt dd n = true) (h : TO x d ops rest ks ⟨n, (dd, v) :: m, ds⟩ H) :
    TO x d ops (⟨some dd, .load t y, ty, pos, aft, none⟩ :: rest) ks ⟨n, m, ds⟩ H :=
  to_pure _ (fun _ h => by cases h) (fun a w e s => by
    simp only [execOp]; rw [e.ev hy]
    simp only [Instr.loadAt, Instr.sureAddr, Sem.run_bind, run_ok, Result.andThen]
    rw [run_loadVarS hk (hcl.cell w s _ _ hc.eq)]) hd h

/-- One operation that hands back a value and turns the world. -/
theorem to_step {op : Op} (hdf : ∀ c, op ≠ .defer c)
    (h : ∀ a w, Env.ok ⟨n, m, ds⟩ a → St x.w0 H w → ∃ v w', (execOp a.eval ⟨some dd, op, ty, pos, aft, none⟩).run x.P w = .ok (.value v) w' ∧
      ∃ H', St x.w0 H' w' ∧ TO x false ops rest ks ⟨n, (dd, v) :: m, ds⟩ H') (hd : Nat.blt dd n = true) : TO x false ops (⟨some dd, op, ty, pos, aft, none⟩ :: rest) ks ⟨n, m, ds⟩ H := by
  intro a w e s
  obtain ⟨v, w', hr, H', s', hn⟩ := h a w e s
  refine wpListIn_plain rfl fun K hK => ?_
  refine ⟨fun _ _ => trivial, ?_⟩
  rw [Oper.semAt_eq _ _ _ hdf, hr]
  exact hK _ _ (hn _ _ (e.put hd v) s')

/-- A store: no value, the world turned. -/
theorem to_step0 {op : Op} (hdf : ∀ c, op ≠ .defer c)
    (h : ∀ a w, Env.ok ⟨n, m, ds⟩ a → St x.w0 H w → ∃ w', (execOp a.eval ⟨none, op, ty, pos, aft, none⟩).run x.P w = .ok .skip w' ∧
      ∃ H', St x.w0 H' w' ∧ TO x false ops rest ks ⟨n, m, ds⟩ H') : TO x false ops (⟨none, op, ty, pos, aft, none⟩ :: rest) ks ⟨n, m, ds⟩ H := by
  intro a w e s
  obtain ⟨w', hr, H', s', hn⟩ := h a w e s
  refine wpListIn_plain rfl fun K hK => ?_
  refine ⟨fun _ _ => trivial, ?_⟩
  rw [Oper.semAt_eq _ _ _ hdf, hr]
  exact hK _ _ (hn _ _ e s')

theorem run_newObj {P : Program} {w : World} (o : Obj) : (newObj o).run P w = .ok w.heap.size (w.alloc o) := rfl

theorem to_box {t : TypeId} {y : Operand} {v : Value} {cs : List Value} (hy : ev m y = some v) [hc : CellsOf v cs] (hd : Nat.blt dd n = true)
    (h : ∀ b, TO x false ops rest ks ⟨n, (dd, .pointer (some ⟨b, 0, none⟩)) :: m, ds⟩ (.own b (isC cs t) :: H)) :
    TO x false ops (⟨some dd, .box t y, ty, pos, aft, none⟩ :: rest) ks ⟨n, m, ds⟩ H :=
  to_step (fun _ h => by cases h) (fun a w e s => by
    refine ⟨_, w.alloc (.cells cs.toArray t), ?_, _, s.alloc (p := isC cs t) rfl, h w.heap.size⟩
    simp only [execOp]; rw [e.ev hy]
    simp only [Instr.box, newVar, newRow, hc.eq, Sem.run_bind, run_newObj, Result.andThen, run_ok]) hd

theorem run_zeroValue {P : Program} {w : World} {t : TypeId} {i : TI} [ht : Ty P t i] {vs : List Value} [hz : ZVals i.zero vs] : ∃ v, (zeroValue t).run P w = .ok v w ∧ v.cells = vs.toArray ∧ zeroShape v i.k.agg = true := by
  obtain ⟨ti, v, h1, _, _, h4, h5, h6⟩ := ht.info
  refine ⟨v, ?_, by apply Array.toList_inj.1; rw [h5, hz.eq], h6⟩
  simp [zeroValue, typeInfo, program, h1, h4, Sem.run, Bind.bind, Sem.bind, pure]

theorem to_alloc {t : TypeId} {ti : TI} {cs : List Value} [ht : Ty x.P t ti] [hz : ZVals ti.zero cs] (hd : Nat.blt dd n = true)
    (h : ∀ b, TO x false ops rest ks ⟨n, (dd, .pointer (some ⟨b, 0, none⟩)) :: m, ds⟩ (.own b (isC cs t) :: H)) :
    TO x false ops (⟨some dd, .alloc t, ty, pos, aft, none⟩ :: rest) ks ⟨n, m, ds⟩ H :=
  to_step (fun _ h => by cases h) (fun a w e s => by
    obtain ⟨v, h1, h2, _⟩ := run_zeroValue (P := x.P) (w := w) (t := t) (vs := cs)
    refine ⟨_, w.alloc (.cells cs.toArray t), ?_, _, s.alloc (p := isC cs t) rfl, h w.heap.size⟩
    simp only [execOp, Instr.alloc, Sem.run_bind, h1, Result.andThen, newVar, newRow, h2, run_newObj, run_ok]) hd

theorem run_storeCells {P : Program} {w : World} {b : Nat} {t : TypeId} : ∀ (vs : List Value) (o i : Nat) (p q r : List Value), scals vs = true → w.heap[b]? = some (.cells (p ++ q ++ r).toArray t (0, 0)) → p.length = o + i → q.length = vs.length →
    ∃ w', (storeCells ⟨b, o, none⟩ vs i).run P w = .ok () w' ∧ w'.heap[b]? = some (.cells (p ++ vs ++ r).toArray t (0, 0)) ∧ w'.heap.size = w.heap.size ∧ (∀ k, k ≠ b → w'.heap[k]? = w.heap[k]?) ∧ w'.os = w.os ∧ w'.tape = w.tape ∧ w'.output = w.output
  | [], o, i, p, q, r, _, hb, _, hq => by
    have : q = [] := List.eq_nil_of_length_eq_zero hq
    subst this
    exact ⟨w, rfl, hb, rfl, fun _ _ => rfl, rfl, rfl, rfl⟩
  | v :: vs, o, i, p, q, r, hs, hb, hp, hq => by
    match q, hq with
    | c :: q, hq =>
    simp only [scals] at hs
    split at hs
    case h_2 => cases hs
    rename_i hsv
    have hcell : w.cell? ⟨b, o + i, none⟩ = some c := by
      simp [World.cell?, hb, ← hp]
    have hfz : w.frozen? ⟨b, o + i, none⟩ = false := by simp [World.frozen?, hb]
    have hst : (Go.store (⟨b, o, none⟩ : Addr) v).run P w = (Go.store (⟨b, o, none⟩ : Addr) v).run P w := rfl
    have hrun : (Go.store ((⟨b, o, none⟩ : Addr).add i) v).run P w = .ok () (w.setCell ⟨b, o + i, none⟩ v) := by
      rw [Addr.add_none]
      cases v <;> simp [scal] at hsv <;> simp [Go.store, Sem.run, hcell, hfz] <;> rfl
    have hset : (w.setCell ⟨b, o + i, none⟩ v).heap[b]? = some (.cells ((p ++ [v]) ++ q ++ r).toArray t (0, 0)) := by
      simp only [World.setCell, Array.getElem?_modify, if_true, hb, Option.map_some, Option.isSome_none, Bool.false_eq_true, if_false]
      congr 2
      apply Array.toList_inj.1
      simp [Array.toList_setIfInBounds, ← hp]
    obtain ⟨w', h1, h2, h3, h4, h5, h6, h7⟩ := run_storeCells (P := P) (w := w.setCell ⟨b, o + i, none⟩ v) vs o (i + 1) (p ++ [v]) q r hs hset (by simp [hp]; omega) (by simpa using hq)
    refine ⟨w', ?_, by simpa using h2, by rw [h3]; simp [World.setCell], fun k hk => (h4 k hk).trans (Below.heap_setCell _ _ _ _ hk), h5, h6, h7⟩
    simp only [storeCells, Sem.run_bind, hrun, Result.andThen]
    exact h1

theorem to_st {t te : TypeId} {ti : TI} {y z : Operand} {b o : Nat} {cs vs cs' : List Value} {v : Value} (hy : ev m y = some (.pointer (some ⟨b, o, none⟩))) (hz : ev m z = some v) [ho : OwnAt b H (isC cs te) H2] [ht : Ty x.P t ti]
    [hv : CellsOf v vs] (hl : Nat.beq vs.length ti.size = true) (hs : scals vs = true) [hp : Put o vs cs cs'] (h : TO x false ops rest ks ⟨n, m, ds⟩ (.own b (isC cs' te) :: H2)) :
    TO x false ops (⟨none, .store t y z, ty, pos, aft, none⟩ :: rest) ks ⟨n, m, ds⟩ H :=
  to_step0 (fun _ h => by cases h) (fun a w e s => by
    have s2 := s.perm ho.perm
    obtain ⟨ob, hob, hpo⟩ := s.own_at (b := b)
    simp only [isC] at hpo
    subst hpo
    obtain ⟨p, q, r, h1, h2, h3, h4⟩ := hp.eq
    subst h1; subst h4
    obtain ⟨w', r1, r2, r3, r4, r5, r6, r7⟩ := run_storeCells (P := x.P) (w := w) vs o 0 p q r hs hob (by simpa using h2) h3
    refine ⟨w', ?_, _, s2.upd r5 r6 r7 r3 (fun k hk => r4 k (by simp [Seg.lo, Seg.hi] at hk; omega)) (s' := .own b (isC (p ++ vs ++ r) te)) rfl rfl ⟨_, r2, rfl⟩, h⟩
    have hlen : vs.toArray.size = ti.size := by simpa using Nat.eq_of_beq_eq_true hl
    simp only [execOp]; rw [e.ev hy, e.ev hz]
    simp only [Instr.storeAt, Instr.sureAddr, storeVar, Sem.run_bind, run_ok, Result.andThen, ht.sizeOf, hv.eq, hlen, ne_eq, not_true, if_false]
    rw [r1])

end mem
end Go.Sx



namespace Go.Sx
open Go Go.RowKit

/-! ## Calls -/

/-- What a function of this program does: it returns, all that lay there before lies there still, and R speaks of the result in the world behind. -/
def Ret (w : World) (R : Nat → World → Value → Prop) : Ending → World → Prop := fun e w' => ∃ v, e = .returned v ∧ Below w.heap.size w w' ∧ R w.heap.size w' v

/-- The same where the result is known. -/
def RetV (w : World) (v : Value) : Ending → World → Prop := fun e w' => e = .returned v ∧ Below w.heap.size w w'

theorem RetV.of {P : Program} {f : Nat} {args : Array Value} {w : World} {v : Value} (h : Calls P f args w (Ret w fun _ _ u => u = v)) : Calls P f args w (RetV w v) :=
  h.mono fun _ _ ⟨_, h1, h2, h3⟩ => ⟨h3 ▸ h1, h2⟩

class FnOk (P : Program) (f : Nat) : Prop where
  run : ∀ args w, (callFunc f args).run P w = .ok (.enter f args) w

theorem fnOk {P : Program} {f : Nat} {fn : Func} (hf : P.funcs[f]? = some fn) (hb : fn.body.isSome = true) (hn : (fn.name == "runtime.NumGoroutine") = false) : FnOk P f := ⟨fun args w => by
  have hb' : fn.body.isNone = false := by cases h : fn.body <;> simp_all
  simp only [callFunc, Sem.run_bind, show (program).run P w = .ok P w from rfl, Result.andThen, hf, hn, hb', Bool.false_eq_true, if_false, run_ok]⟩

def evs (m : List (Nat × Value)) : List Operand → Option (List Value)
  | [] => some []
  | o :: os => match ev m o with
    | none => none
    | some v => match evs m os with
      | none => none
      | some vs => some (v :: vs)

theorem Env.ok.evs {E : Env} {a : Act} (e : E.ok a) : ∀ {l : List Operand} {vs : List Value}, Sx.evs E.m l = some vs → l.map a.eval = vs
  | [], vs, h => by simp [Sx.evs] at h; subst h; rfl
  | o :: os, vs, h => by
    simp only [Sx.evs] at h
    cases h1 : Sx.ev E.m o with
    | none => simp [h1] at h
    | some v =>
      cases h2 : Sx.evs E.m os with
      | none => simp [h1, h2] at h
      | some us =>
        simp [h1, h2] at h; subst h
        simp [e.ev h1, e.evs h2]

section calls
variable {x : Cx} {d : Bool} {ops : Array Oper} {rest : List Oper} {ks : List KI} {n : Nat} {m : List (Nat × Value)} {ds : List Deferred} {H H2 : List Seg}
variable {ty : TypeId} {pos : String} {aft : Array Edge} {dd : Nat}

theorem exec_call {a : Act} {g : Operand} {l : List Operand} {ts : Array TypeId} {dst : Option Nat} {w : World} {P : Program} {f : Nat} {f0 c0 av : List Value} (hg : a.eval g = .func (.func f) f0.toArray c0.toArray) (hl : l.map a.eval = av) [hf : FnOk P f] :
    (execOp a.eval ⟨dst, .call ⟨.value g, l.toArray, ts⟩, ty, pos, aft, none⟩).run P w = .ok (.enter f (f0 ++ (av ++ c0)).toArray) w := by
  simp only [execOp, resolve, List.map_toArray, hl, hg, Deferred.ofValue, Sem.run_bind, run_ok, Result.andThen, invoke]
  rw [hf.run]
  simp

/-- A call whose result is known, and which leaves nothing that is looked at. -/
theorem to_call0 {f : Nat} {g : Operand} {l : List Operand} {ts : Array TypeId} {f0 c0 av : List Value} {v : Value} (hg : ev m g = some (.func (.func f) f0.toArray c0.toArray)) [FnOk x.P f] (hl : evs m l = some av)
    (hc : ∀ w, St x.w0 H w → Calls x.P f (f0 ++ (av ++ c0)).toArray w (RetV w v)) (hd : Nat.blt dd n = true) (h : TO x d ops rest ks ⟨n, (dd, v) :: m, ds⟩ H) :
    TO x d ops (⟨some dd, .call ⟨.value g, l.toArray, ts⟩, ty, pos, aft, none⟩ :: rest) ks ⟨n, m, ds⟩ H := by
  cases d with
  | false =>
    intro a w e s
    refine wpListIn_plain rfl fun K hK => ?_
    refine ⟨fun _ _ => trivial, ?_⟩
    rw [Oper.semAt_eq _ _ _ (fun _ h => by cases h), exec_call (e.ev hg) (e.evs hl)]
    refine ⟨(fun h => by cases h), callsIn_WF ((hc w s).mono ?_)⟩
    rintro _ w' ⟨rfl, hb⟩
    exact hK _ _ (h _ _ (e.put hd v) (s.below hb))
  | true =>
    intro a e
    refine (if_pos rfl).mpr ⟨v, fun w s => ?_, h _ (e.put hd v)⟩
    rw [exec_call (e.ev hg) (e.evs hl)]
    exact ⟨rfl, hc w s⟩

/-- A call that makes memory: the result, and what is known of it, in the world behind, which is a segment of its own. -/
theorem to_callR {f : Nat} {g : Operand} {l : List Operand} {ts : Array TypeId} {f0 c0 av : List Value} {R : Nat → World → Value → Prop} (hg : ev m g = some (.func (.func f) f0.toArray c0.toArray)) [FnOk x.P f] (hl : evs m l = some av)
    (hc : ∀ w, St x.w0 H w → Calls x.P f (f0 ++ (av ++ c0)).toArray w (Ret w R)) (hd : Nat.blt dd n = true)
    (h : ∀ v lo w1, x.w0.heap.size ≤ lo → R lo w1 v → TO x false ops rest ks ⟨n, (dd, v) :: m, ds⟩ (.snap lo w1.heap.size w1 :: H)) :
    TO x false ops (⟨some dd, .call ⟨.value g, l.toArray, ts⟩, ty, pos, aft, none⟩ :: rest) ks ⟨n, m, ds⟩ H := by
  intro a w e s
  refine wpListIn_plain rfl fun K hK => ?_
  refine ⟨fun _ _ => trivial, ?_⟩
  rw [Oper.semAt_eq _ _ _ (fun _ h => by cases h), exec_call (e.ev hg) (e.evs hl)]
  refine ⟨(fun h => by cases h), callsIn_WF ((hc w s).mono ?_)⟩
  rintro _ w' ⟨v, rfl, hb, hR⟩
  exact hK _ _ (h v _ w' s.ge hR _ _ (e.put hd v) (s.snap hb))

end calls

/-! ## A function's contract out of its body -/

def argEnv : Nat → List Value → List (Nat × Value)
  | _, [] => []
  | k, v :: vs => (k, v) :: argEnv (k + 1) vs

theorem argEnv_get : ∀ (vs : List Value) (k s : Nat) (v : Value), lk (argEnv k vs) s = some v → k ≤ s ∧ vs[s - k]? = some v
  | [], _, _, _, h => by simp [argEnv, lk] at h
  | u :: vs, k, s, v, h => by
    simp only [argEnv, lk] at h
    cases hb : Nat.beq k s with
    | true =>
      rw [hb] at h; cases h
      have e : k = s := Nat.eq_of_beq_eq_true hb
      subst e; simp
    | false =>
      rw [hb] at h
      have hne : k ≠ s := fun e => by subst e; simp at hb
      obtain ⟨h1, h2⟩ := argEnv_get vs (k + 1) s v h
      refine ⟨by omega, ?_⟩
      rw [show s - k = (s - (k + 1)) + 1 from by omega]
      simpa using h2

theorem calls_T {P : Program} {f : Nat} {fn : Func} {c : Code} {av : List Value} {w : World} {R : Nat → World → Value → Prop} (hf : P.funcs[f]? = some fn) (hb : fn.body = some c) (hn : Nat.ble av.length fn.ntmps = true)
    {m0 : List (Nat × Value)} (hm : argEnv 0 av = m0) (h : T ⟨P, none, w, bodyPost P fn (Ret w R)⟩ [] c ⟨fn.ntmps, m0, []⟩ [.snap 0 w.heap.size w]) : Calls P f av.toArray w (Ret w R) := by
  refine calls_of_wp hf hb ?_
  rw [← wpIn_wide (n := 0), ← WF_none]
  have hle : av.length ≤ fn.ntmps := Nat.le_of_ble_eq_true hn
  refine h _ w ⟨by simp; omega, rfl, fun s v hs => ?_⟩ (St.start w)
  subst hm
  obtain ⟨_, h2⟩ := argEnv_get av 0 s v hs
  rw [Nat.sub_zero] at h2
  have hlt : s < av.length := (List.getElem?_eq_some_iff.1 h2).1
  rw [Array.getElem?_append_left (by simpa using hlt)]
  simpa using h2

theorem calls_T0 {P : Program} {f : Nat} {fn : Func} {c : Code} {av : List Value} {w : World} {v : Value} (hf : P.funcs[f]? = some fn) (hb : fn.body = some c) (hn : Nat.ble av.length fn.ntmps = true)
    {m0 : List (Nat × Value)} (hm : argEnv 0 av = m0) (h : T ⟨P, none, w, bodyPost P fn (Ret w fun _ _ u => u = v)⟩ [] c ⟨fn.ntmps, m0, []⟩ [.snap 0 w.heap.size w]) : Calls P f av.toArray w (RetV w v) :=
  RetV.of (calls_T hf hb hn hm h)

def resSem (tmps : Array Value) : ResultVar → Sem Value
  | .tmp t => pure (tmps.getD t undef)
  | .cell a t => do loadVar t (← asAddr (tmps.getD a undef))

theorem results_eq (fn : Func) (tmps : Array Value) : results fn tmps = (do let vs ← fn.results.mapM (resSem tmps); pure (if h : vs.size = 1 then vs[0] else .tuple vs)) := rfl

/-- What a result variable holds. -/
def ResOk (P : Program) (w0 : World) (E : Env) (H : List Seg) (r : ResultVar) (v : Value) : Prop :=
  ∀ a w, E.ok a → St w0 H w → (resSem a.tmps r).run P w = .ok v w

section results
variable {P : Program} {w0 : World} {E : Env} {H H2 : List Seg}

theorem res_tmp {t : Nat} {v : Value} (h : lk E.m t = some v) : ResOk P w0 E H (.tmp t) v := fun a w e _ => by
  have := e.ev (x := .tmp t) (v := v) h
  simp only [Act.eval] at this
  simp only [resSem, this]; rfl

theorem res_cellA {b t : Nat} {te : TypeId} {ti : TI} {bb o : Nat} {cs vs : List Value} (h : lk E.m b = some (.pointer (some ⟨bb, o, none⟩))) [OwnAt bb H (isC cs te) H2] [ht : Ty P t ti] (hk : ti.k.agg = true) [hc : Cut o ti.size cs vs] :
    ResOk P w0 E H (.cell b t) (.agg vs.toArray) := fun a w e s => by
  have := e.ev (x := .tmp b) h
  simp only [Act.eval] at this
  simp only [resSem, this, Sem.run_bind, asAddr, run_ok, Result.andThen]
  rw [run_loadVarA hk hc.len (fun j v hv => by rw [Addr.add_none]; exact s.own_cell (hc.get hv))]

theorem res_cellS {b t : Nat} {te : TypeId} {ti : TI} {bb o : Nat} {cs : List Value} {v : Value} (h : lk E.m b = some (.pointer (some ⟨bb, o, none⟩))) [OwnAt bb H (isC cs te) H2] [ht : Ty P t ti] (hk : ti.k.agg = false) [hc : At o cs v] :
    ResOk P w0 E H (.cell b t) v := fun a w e s => by
  have := e.ev (x := .tmp b) h
  simp only [Act.eval] at this
  simp only [resSem, this, Sem.run_bind, asAddr, run_ok, Result.andThen]
  rw [run_loadVarS hk (s.own_cell hc.eq)]

theorem run_results {fn : Func} {P : Program} {w : World} {tmps : Array Value} {l : List ResultVar} {vs : List Value} (hr : fn.results = l.toArray)
    (h : l.length = vs.length) (hall : ∀ (i : Nat) (r : ResultVar) (v : Value), l[i]? = some r → vs[i]? = some v → (resSem tmps r).run P w = .ok v w) :
    (results fn tmps).run P w = .ok (match vs with | [v] => v | _ => .tuple vs.toArray) w := by
  have key : ∀ (l : List ResultVar) (vs : List Value), l.length = vs.length → (∀ (i : Nat) (r : ResultVar) (v : Value), l[i]? = some r → vs[i]? = some v → (resSem tmps r).run P w = .ok v w) →
      (l.mapM (m := Sem) (resSem tmps)).run P w = .ok vs w := by
    intro l
    induction l with
    | nil => intro vs h _; cases vs with | nil => rfl | cons _ _ => simp at h
    | cons r l ih =>
      intro vs h hall
      cases vs with
      | nil => simp at h
      | cons v vs =>
        rw [List.mapM_cons, Sem.run_bind, hall 0 r v rfl rfl]
        simp only [Result.andThen]
        rw [Sem.run_bind, ih vs (by simpa using h) (fun i r v h1 h2 => hall (i + 1) r v (by simpa using h1) (by simpa using h2))]
        rfl
  have h1 := key l vs h hall
  rw [results_eq, hr, List.mapM_toArray, Sem.run_bind, map_eq_pure_bind, Sem.run_bind, h1]
  simp only [Result.andThen, run_ok]
  cases vs with
  | nil => rfl
  | cons v vs => cases vs with
    | nil => rfl
    | cons u us => simp [run_ok]

end results

section rets
variable {P : Program} {fn : Func} {w : World} {R : Nat → World → Value → Prop} {ks : List KI} {E : Env} {H : List Seg}

theorem body_ret {v : Value} {e : Exit} (he : e = .ret ∨ e = .normal) (hds : E.ds = []) (hmem : SnapAt w H 0 w.heap.size) (hrun : ∀ a w', E.ok a → St w H w' → (results fn a.tmps).run P w' = .ok v w')
    (hR : ∀ w', St w H w' → R w.heap.size w' v) : ∀ a w', E.ok a → St w H w' → bodyPost P fn (Ret w R) e a w' := by
  intro a w' ho hs
  have : a.defers = [] ∧ ∃ v, (results fn a.tmps).run P w' = .ok v w' ∧ Ret w R (.returned v) w' := ⟨ho.ds.trans hds, v, hrun a w' ho hs, v, rfl, hs.below0 hmem.mem, hR w' hs⟩
  rcases he with rfl | rfl <;> exact this

variable [hmem : SnapAt w H 0 w.heap.size]

theorem t_ret0 (hr : fn.results = #[]) (hds : E.ds = []) (hR : ∀ w', St w H w' → R w.heap.size w' (.tuple #[])) : T ⟨P, none, w, bodyPost P fn (Ret w R)⟩ ks .ret E H :=
  t_ret (body_ret (.inl rfl) hds hmem (fun a w' _ _ => run_results (l := []) (vs := []) hr rfl (fun i r v h => by simp at h)) hR)
theorem t_end0 (hr : fn.results = #[]) (hds : E.ds = []) (hR : ∀ w', St w H w' → R w.heap.size w' (.tuple #[])) : TX ⟨P, none, w, bodyPost P fn (Ret w R)⟩ .normal [] E H :=
  tn_nil (body_ret (.inr rfl) hds hmem (fun a w' _ _ => run_results (l := []) (vs := []) hr rfl (fun i r v h => by simp at h)) hR)

theorem t_ret1 {r : ResultVar} {v : Value} (hr : fn.results = #[r]) (hds : E.ds = []) (h1 : ResOk P w E H r v) (hR : ∀ w', St w H w' → R w.heap.size w' v) : T ⟨P, none, w, bodyPost P fn (Ret w R)⟩ ks .ret E H :=
  t_ret (body_ret (.inl rfl) hds hmem (fun a w' e s => run_results (l := [r]) (vs := [v]) hr rfl (fun i r' v' h h' => by
    cases i with
    | zero => cases h; cases h'; exact h1 a w' e s
    | succ i => simp at h)) hR)

theorem t_ret2 {r1 r2 : ResultVar} {v1 v2 : Value} (hr : fn.results = #[r1, r2]) (hds : E.ds = []) (h1 : ResOk P w E H r1 v1) (h2 : ResOk P w E H r2 v2) (hR : ∀ w', St w H w' → R w.heap.size w' (.tuple #[v1, v2])) : T ⟨P, none, w, bodyPost P fn (Ret w R)⟩ ks .ret E H :=
  t_ret (body_ret (.inl rfl) hds hmem (fun a w' e s => run_results (l := [r1, r2]) (vs := [v1, v2]) hr rfl (fun i r' v' h h' => by
    match i with
    | 0 => cases h; cases h'; exact h1 a w' e s
    | 1 => cases h; cases h'; exact h2 a w' e s
    | i + 2 => simp at h)) hR)

theorem t_ret3 {r1 r2 r3 : ResultVar} {v1 v2 v3 : Value} (hr : fn.results = #[r1, r2, r3]) (hds : E.ds = []) (h1 : ResOk P w E H r1 v1) (h2 : ResOk P w E H r2 v2) (h3 : ResOk P w E H r3 v3) (hR : ∀ w', St w H w' → R w.heap.size w' (.tuple #[v1, v2, v3])) : T ⟨P, none, w, bodyPost P fn (Ret w R)⟩ ks .ret E H :=
  t_ret (body_ret (.inl rfl) hds hmem (fun a w' e s => run_results (l := [r1, r2, r3]) (vs := [v1, v2, v3]) hr rfl (fun i r' v' h h' => by
    match i with
    | 0 => cases h; cases h'; exact h1 a w' e s
    | 1 => cases h; cases h'; exact h2 a w' e s
    | 2 => cases h; cases h'; exact h3 a w' e s
    | i + 3 => simp at h)) hR)

end rets
end Go.Sx



namespace Go.Sx
open Go Go.RowKit

/-! ## Slices that are read -/

/-- In the world w1 the slice (a, n, cap) holds the elements xs (each written out in sz cells); its block lies from lo to below hi. -/
class Ro (w1 : outParam World) (lo hi : outParam Nat) (a : Option Addr) (n cap sz : outParam Nat) (xs : outParam (List (List Value))) : Prop where
  len : xs.length = n
  each : ∀ x ∈ xs, x.length = sz
  le : n ≤ cap
  here : (a = none ∧ n = 0 ∧ cap = 0) ∨ ∃ ad, a = some ad ∧ ad.spot = none ∧ lo ≤ ad.block ∧ ad.block < hi ∧
    ∀ i x, xs[i]? = some x → ∀ j v, x[j]? = some v → w1.cell? ⟨ad.block, ad.off + (i * sz + j), none⟩ = some v

theorem Ro.mono {w1 w2 : World} {lo hi lo' hi' : Nat} {a : Option Addr} {n cap sz : Nat} {xs : List (List Value)} (h : Ro w1 lo hi a n cap sz xs) (hlo : lo' ≤ lo) (hhi : hi ≤ hi') (hb : ∀ k, lo ≤ k → k < hi → w2.heap[k]? = w1.heap[k]?) :
    Ro w2 lo' hi' a n cap sz xs := by
  refine ⟨h.len, h.each, h.le, ?_⟩
  rcases h.here with h0 | ⟨ad, h1, h2, h3, h4, h5⟩
  · exact .inl h0
  · refine .inr ⟨ad, h1, h2, by omega, by omega, fun i x hx j v hv => ?_⟩
    have hc := h5 i x hx j v hv
    simp only [World.cell?, hb _ h3 h4] at hc ⊢
    exact hc

/-- A slice that reads as xs wherever the segments hold. -/
class Rd (w0 : World) (H : List Seg) (a : Option Addr) (n cap sz : outParam Nat) (xs : outParam (List (List Value))) : Prop where
  rd : ∀ w, St w0 H w → Ro w 0 w.heap.size a n cap sz xs

theorem flatten_get {sz : Nat} : ∀ {xs : List (List Value)}, (∀ x ∈ xs, x.length = sz) → ∀ {i : Nat} {x : List Value}, xs[i]? = some x → ∀ {j : Nat} {v : Value}, x[j]? = some v → xs.flatten[i * sz + j]? = some v
  | [], _, i, x, h, _, _, _ => by simp at h
  | y :: ys, he, 0, x, h, j, v, hv => by
    simp at h; subst h
    rw [Nat.zero_mul, Nat.zero_add, List.flatten_cons, List.getElem?_append_left (List.getElem?_eq_some_iff.1 hv).1]
    exact hv
  | y :: ys, he, i + 1, x, h, j, v, hv => by
    have hy : y.length = sz := he y (List.mem_cons_self ..)
    have h' : ys[i]? = some x := by simpa using h
    have := flatten_get (fun z hz => he z (List.mem_cons_of_mem _ hz)) h' hv
    rw [List.flatten_cons, List.getElem?_append_right (by rw [hy, Nat.add_mul]; omega), hy]
    rw [show (i + 1) * sz + j - sz = i * sz + j from by rw [Nat.add_mul]; omega]
    exact this

theorem flatten_len {sz : Nat} : ∀ {xs : List (List Value)}, (∀ x ∈ xs, x.length = sz) → xs.flatten.length = xs.length * sz
  | [], _ => by simp
  | y :: ys, he => by
    rw [List.flatten_cons, List.length_append, he y (List.mem_cons_self ..), flatten_len (fun z hz => he z (List.mem_cons_of_mem _ hz)), List.length_cons, Nat.add_mul]
    omega

theorem RowOk.ro {w : World} {a : Option Addr} {n cap t sz : Nat} {xs : List (List Value)} (h : RowOk (fun k => w.heap[k]?) a n cap t sz xs) : Ro w 0 w.heap.size a n cap sz xs := by
  obtain ⟨h1, h2, h3⟩ := h
  refine ⟨h1, h2, ?_, ?_⟩
  · rcases h3 with ⟨_, h4, h5⟩ | ⟨_, _, _, h4, _⟩
    · omega
    · exact h4
  · rcases h3 with ⟨h3, h4, h5⟩ | ⟨g, sp, h3, h4, h5, h6⟩
    · exact .inl ⟨h3, h4, h5⟩
    · refine .inr ⟨_, h3, rfl, Nat.zero_le _, (Array.getElem?_eq_some_iff.1 h6).1, fun i x hx j v hv => ?_⟩
      have := flatten_get h2 hx hv
      simp only [World.cell?, h6, Option.isSome_none, Bool.false_eq_true, if_false, Nat.zero_add]
      rw [List.getElem?_toArray, List.getElem?_append_left (List.getElem?_eq_some_iff.1 this).1]
      exact this

instance Rd.row {w0 : World} {H H2 : List Seg} {a : Option Addr} {n cap t sz : Nat} {xs : List (List Value)} [h : RowAt a H n cap t sz xs H2] : Rd w0 H a n cap sz xs :=
  ⟨fun w s => RowOk.ro (s.ok _ (h.perm.mem_iff.2 (List.mem_cons_self ..)))⟩

instance Rd.ro_ {w0 w1 : World} {lo hi : Nat} {H : List Seg} {a : Option Addr} {n cap sz : Nat} {xs : List (List Value)} [h : Ro w1 lo hi a n cap sz xs] [hs : SnapAt w1 H lo hi] : Rd w0 H a n cap sz xs :=
  ⟨fun w s => h.mono (Nat.zero_le _) (s.le _ hs.mem) (fun k h1 h2 => s.ok _ hs.mem k h1 h2)⟩

end Go.Sx



namespace Go.Sx
open Go Go.RowKit

theorem ead_some (ad : Addr) (sz i j : Nat) : ead (some ad) sz i j = ad.add (i * sz + j) := by
  unfold ead; rfl

theorem add_block (ad : Addr) (k : Nat) (h : ad.spot = none) : ad.add k = ⟨ad.block, ad.off + k, none⟩ := by
  cases ad with | mk b o s => cases h; exact Addr.add_none b o k

/-- Cells of an element, read. -/
theorem Rd.cell {w0 w : World} {H : List Seg} {a : Option Addr} {n cap sz : Nat} {xs : List (List Value)} (h : Rd w0 H a n cap sz xs) (s : St w0 H w) {i j : Nat} {row : List Value} {v : Value} (hx : xs[i]? = some row) (hv : row[j]? = some v) :
    w.cell? (ead a sz i j) = some v := by
  rcases (h.rd w s).here with ⟨h1, h2, _⟩ | ⟨ad, h1, h2, _, _, h5⟩
  · have := (h.rd w s).len
    have h3 := (List.getElem?_eq_some_iff.1 hx).1
    omega
  · subst h1
    rw [ead_some, add_block _ _ h2]
    exact h5 i row hx j v hv

section slices
variable {x : Cx} {d : Bool} {ops : Array Oper} {rest : List Oper} {ks : List KI} {n : Nat} {m : List (Nat × Value)} {ds : List Deferred} {H H2 : List Seg}
variable {ty : TypeId} {pos : String} {aft : Array Edge} {dd : Nat}

theorem to_ix {t e b1 b2 : TypeId} {zz : List ZV} {ei : TI} {y i : Operand} {a : Option Addr} {l c0 n0 cap sz k : Nat} {xs : List (List Value)} (hy : ev m y = some (.slice a l c0)) (hi : ev m i = some (.int .i64 (Int.ofNat k)))
    [hr : Rd x.w0 H a n0 cap sz xs] [ht : Ty x.P t ⟨.slice e, b1, b2, zz⟩] [he : Ty x.P e ei] (hsz : ei.size = sz) (hk : k < l) (hk2 : k < n0) (hd : Nat.blt dd n = true)
    (h : TO x d ops rest ks ⟨n, (dd, .pointer (some (ead a sz k 0))) :: m, ds⟩ H) :
    TO x d ops (⟨some dd, .indexAddr t y i, ty, pos, aft, none⟩ :: rest) ks ⟨n, m, ds⟩ H :=
  to_pure _ (fun _ h => by cases h) (fun a' w e' s => by
    rcases (hr.rd w s).here with ⟨h1, h2, _⟩ | ⟨ad, h1, h2, _⟩
    · omega
    · subst h1
      have hk' : (0 : Int) ≤ (k : Int) ∧ (k : Int) < (l : Int) := ⟨Int.natCast_nonneg k, Int.ofNat_lt.2 hk⟩
      simp only [execOp]; rw [e'.ev hy, e'.ev hi]
      simp only [Instr.indexAt, asIntOf, Sem.run_bind, run_ok, Result.andThen, run_underlying ht.slice, if_pos hk', he.sizeOf, hsz, ead_some, Int.ofNat_eq_natCast, Int.toNat_natCast, Nat.add_zero]) hd h

theorem to_ldea {t : TypeId} {ti : TI} {y : Operand} {a : Option Addr} {n0 cap sz i j : Nat} {xs : List (List Value)} {row vs : List Value} (hy : ev m y = some (.pointer (some (ead a sz i j)))) [hr : Rd x.w0 H a n0 cap sz xs]
    (hx : xs[i]? = some row) [ht : Ty x.P t ti] (hk : ti.k.agg = true) [hc : Cut j ti.size row vs] (hd : Nat.blt dd n = true) (h : TO x d ops rest ks ⟨n, (dd, .agg vs.toArray) :: m, ds⟩ H) :
    TO x d ops (⟨some dd, .load t y, ty, pos, aft, none⟩ :: rest) ks ⟨n, m, ds⟩ H :=
  to_pure _ (fun _ h => by cases h) (fun a' w e s => by
    simp only [execOp]; rw [e.ev hy]
    simp only [Instr.loadAt, Instr.sureAddr, Sem.run_bind, run_ok, Result.andThen]
    rw [run_loadVarA hk hc.len (fun q v hv => by rw [ead_add]; exact hr.cell s hx (hc.get hv))]) hd h

theorem to_ldes {t : TypeId} {ti : TI} {y : Operand} {a : Option Addr} {n0 cap sz i j : Nat} {xs : List (List Value)} {row : List Value} {v : Value} (hy : ev m y = some (.pointer (some (ead a sz i j)))) [hr : Rd x.w0 H a n0 cap sz xs]
    (hx : xs[i]? = some row) [ht : Ty x.P t ti] (hk : ti.k.agg = false) [hc : At j row v] (hd : Nat.blt dd n = true) (h : TO x d ops rest ks ⟨n, (dd, v) :: m, ds⟩ H) :
    TO x d ops (⟨some dd, .load t y, ty, pos, aft, none⟩ :: rest) ks ⟨n, m, ds⟩ H :=
  to_pure _ (fun _ h => by cases h) (fun a' w e s => by
    simp only [execOp]; rw [e.ev hy]
    simp only [Instr.loadAt, Instr.sureAddr, Sem.run_bind, run_ok, Result.andThen]
    rw [run_loadVarS hk (hr.cell s hx hc.eq)]) hd h

/-- A nil slice is a row of the call's own. -/
theorem St.nilrow {w0 w : World} {H : List Seg} (s : St w0 H w) (t sz : Nat) : St w0 (.row none 0 0 t sz [] :: H) w := by
  refine ⟨s.os, s.tape, s.output, s.ge, ?_, ?_, ?_⟩
  · intro q hq
    rcases List.mem_cons.1 hq with rfl | hq
    · exact Nat.zero_le _
    · exact s.le q hq
  · intro q hq
    rcases List.mem_cons.1 hq with rfl | hq
    · exact ⟨rfl, fun x hx => (by cases hx), .inl ⟨rfl, rfl, rfl⟩⟩
    · exact s.ok q hq
  · exact List.pairwise_cons.2 ⟨fun q _ => .inl (Nat.zero_le _), s.apart⟩

theorem t_nilrow {c : Code} {E : Env} (t sz : Nat) (h : T x ks c E (.row none 0 0 t sz [] :: H)) : T x ks c E H := fun a w e s => h a w e (s.nilrow t sz)
theorem to_nilrow {E : Env} (t sz : Nat) (h : TO x false ops rest ks E (.row none 0 0 t sz [] :: H)) : TO x false ops rest ks E H := fun a w e s => h a w e (s.nilrow t sz)

/-- A new block of the call's own that is a row. -/
theorem St.newrow {w0 w : World} {H : List Seg} (s : St w0 H w) {n cap t sz : Nat} {xs : List (List Value)} {sp : List Value} (h1 : xs.length = n) (h2 : ∀ x ∈ xs, x.length = sz) (h4 : n ≤ cap) (h5 : sp.length = (cap - n) * sz) :
    St w0 (.row (some ⟨w.heap.size, 0, none⟩) n cap t sz xs :: H) (w.alloc (.cells (xs.flatten ++ sp).toArray t)) := by
  have s4 := s.alloc (o := .cells (xs.flatten ++ sp).toArray t) (p := fun o => o = .cells (xs.flatten ++ sp).toArray t) rfl
  have s5 := s4.tail
  refine ⟨s4.os, s4.tape, s4.output, s4.ge, ?_, ?_, ?_⟩
  · intro q hq
    rcases List.mem_cons.1 hq with rfl | hq
    · exact s4.le (.own w.heap.size _) (List.mem_cons_self ..)
    · exact s5.le q hq
  · intro q hq
    rcases List.mem_cons.1 hq with rfl | hq
    · exact ⟨h1, h2, .inr ⟨w.heap.size, sp, rfl, h4, h5, (Array.getElem?_push_size : (w.heap.push _)[w.heap.size]? = some _)⟩⟩
    · exact s5.ok q hq
  · refine List.pairwise_cons.2 ⟨fun q hq => ?_, s5.apart⟩
    exact (List.pairwise_cons.1 s4.apart).1 q hq

theorem row_split {sz : Nat} : ∀ {xs : List (List Value)}, (∀ y ∈ xs, y.length = sz) → ∀ {i : Nat} {row : List Value}, xs[i]? = some row →
    ∃ p q, xs.flatten = p ++ row ++ q ∧ p.length = i * sz ∧ ∀ row', row'.length = sz → (xs.set i row').flatten = p ++ row' ++ q
  | [], _, i, row, h => by simp at h
  | y :: ys, he, 0, row, h => by
    simp at h; subst h
    exact ⟨[], ys.flatten, by simp, by simp, fun row' _ => by simp⟩
  | y :: ys, he, i + 1, row, h => by
    obtain ⟨p, q, h1, h2, h3⟩ := row_split (fun z hz => he z (List.mem_cons_of_mem _ hz)) (i := i) (row := row) (by simpa using h)
    refine ⟨y ++ p, q, by simp [h1], by rw [List.length_append, he y (List.mem_cons_self ..), h2, Nat.add_mul]; omega, fun row' hr => ?_⟩
    simp [List.set_cons_succ, h3 row' hr]

theorem to_ste {t t0 : TypeId} {ti : TI} {y z : Operand} {a : Option Addr} {n0 cap sz i j : Nat} {xs : List (List Value)} {row vs row' : List Value} {v : Value} (hy : ev m y = some (.pointer (some (ead a sz i j)))) (hz : ev m z = some v)
    [hr : RowAt a H n0 cap t0 sz xs H2] (hx : xs[i]? = some row) [ht : Ty x.P t ti] [hv : CellsOf v vs] (hl : Nat.beq vs.length ti.size = true) (hs : scals vs = true) [hp : Put j vs row row']
    (h : TO x false ops rest ks ⟨n, m, ds⟩ (.row a n0 cap t0 sz (xs.set i row') :: H2)) :
    TO x false ops (⟨none, .store t y z, ty, pos, aft, none⟩ :: rest) ks ⟨n, m, ds⟩ H :=
  to_step0 (fun _ h => by cases h) (fun a' w e s => by
    have s2 := s.perm hr.perm
    have hro := s2.ok _ (List.mem_cons_self ..)
    obtain ⟨h1, h2, h3⟩ := hro
    have hi : i < xs.length := (List.getElem?_eq_some_iff.1 hx).1
    rcases h3 with ⟨h3, h4, h5⟩ | ⟨g, sp, h3, h4, h5, h6⟩
    · omega
    subst h3
    replace h6 : w.heap[g]? = _ := h6
    obtain ⟨p, q, r, e1, e2, e3, e4⟩ := hp.eq
    obtain ⟨P', Q', f1, f2, f3⟩ := row_split h2 hx
    have hrow : row.length = sz := h2 row (List.mem_of_getElem? hx)
    have hrow' : row'.length = sz := by rw [e4, ← hrow, e1]; simp [e3]
    have hw : w.heap[g]? = some (.cells ((P' ++ p) ++ q ++ (r ++ Q' ++ sp)).toArray t0 (0, 0)) := by
      rw [h6, f1, e1]; simp
    obtain ⟨w', r1, r2, r3, r4, r5, r6, r7⟩ := run_storeCells (P := x.P) (w := w) (b := g) vs (i * sz + j) 0 (P' ++ p) q (r ++ Q' ++ sp) hs hw (by simp [f2, e2]) e3
    have hro' : RowOk (fun k => w'.heap[k]?) (some ⟨g, 0, none⟩) n0 cap t0 sz (xs.set i row') := by
      refine ⟨by simpa using h1, fun y hy => ?_, .inr ⟨g, sp, rfl, h4, h5, ?_⟩⟩
      · rcases List.mem_or_eq_of_mem_set hy with hy | rfl
        · exact h2 y hy
        · exact hrow'
      · show w'.heap[g]? = _
        rw [r2, f3 row' hrow', e4]; simp
    refine ⟨w', ?_, _, s2.upd r5 r6 r7 r3 (fun k hk => r4 k (by simp [Seg.lo, Seg.hi] at hk; omega)) (s' := .row (some ⟨g, 0, none⟩) n0 cap t0 sz (xs.set i row')) rfl rfl hro', h⟩
    have hlen : vs.toArray.size = ti.size := by simpa using Nat.eq_of_beq_eq_true hl
    simp only [execOp]; rw [e.ev hy, e.ev hz]
    rw [ead_some, Addr.add_none, Nat.zero_add]
    simp only [Instr.storeAt, Instr.sureAddr, storeVar, Sem.run_bind, run_ok, Result.andThen, ht.sizeOf, hv.eq, hlen, ne_eq, not_true, if_false]
    rw [r1])

end slices

/-! ## append -/

theorem run_firstCells {P : Program} {w : World} {a : Option Addr} {n cap sz lo hi c : Nat} {xs : List (List Value)} (h : Ro w lo hi a n cap sz xs) : (Builtin.firstCells sz n (.slice a n c)).run P w = .ok xs.flatten.toArray w := by
  have hlen : xs.flatten.length = n * sz := by rw [flatten_len h.each, h.len]
  rcases h.here with ⟨h1, h2, _⟩ | ⟨ad, h1, h2, _, _, h5⟩
  · subst h1
    have : xs = [] := List.eq_nil_of_length_eq_zero (by rw [h.len, h2])
    subst this; rfl
  · subst h1
    simp only [Builtin.firstCells]
    rw [← hlen]
    refine run_loadCells (fun q v hv => ?_)
    rw [add_block _ _ h2]
    have hsz : sz ≠ 0 := by
      intro hz; subst hz
      have := (List.getElem?_eq_some_iff.1 hv).1
      omega
    have hq : q < n * sz := by rw [← hlen]; exact (List.getElem?_eq_some_iff.1 hv).1
    have hi : q / sz < xs.length := by rw [h.len]; exact Nat.div_lt_of_lt_mul (by rw [Nat.mul_comm]; exact hq)
    have hrow := List.getElem?_eq_getElem hi
    have hj : q % sz < (xs[q / sz]).length := by rw [h.each _ (List.getElem_mem hi)]; exact Nat.mod_lt _ (Nat.pos_of_ne_zero hsz)
    have hv2 := List.getElem?_eq_getElem hj
    have hfl := flatten_get h.each hrow hv2
    have hdm : q / sz * sz + q % sz = q := by rw [Nat.mul_comm]; exact Nat.div_add_mod q sz
    rw [hdm, hv] at hfl
    cases hfl
    have := h5 _ _ hrow _ _ hv2
    rw [hdm] at this
    exact this

theorem growBy_le (newLen : Nat) : ∀ (k c : Nat), Builtin.growBy newLen k c ≤ max c (newLen + (newLen + 768) / 4) := by
  intro k
  induction k with
  | zero => intro c; simp [Builtin.growBy]; omega
  | succ k ih =>
    intro c
    simp only [Builtin.growBy]
    split
    · omega
    · rename_i h
      have := ih (c + (c + 768) / 4)
      omega

theorem nextslicecap_le (newLen oldCap : Nat) (h : oldCap < newLen) : Builtin.nextslicecap newLen oldCap ≤ 2 * newLen + 768 := by
  unfold Builtin.nextslicecap
  split
  · omega
  · split
    · omega
    · have := growBy_le newLen 4 oldCap
      omega

theorem run_choose_cap {P : Program} {w : World} (need old : Nat) (e : TypeId) (hn : need < 2 ^ 63) : ∃ c, need ≤ c ∧ (choose (.appendCap need old e)).run P w = .ok c w.drew := by
  refine ⟨need + (w.tape w.drawn (.appendCap need old e)) % (2 ^ 63 - need), Nat.le_add_right _ _, ?_⟩
  simp only [choose, Sem.run, Question.forced, Bool.false_eq_true, if_false, Question.cut]
  rfl

theorem zeroCells_size (zero : Array Value) (k : Nat) : (Builtin.zeroCells zero k).size = k * zero.size := by simp [Builtin.zeroCells]

section app
variable {x : Cx} {d : Bool} {ops : Array Oper} {rest : List Oper} {ks : List KI} {n : Nat} {m : List (Nat × Value)} {ds : List Deferred} {H H2 : List Seg}
variable {ty : TypeId} {pos : String} {aft : Array Edge} {dd : Nat}

theorem scals_flat : ∀ {ys : List (List Value)}, (∀ y ∈ ys, scals y = true) → scals ys.flatten = true
  | [], _ => rfl
  | y :: ys, h => by
    have h1 := h y (List.mem_cons_self ..)
    have h2 := scals_flat (fun z hz => h z (List.mem_cons_of_mem _ hz))
    rw [List.flatten_cons]
    clear h
    induction y with
    | nil => simpa using h2
    | cons v vs ih =>
      simp only [scals] at h1
      split at h1
      · rename_i hv; simp only [List.cons_append, scals, hv]; exact ih h1
      · cases h1

/-- 'append(y, z...)': y a row of the call's own (nil too), z any slice that can be read. -/
theorem to_app {t t2 e e2 b1 b2 b3 b4 : TypeId} {zz zz2 : List ZV} {ek : TK} {sz bb : Nat} {ez : List ZV} {y z : Operand} {a b : Option Addr} {n0 cap t0 : Nat} {xs ys : List (List Value)} {n1 c1 cap1 : Nat}
    (hy : ev m y = some (.slice a n0 cap)) (hz : ev m z = some (.slice b n1 c1)) [hr : RowAt a H n0 cap t0 sz xs H2] [hq : Rd x.w0 H b n1 cap1 sz ys]
    [ht : Ty x.P t ⟨.slice e, b1, b2, zz⟩] [ht2 : Ty x.P t2 ⟨.slice e2, b3, b4, zz2⟩] [he : Ty x.P e ⟨ek, sz, bb, ez⟩] (he0 : e = t0) (hs : ∀ y ∈ ys, scals y = true) (hbb : 0 < bb) (hb : (n0 + n1) * bb ≤ 1099511627776) (hb2 : bb ≤ 65536)
    (hd : Nat.blt dd n = true) (h : ∀ a' cap', TO x false ops rest ks ⟨n, (dd, .slice a' (n0 + n1) cap') :: m, ds⟩ (.row a' (n0 + n1) cap' t0 sz (xs ++ ys) :: H2)) :
    TO x false ops (⟨some dd, .call ⟨.builtin .append, #[y, z], #[t, t2]⟩, ty, pos, aft, none⟩ :: rest) ks ⟨n, m, ds⟩ H :=
  to_step (fun _ h => by cases h) (fun a' w ea s => by
    subst he0
    have s2 := s.perm hr.perm
    obtain ⟨h1, h2, h3⟩ := s2.ok _ (List.mem_cons_self ..)
    have hro : Ro w 0 w.heap.size a n0 cap sz xs := RowOk.ro (t := e) ⟨h1, h2, h3⟩
    have hrq := hq.rd w s
    have hyl : ys.length = n1 := hrq.len
    have hxy : ∀ y ∈ xs ++ ys, y.length = sz := fun y hy => by
      rcases List.mem_append.1 hy with hy | hy
      · exact h2 y hy
      · exact hrq.each y hy
    obtain ⟨ti, vz, g1, g2, g3, g4, g5, g6⟩ := he.info
    simp only at g2 g3 g5
    have hti : ∀ w, (typeInfo e).run x.P w = .ok ti w := fun w => by simp [typeInfo, program, g1, Sem.run, Bind.bind, Sem.bind, pure]
    have hzv : ∀ w, (zeroValue e).run x.P w = .ok vz w := fun w => by simp [zeroValue, typeInfo, program, g1, g4, Sem.run, Bind.bind, Sem.bind, pure]
    have hvzs : vz.cells.size = sz := by
      have := congrArg List.length g5
      rw [List.length_map, he.zeroLen] at this
      simpa using this
    have hhead : ∀ (v : Value) (w' : World), (Builtin.append_ #[t, t2] ty #[.slice a n0 cap, .slice b n1 c1]).run x.P w = .ok v w' →
        (execOp a'.eval ⟨some dd, .call ⟨.builtin .append, #[y, z], #[t, t2]⟩, ty, pos, aft, none⟩).run x.P w = .ok (.value v) w' := by
      intro v w' hv
      simp only [execOp, resolve, List.map_toArray, List.map_cons, List.map_nil, ea.ev hy, ea.ev hz, Sem.run_bind, run_ok, Result.andThen, invoke, builtin]
      rw [hv]
    by_cases hcap : n0 + n1 ≤ cap
    · -- room
      rcases h3 with ⟨h3, h4, h5⟩ | ⟨g, sp, h3, h4, h5, h6⟩
      · subst h3
        have hn1 : n1 = 0 := by omega
        subst hn1
        have hys : ys = [] := List.eq_nil_of_length_eq_zero hyl
        subst hys
        refine ⟨.slice none (n0 + 0) cap, w, hhead _ _ ?_, _, s2, ?_⟩
        · simp only [Builtin.append_, List.getElem?_toArray, List.getElem?_cons_zero, List.getElem?_cons_succ, Sem.run_bind, run_underlying ht.slice, run_underlying ht2.slice, Result.andThen, he.sizeOf, run_ok, Bool.false_eq_true, if_false, Builtin.lenOf, if_pos hcap, Bool.not_false, if_true, run_firstCells hrq]
        · have := h none cap
          rw [List.append_nil] at this
          exact this
      · subst h3
        replace h6 : w.heap[g]? = _ := h6
        have hsp : n1 * sz ≤ sp.length := by
          rw [h5]; exact Nat.mul_le_mul_right _ (by omega)
        have hlx : xs.flatten.length = n0 * sz := by rw [flatten_len h2, h1]
        have hly : ys.flatten.length = n1 * sz := by rw [flatten_len hrq.each, hyl]
        obtain ⟨w', r1, r2, r3, r4, r5, r6, r7⟩ := run_storeCells (P := x.P) (w := w) (b := g) (t := e) ys.flatten (n0 * sz) 0 xs.flatten (sp.take (n1 * sz)) (sp.drop (n1 * sz)) (scals_flat hs)
          (by rw [h6, List.append_assoc, List.take_append_drop]) (by simpa using hlx) (by rw [List.length_take, hly]; omega)
        refine ⟨.slice (some ⟨g, 0, none⟩) (n0 + n1) cap, w', hhead _ _ ?_, _, s2.upd r5 r6 r7 r3 (fun k hk => r4 k (by simp [Seg.lo, Seg.hi] at hk; omega)) (s' := .row (some ⟨g, 0, none⟩) (n0 + n1) cap e sz (xs ++ ys)) rfl rfl
          ⟨by simp [h1, hyl], hxy, .inr ⟨g, sp.drop (n1 * sz), rfl, hcap, by
            rw [List.length_drop, h5, ← Nat.sub_mul]; congr 1; omega, by show w'.heap[g]? = _; rw [r2, List.flatten_append]⟩⟩, h _ _⟩
        simp only [Builtin.append_, List.getElem?_toArray, List.getElem?_cons_zero, List.getElem?_cons_succ, Sem.run_bind, run_underlying ht.slice, run_underlying ht2.slice, Result.andThen, he.sizeOf, run_ok, Bool.false_eq_true, if_false, Builtin.lenOf, if_pos hcap, Bool.not_false, if_true, run_firstCells hrq]
        rw [Addr.add_none, Nat.zero_add, r1]
    · -- a new array
      have hb3 : ti.bytes = bb := g3
      have hn63 : n0 + n1 < 2 ^ 40 + 1 := by
        have : n0 + n1 ≤ (n0 + n1) * bb := Nat.le_mul_of_pos_right _ hbb
        omega
      have hnb : ¬ (Builtin.nextslicecap (n0 + n1) cap * ti.bytes > 2 ^ 48) := by
        have h7 := nextslicecap_le (n0 + n1) cap (by omega)
        have h8 : Builtin.nextslicecap (n0 + n1) cap * bb ≤ (2 * (n0 + n1) + 768) * bb := Nat.mul_le_mul_right _ h7
        have h9 : (2 * (n0 + n1) + 768) * bb = 2 * ((n0 + n1) * bb) + 768 * bb := by rw [Nat.add_mul, Nat.mul_assoc]
        rw [hb3]; omega
      have hno : ¬ (((n0 + n1 : Nat) : Int) > IntKind.i64.max ∧ (False ∨ ti.bytes = 0)) := by
        rintro ⟨_, h | h⟩
        · cases h
        · omega
      obtain ⟨c, hc1, hc2⟩ := run_choose_cap (P := x.P) (w := w) (n0 + n1) cap e (by omega)
      have s3 := s2.tail.drew
      have hro' : Ro w.drew 0 w.drew.heap.size a n0 cap sz xs := hro.mono (Nat.le_refl _) (Nat.le_refl _) (fun _ _ _ => rfl)
      have hrq' : Ro w.drew 0 w.drew.heap.size b n1 cap1 sz ys := hrq.mono (Nat.le_refl _) (Nat.le_refl _) (fun _ _ _ => rfl)
      have hask : ∀ w, (askRoom (c * ti.bytes)).run x.P w = .ok () w := fun w => by unfold askRoom; split <;> rfl
      have hO : Obj.cells (xs.flatten.toArray ++ ys.flatten.toArray ++ Builtin.zeroCells vz.cells (c - (n0 + n1))) e = .cells ((xs ++ ys).flatten ++ (Builtin.zeroCells vz.cells (c - (n0 + n1))).toList).toArray e := by
        congr 1
        apply Array.toList_inj.1; simp
      refine ⟨.slice (some ⟨w.heap.size, 0, none⟩) (n0 + n1) c, w.drew.alloc (.cells (xs.flatten.toArray ++ ys.flatten.toArray ++ Builtin.zeroCells vz.cells (c - (n0 + n1))) e), hhead _ _ ?_, .row (some ⟨w.heap.size, 0, none⟩) (n0 + n1) c e sz (xs ++ ys) :: H2, ?_, h _ _⟩
      · simp only [Builtin.append_, List.getElem?_toArray, List.getElem?_cons_zero, List.getElem?_cons_succ, Sem.run_bind, run_underlying ht.slice, run_underlying ht2.slice, Result.andThen, he.sizeOf, run_ok, Bool.false_eq_true, if_false, Builtin.lenOf, if_neg hcap, Bool.not_false, if_true, hti, if_neg hno, if_neg hnb, hc2, hask, run_firstCells hro', run_firstCells hrq', hzv, newRow, run_newObj]
        rfl
      · rw [hO]
        exact s3.newrow (by simp [h1, hyl]) hxy hc1 (by rw [Array.length_toList, zeroCells_size, hvzs])) hd

end app
end Go.Sx



namespace Go.Sx
open Go Go.RowKit

theorem rdw {w0 w : World} {H : List Seg} {a : Option Addr} {n cap sz : Nat} {xs : List (List Value)} (s : St w0 H w) [h : Rd w0 H a n cap sz xs] : Ro w 0 w.heap.size a n cap sz xs := h.rd w s

/-- A row of the call's own, handed back. -/
theorem ro_row {w w' : World} {H H2 : List Seg} {a : Option Addr} {n cap t sz : Nat} {xs : List (List Value)} (s : St w H w') [h : RowAt a H n cap t sz xs H2] [h0 : SnapAt w H2 0 w.heap.size] : Ro w' w.heap.size w'.heap.size a n cap sz xs := by
  have s2 := s.perm h.perm
  have hro := RowOk.ro (s2.ok _ (List.mem_cons_self ..))
  refine ⟨hro.len, hro.each, hro.le, ?_⟩
  rcases hro.here with h1 | ⟨ad, h1, h2, h3, h4, h5⟩
  · exact .inl h1
  · refine .inr ⟨ad, h1, h2, ?_, h4, h5⟩
    have := (List.pairwise_cons.1 s2.apart).1 _ h0.mem
    subst h1
    rcases this with h6 | h6
    · simp [Seg.hi, Seg.lo] at h6
    · simpa [Seg.hi, Seg.lo] using h6

/-- What a callee has made, handed on. -/
theorem ro_snap {w w' w1 : World} {H : List Seg} {lo hi : Nat} {a : Option Addr} {n cap sz : Nat} {xs : List (List Value)} (s : St w H w') [h : Ro w1 lo hi a n cap sz xs] [hs : SnapAt w1 H lo hi] (hlo : w.heap.size ≤ lo) : Ro w' w.heap.size w'.heap.size a n cap sz xs :=
  h.mono hlo (s.le _ hs.mem) (fun k h1 h2 => s.ok _ hs.mem k h1 h2)

theorem Ro.nil (w : World) (lo hi sz : Nat) : Ro w lo hi none 0 0 sz [] := ⟨rfl, fun x hx => (by cases hx), Nat.le_refl _, .inl ⟨rfl, rfl, rfl⟩⟩

/-! ## Structs and arrays that are built -/

/-- The parts, evaluated. -/
def evp (m : List (Nat × Value)) : List (Nat × Operand) → Option (List (Nat × Value))
  | [] => some []
  | (i, o) :: os => match ev m o with
    | none => none
    | some v => match evp m os with
      | none => none
      | some vs => some ((i, v) :: vs)

theorem Env.ok.evp {E : Env} {a : Act} (e : E.ok a) : ∀ {l : List (Nat × Operand)} {vs : List (Nat × Value)}, Sx.evp E.m l = some vs → l.map (fun p => (p.1, a.eval p.2)) = vs
  | [], vs, h => by simp [Sx.evp] at h; subst h; rfl
  | (i, o) :: os, vs, h => by
    simp only [Sx.evp] at h
    cases h1 : Sx.ev E.m o with
    | none => simp [h1] at h
    | some v =>
      cases h2 : Sx.evp E.m os with
      | none => simp [h1, h2] at h
      | some us =>
        simp [h1, h2] at h; subst h
        simp [e.ev h1, e.evp h2]

/-- Field i lies at off and has sz cells. -/
class FieldC (P : Program) (fs : List (Nat × TypeId)) (i : Nat) (off sz : outParam Nat) : Prop where
  eq : ∃ t ti, fs[i]? = some (off, t) ∧ Ty P t ti ∧ ti.size = sz
instance FieldC.here (P : Program) (off t : Nat) (fs : List (Nat × TypeId)) (ti : TI) [h : Ty P t ti] : FieldC P ((off, t) :: fs) 0 off ti.size := ⟨t, ti, rfl, h, rfl⟩
instance FieldC.there (P : Program) (f : Nat × TypeId) (fs : List (Nat × TypeId)) (i off sz : Nat) [h : FieldC P fs i off sz] : FieldC P (f :: fs) (i + 1) off sz :=
  ⟨let ⟨t, ti, h1, h2, h3⟩ := h.eq; ⟨t, ti, by simpa using h1, h2, h3⟩⟩

class BuildC (P : Program) (fs : List (Nat × TypeId)) (base : List Value) (parts : List (Nat × Value)) (out : outParam (List Value)) : Prop where
  fill : ∀ place : Nat → Option (Nat × Nat), (∀ i off sz, FieldC P fs i off sz → place i = some (off, sz)) → Instr.fill place base.toArray parts = some out.toArray
instance BuildC.nil (P : Program) (fs : List (Nat × TypeId)) (base : List Value) : BuildC P fs base [] base := ⟨fun _ _ => rfl⟩

theorem fold_put : ∀ (vs : List Value) (off k : Nat) (p q r : List Value), p.length = off + k → q.length = vs.length →
    (vs.zipIdx k).foldl (fun (cs : Array Value) (x : Value × Nat) => cs.setIfInBounds (off + x.2) x.1) (p ++ q ++ r).toArray = (p ++ vs ++ r).toArray
  | [], off, k, p, q, r, _, hq => by
    have : q = [] := List.eq_nil_of_length_eq_zero hq
    subst this; rfl
  | v :: vs, off, k, p, q, r, hp, hq => by
    match q, hq with
    | c :: q, hq =>
      rw [List.zipIdx_cons, List.foldl_cons]
      have : ((p ++ c :: q ++ r).toArray.setIfInBounds (off + k) v) = ((p ++ [v]) ++ q ++ r).toArray := by
        apply Array.toList_inj.1
        simp [← hp]
      rw [this, fold_put vs off (k + 1) (p ++ [v]) q r (by simp [hp]; omega) (by simpa using hq)]
      simp

class LenC (vs : List Value) (sz : Nat) : Prop where
  eq : vs.length = sz
instance LenC.nil : LenC [] 0 := ⟨rfl⟩
instance LenC.cons (v : Value) (vs : List Value) (k : Nat) [h : LenC vs k] : LenC (v :: vs) (k + 1) := ⟨by simp [h.eq]⟩

instance BuildC.cons (P : Program) (fs : List (Nat × TypeId)) (base base' out : List Value) (i off sz : Nat) (v : Value) (vs : List Value) (parts : List (Nat × Value)) [hf : FieldC P fs i off sz] [hc : CellsOf v vs] [hl : LenC vs sz] [hp : Put off vs base base']
    [hb : BuildC P fs base' parts out] : BuildC P fs base ((i, v) :: parts) out := ⟨fun place hpl => by
  obtain ⟨p, q, r, h1, h2, h3, h4⟩ := hp.eq
  have hcs : v.cells.size = sz := by rw [hc.eq]; simpa using hl.eq
  have hb1 : ¬ (off + v.cells.size > base.toArray.size) := by
    rw [hc.eq, h1]; simp [← h2, ← h3]
  have hfold : v.cells.zipIdx.foldl (fun (cs : Array Value) (x : Value × Nat) => cs.setIfInBounds (off + x.2) x.1) base.toArray = base'.toArray := by
    rw [hc.eq, h1, h4]
    rw [show (vs.toArray).zipIdx = (vs.zipIdx 0).toArray from by simp, List.foldl_toArray]
    exact fold_put vs off 0 p q r (by simpa using h2) h3
  simp only [Instr.fill, hpl i off sz hf]
  have hcond : (decide (v.cells.size ≠ sz) || decide (off + v.cells.size > base.toArray.size)) = false := by simp [hcs]; rw [hcs] at hb1; simpa using hb1
  rw [if_neg (by rw [hcond]; simp)]
  rw [hfold]
  exact hb.fill place hpl⟩

section build
variable {x : Cx} {d : Bool} {ops : Array Oper} {rest : List Oper} {ks : List KI} {n : Nat} {m : List (Nat × Value)} {ds : List Deferred} {H H2 : List Seg}
variable {ty : TypeId} {pos : String} {aft : Array Edge} {dd : Nat}

theorem run_places {P : Program} {w : World} : ∀ (fl : List Field), (∀ f ∈ fl, (P.info? f.type).isSome = true) → (fl.mapM (m := Sem) fun f => do pure (f.offset, ← sizeOf f.type)).run P w = .ok (fl.map fun f => (f.offset, P.cellsOf f.type)) w
  | [], _ => rfl
  | f :: fl, hall => by
    obtain ⟨ti, hti⟩ := Option.isSome_iff_exists.1 (hall f (List.mem_cons_self ..))
    have h1 : (Go.sizeOf f.type).run P w = .ok (P.cellsOf f.type) w := by
      simp [Go.sizeOf, typeInfo, program, Program.cellsOf, hti, Sem.run, Bind.bind, Sem.bind, pure]
    rw [List.mapM_cons, Sem.run_bind, Sem.run_bind, h1]
    simp only [Result.andThen, run_ok]
    rw [Sem.run_bind, run_places fl (fun g hg => hall g (List.mem_cons_of_mem _ hg))]
    rfl

theorem ty_cellsOf {P : Program} {t : TypeId} {ti : TI} (h : Ty P t ti) : P.cellsOf t = ti.size := by
  obtain ⟨i, v, h1, h2, _⟩ := h.info
  simp [Program.cellsOf, h1, h2]

theorem to_bs {t sz bb : TypeId} {fs : List (Nat × TypeId)} {zz : List ZV} {l : List (Nat × Operand)} {ps : List (Nat × Value)} {base out : List Value} (hl : evp m l = some ps) [ht : Ty x.P t ⟨.struct fs, sz, bb, zz⟩] [hz : ZVals zz base] [hb : BuildC x.P fs base ps out]
    (hd : Nat.blt dd n = true) (h : TO x d ops rest ks ⟨n, (dd, .agg out.toArray) :: m, ds⟩ H) :
    TO x d ops (⟨some dd, .build t l.toArray, ty, pos, aft, none⟩ :: rest) ks ⟨n, m, ds⟩ H :=
  to_pure _ (fun _ h => by cases h) (fun a w e s => by
    obtain ⟨fa, h1, h2, h3⟩ := ht.structS
    obtain ⟨v, g1, g2, g3⟩ := run_zeroValue (P := x.P) (w := w) (t := t) (vs := base)
    have hps := e.evp hl
    have hpl : (fa.mapM (m := Sem) fun f => do pure (f.offset, ← sizeOf f.type)).run x.P w = .ok (fa.toList.map fun f => (f.offset, x.P.cellsOf f.type)).toArray w := by
      rw [← Array.toArray_toList (xs := fa), List.mapM_toArray, map_eq_pure_bind, Sem.run_bind, run_places fa.toList h3]
      rfl
    have hfill := hb.fill (fun i => (fa.toList.map fun f => (f.offset, x.P.cellsOf f.type)).toArray[i]?) (fun i off sz hf => by
      obtain ⟨t', ti, q1, q2, q3⟩ := hf.eq
      rw [← h2, List.getElem?_map] at q1
      cases q4 : fa.toList[i]? with
      | none => simp [q4] at q1
      | some fd =>
        simp [q4] at q1
        rw [List.getElem?_toArray, List.getElem?_map, q4]
        simp only [Option.map_some, q1.1, q1.2, ty_cellsOf q2, q3])
    have hmap : l.toArray.map (fun (p : Nat × Operand) => (p.1, a.eval p.2)) = ps.toArray := by
      rw [List.map_toArray, hps]
    simp only [execOp]
    rw [show (fun (x : Nat × Operand) => match x with | (i, x) => (i, a.eval x)) = (fun (p : Nat × Operand) => (p.1, a.eval p.2)) from rfl, hmap]
    simp only [Instr.build, Sem.run_bind, g1, g2, Result.andThen, run_underlying h1, hpl]
    simp only [hfill]
    rfl) hd h

end build
end Go.Sx



namespace Go.Sx
open Go Go.RowKit

/-- The parts of a slice literal, in order, and their cells. -/
class RowsOf (ps : List (Nat × Value)) (i : Nat) (rows : outParam (List (List Value))) : Prop where
  eq : ps.map (·.1) = List.range' i rows.length ∧ ps.map (fun p => p.2.cells) = rows.map List.toArray
instance RowsOf.nil (i : Nat) : RowsOf [] i [] := ⟨rfl, rfl⟩
instance RowsOf.cons (i : Nat) (v : Value) (vs : List Value) (ps : List (Nat × Value)) (rows : List (List Value)) [hc : CellsOf v vs] [h : RowsOf ps (i + 1) rows] : RowsOf ((i, v) :: ps) i (vs :: rows) :=
  ⟨by simp [h.eq.1, List.range'_succ], by simp [h.eq.2, hc.eq]⟩

class EachLen (rows : List (List Value)) (sz : Nat) : Prop where
  eq : ∀ r ∈ rows, r.length = sz
instance EachLen.nil (sz : Nat) : EachLen [] sz := ⟨fun _ h => by cases h⟩
instance EachLen.cons (r : List Value) (rows : List (List Value)) (sz : Nat) [h1 : LenC r sz] [h2 : EachLen rows sz] : EachLen (r :: rows) sz :=
  ⟨fun q hq => by
    rcases List.mem_cons.1 hq with rfl | hq
    · exact h1.eq
    · exact h2.eq q hq⟩

theorem fill_rows {sz : Nat} : ∀ (rows A : List (List Value)) (Z : List Value) (ps : List (Nat × Value)), (∀ r ∈ rows, r.length = sz) → (∀ r ∈ A, r.length = sz) → Z.length = rows.length * sz →
    ps.map (·.1) = List.range' A.length rows.length → ps.map (fun p => p.2.cells) = rows.map List.toArray →
    Instr.fill (fun i => some (i * sz, sz)) (A.flatten ++ Z).toArray ps = some (A ++ rows).flatten.toArray
  | [], A, Z, ps, _, _, hZ, h1, _ => by
    have : ps = [] := by simpa using h1
    subst this
    have : Z = [] := List.eq_nil_of_length_eq_zero (by simpa using hZ)
    subst this
    simp [Instr.fill]
  | r :: rows, A, Z, ps, hr, hA, hZ, h1, h2 => by
    match ps, h1, h2 with
    | (i, v) :: ps, h1, h2 =>
      simp only [List.map_cons, List.length_cons, List.range'_succ, List.cons.injEq] at h1 h2
      have hi := h1.1
      have hv := h2.1
      have hrl : r.length = sz := hr r (List.mem_cons_self ..)
      have hAl : A.flatten.length = i * sz := by rw [flatten_len hA, hi]
      have hZl : Z.length = sz + rows.length * sz := by rw [hZ, List.length_cons, Nat.add_mul]; omega
      simp only [Instr.fill]
      have c1 : v.cells.size = sz := by rw [hv]; simpa using hrl
      have c2 : (A.flatten ++ Z).toArray.size = i * sz + Z.length := by simp only [List.size_toArray, List.length_append, hAl]
      rw [if_neg (by rw [c1, c2]; simp; omega)]
      rw [hv]
      rw [show (r.toArray).zipIdx = (r.zipIdx 0).toArray from by simp, List.foldl_toArray]
      have e1 : A.flatten ++ Z = A.flatten ++ Z.take sz ++ Z.drop sz := by rw [List.append_assoc, List.take_append_drop]
      rw [e1, fold_put r (i * sz) 0 A.flatten (Z.take sz) (Z.drop sz) (by simpa using hAl) (by rw [List.length_take]; omega)]
      have := fill_rows rows (A ++ [r]) (Z.drop sz) ps (fun q hq => hr q (List.mem_cons_of_mem _ hq)) (fun q hq => by
        rcases List.mem_append.1 hq with hq | hq
        · exact hA q hq
        · rw [List.mem_singleton.1 hq]; exact hrl) (by rw [List.length_drop]; omega) (by simpa using h1.2) h2.2
      simpa using this

section
variable {x : Cx} {d : Bool} {ops : Array Oper} {rest : List Oper} {ks : List KI} {n : Nat} {m : List (Nat × Value)} {ds : List Deferred} {H H2 : List Seg}
variable {ty : TypeId} {pos : String} {aft : Array Edge} {dd : Nat}

theorem to_bsl {t e b1 b2 sz bb len : Nat} {ek : TK} {zz ez : List ZV} {l : List (Nat × Operand)} {ps : List (Nat × Value)} {rows : List (List Value)} (hl : evp m l = some ps) [ht : Ty x.P t ⟨.slice e, b1, b2, zz⟩] [he : Ty x.P e ⟨ek, sz, bb, ez⟩]
    [hr : RowsOf ps 0 rows] [hs : EachLen rows sz] (hlen : Nat.beq rows.length len = true) (hk : Nat.ble (len * sz) 16777216 = true) (hd : Nat.blt dd n = true)
    (h : ∀ a, TO x false ops rest ks ⟨n, (dd, .slice a len len) :: m, ds⟩ (.row a len len e sz rows :: H)) :
    TO x false ops (⟨some dd, .buildSlice t len l.toArray, ty, pos, aft, none⟩ :: rest) ks ⟨n, m, ds⟩ H :=
  to_step (fun _ h => by cases h) (fun a w ea s => by
    obtain ⟨ti, vz, g1, g2, g3, g4, g5, g6⟩ := he.info
    simp only at g2 g3 g5
    have hzv : ∀ w, (zeroValue e).run x.P w = .ok vz w := fun w => by simp [zeroValue, typeInfo, program, g1, g4, Sem.run, Bind.bind, Sem.bind, pure]
    have hl' := Nat.eq_of_beq_eq_true hlen
    have hk' : len * sz ≤ 2 ^ 24 := by simpa using Nat.le_of_ble_eq_true hk
    have hps := ea.evp hl
    have hmap : l.toArray.map (fun (p : Nat × Operand) => (p.1, a.eval p.2)) = ps.toArray := by
      rw [List.map_toArray, hps]
    have hfill : ∀ zero : Array Value, Instr.fill (fun i => some (i * sz, sz)) ((Array.range (len * sz)).map (fun i => zero[i % zero.size]!)) ps = some rows.flatten.toArray := by
      intro zero
      have := fill_rows rows [] ((Array.range (len * sz)).map (fun i => zero[i % zero.size]!)).toList ps hs.eq (fun _ h => by cases h) (by simp [hl']) (by simpa using hr.eq.1) hr.eq.2
      rw [List.flatten_nil, List.nil_append, Array.toArray_toList, List.nil_append] at this
      exact this
    have hO : (Obj.cells rows.flatten.toArray e : Obj) = .cells (rows.flatten ++ []).toArray e := by simp
    refine ⟨_, w.alloc (.cells rows.flatten.toArray e), ?_, _, by rw [hO]; exact s.newrow (n := len) (cap := len) hl' hs.eq (Nat.le_refl _) (by simp), h (some ⟨w.heap.size, 0, none⟩)⟩
    simp only [execOp]
    rw [show (fun (x : Nat × Operand) => match x with | (i, x) => (i, a.eval x)) = (fun (p : Nat × Operand) => (p.1, a.eval p.2)) from rfl, hmap]
    simp only [Instr.buildSlice, Sem.run_bind, run_underlying ht.slice, Result.andThen, he.sizeOf, if_neg (Nat.not_lt.2 hk')]
    by_cases hz : len * sz = 0
    · simp only [hz, if_true, run_ok]
      have := hfill #[]
      rw [hz] at this
      simp only [this, newRow, Sem.run_bind, run_newObj, Result.andThen, run_ok]
    · simp only [if_neg hz, Sem.run_bind, hzv, Result.andThen, run_ok, hfill, newRow, run_newObj]) hd

/-- 'make([]T, k)'. -/
theorem to_mks {t e b1 b2 sz bb k : Nat} {ek : TK} {zz ez : List ZV} {zs : List Value} {l c : Operand} (hl : ev m l = some (.int .i64 (Int.ofNat k))) (hc : ev m c = some (.int .i64 (Int.ofNat k))) [ht : Ty x.P t ⟨.slice e, b1, b2, zz⟩] [he : Ty x.P e ⟨ek, sz, bb, ez⟩] [hz : ZVals ez zs]
    (hk : k ≤ 1048576) (hbb : bb ≤ 65536) (hd : Nat.blt dd n = true)
    (h : ∀ a, TO x false ops rest ks ⟨n, (dd, .slice a k k) :: m, ds⟩ (.row a k k e sz (List.replicate k zs) :: H)) :
    TO x false ops (⟨some dd, .makeSlice t l c, ty, pos, aft, none⟩ :: rest) ks ⟨n, m, ds⟩ H :=
  to_step (fun _ h => by cases h) (fun a w ea s => by
    obtain ⟨ti, vz, g1, g2, g3, g4, g5, g6⟩ := he.info
    simp only at g2 g3 g5
    have hti : ∀ w, (typeInfo e).run x.P w = .ok ti w := fun w => by simp [typeInfo, program, g1, Sem.run, Bind.bind, Sem.bind, pure]
    have hzv : ∀ w, (zeroValue e).run x.P w = .ok vz w := fun w => by simp [zeroValue, typeInfo, program, g1, g4, Sem.run, Bind.bind, Sem.bind, pure]
    have hzl : zs.length = sz := by rw [← hz.eq, List.length_map]; exact he.zeroLen
    have hvz : vz.cells = zs.toArray := by apply Array.toList_inj.1; rw [g5, hz.eq]
    have hrep : ∀ j, ((Array.range (j * sz)).map (fun i => (zs.toArray)[i % zs.toArray.size]!)).toList = (List.replicate j zs).flatten := by
      intro j
      induction j with
      | zero => simp
      | succ j ih =>
        rw [List.replicate_succ', List.flatten_append, ← ih]
        apply List.ext_getElem
        · simp [Nat.add_mul, hzl]
        · intro i h1 h2
          have h1' : i < (j + 1) * sz := by simpa using h1
          rw [Array.getElem_toList, Array.getElem_map]
          by_cases hi : i < j * sz
          · rw [List.getElem_append_left (by simpa using hi), Array.getElem_toList, Array.getElem_map]
            simp
          · rw [List.getElem_append_right (by simpa using hi)]
            have hsz : 0 < sz := by
              rcases Nat.eq_zero_or_pos sz with h0 | h0
              · subst h0; omega
              · exact h0
            have hlt : i - j * sz < sz := by rw [Nat.add_mul] at h1'; omega
            have hmod : i % sz = i - j * sz := by
              have : i = (i - j * sz) + sz * j := by rw [Nat.mul_comm sz j]; omega
              rw [this, Nat.add_mul_mod_self_left, Nat.mod_eq_of_lt hlt]
              rw [Nat.mul_comm sz j]; omega
            simp only [Array.getElem_range, List.size_toArray, hzl, hmod, List.flatten_cons, List.flatten_nil, List.append_nil, Array.length_toList, Array.size_map, Array.size_range]
            rw [getElem!_pos _ _ (by simpa [hzl] using hlt)]
            simp
    have hw : IntKind.i64.wrap (k : Int) = (k : Int) := wrap_id ⟨by omega, by omega⟩
    have hbk : (bb : Int) * (k : Int) ≤ 65536 * 1048576 := by
      have h1 : bb * k ≤ 65536 * 1048576 := Nat.mul_le_mul hbb hk
      have h2 : ((bb * k : Nat) : Int) ≤ ((65536 * 1048576 : Nat) : Int) := Int.ofNat_le.2 h1
      simpa using h2
    have hask : ∀ q w, (askRoom q).run x.P w = .ok () w := fun q w => by unfold askRoom; split <;> rfl
    have hO : ∀ X : Array Value, X.toList = (List.replicate k zs).flatten → (Obj.cells X e : Obj) = .cells ((List.replicate k zs).flatten ++ []).toArray e := fun X hX => by
      congr 1; apply Array.toList_inj.1; rw [hX]; simp
    refine ⟨.slice (some ⟨w.heap.size, 0, none⟩) k k, w.alloc (.cells ((List.replicate k zs).flatten ++ []).toArray e), ?_, _, s.newrow (n := k) (cap := k) (by simp) (fun q hq => by rw [(List.mem_replicate.1 hq).2]; exact hzl) (Nat.le_refl _) (by simp), h (some ⟨w.heap.size, 0, none⟩)⟩
    simp only [execOp]
    rw [ea.ev hl, ea.ev hc]
    have hneg : ¬ ((k : Int) < 0) := by omega
    have hbig : ¬ ((bb : Int) * (k : Int) > 2 ^ 48) := by omega
    simp only [Instr.makeSlice, Sem.run_bind, run_underlying ht.slice, Result.andThen, asInt, asIntOf, run_ok, Int.ofNat_eq_natCast, hti, hw, g3, hneg, hbig, decide_false, Bool.or_false, Int.lt_irrefl, gt_iff_lt, Bool.false_eq_true, if_false, Int.toNat_natCast, hask, he.sizeOf]
    by_cases h0 : k * sz = 0
    · simp only [h0, if_true, run_ok, newRow, Sem.run_bind, run_newObj, Result.andThen]
      rw [hO _ (by have := hrep k; rw [h0] at this; simpa using this)]
    · simp only [if_neg h0, Sem.run_bind, hzv, Result.andThen, run_ok, hvz, newRow, run_newObj]
      rw [hO _ (hrep k)]) hd

/-! ### x[l:h], x[:h:m] -/

theorem run_bound {P : Program} {w : World} (k y : Nat) (code : BoundsCode) (h : k ≤ y) : (Instr.sliceBound (.int .i64 (Int.ofNat k)) y code).run P w = .ok k w := by
  have : (0 : Int) ≤ (k : Int) ∧ (k : Int) ≤ (y : Int) := ⟨Int.natCast_nonneg k, Int.ofNat_le.2 h⟩
  simp only [Instr.sliceBound, asIntOf, Sem.run_bind, run_ok, Result.andThen, Int.ofNat_eq_natCast, if_pos this, Int.toNat_natCast]

theorem run_slH {P : Program} {t e b1 b2 : TypeId} {zz : List ZV} {ei : TI} [ht : Ty P t ⟨.slice e, b1, b2, zz⟩] [he : Ty P e ei] {a : Option Addr} {l c k : Nat} {w : World} (hk : k ≤ c) :
    (Instr.sliceAt t (.slice a l c) none (some (.int .i64 (Int.ofNat k))) none).run P w = .ok (.slice (if c = 0 then a else a.map (·.add (0 * ei.size))) (k - 0) (c - 0)) w := by
  simp only [Instr.sliceAt, Sem.run_bind, run_underlying ht.slice, Result.andThen, Instr.slice, Instr.sliceBounds, run_ok, run_bound k c _ hk, he.sizeOf, if_true]

theorem run_slM {P : Program} {t e b1 b2 : TypeId} {zz : List ZV} {ei : TI} [ht : Ty P t ⟨.slice e, b1, b2, zz⟩] [he : Ty P e ei] {a : Option Addr} {l c k q : Nat} {w : World} (hk : k ≤ q) (hq : q ≤ c) :
    (Instr.sliceAt t (.slice a l c) none (some (.int .i64 (Int.ofNat k))) (some (.int .i64 (Int.ofNat q)))).run P w = .ok (.slice (if q = 0 then a else a.map (·.add (0 * ei.size))) (k - 0) (q - 0)) w := by
  simp only [Instr.sliceAt, Sem.run_bind, run_underlying ht.slice, Result.andThen, Instr.slice, Instr.sliceBounds, run_ok, run_bound k q _ hk, run_bound q c _ hq, he.sizeOf, if_true]

theorem run_slL {P : Program} {t e b1 b2 : TypeId} {zz : List ZV} {ei : TI} [ht : Ty P t ⟨.slice e, b1, b2, zz⟩] [he : Ty P e ei] {a : Option Addr} {l c k : Nat} {w : World} (hk : k ≤ l) :
    (Instr.sliceAt t (.slice a l c) (some (.int .i64 (Int.ofNat k))) none none).run P w = .ok (.slice (if c = k then a else a.map (·.add (k * ei.size))) (l - k) (c - k)) w := by
  simp only [Instr.sliceAt, Sem.run_bind, run_underlying ht.slice, Result.andThen, Instr.slice, Instr.sliceBounds, run_ok, run_bound k l _ hk, he.sizeOf, if_true]

theorem map_add_zero (a : Option Addr) (s : Nat) : a.map (fun ad => Addr.add ad (0 * s)) = a := by
  cases a <;> simp [Addr.add]

/-- 'x[:h]' -/
theorem to_slH {t e b1 b2 : TypeId} {zz : List ZV} {ei : TI} {y hiO : Operand} {a : Option Addr} {l c k : Nat} (hy : ev m y = some (.slice a l c)) (hh : ev m hiO = some (.int .i64 (Int.ofNat k))) [ht : Ty x.P t ⟨.slice e, b1, b2, zz⟩] [he : Ty x.P e ei] (hk : k ≤ c) (hd : Nat.blt dd n = true)
    (h : TO x d ops rest ks ⟨n, (dd, .slice a k c) :: m, ds⟩ H) : TO x d ops (⟨some dd, .slice t y none (some hiO) none, ty, pos, aft, none⟩ :: rest) ks ⟨n, m, ds⟩ H :=
  to_pure _ (fun _ h => by cases h) (fun a' w ea s => by
    simp only [execOp, Option.map_none, Option.map_some]; rw [ea.ev hy, ea.ev hh]
    rw [Sem.run_bind, run_slH (ei := ei) (e := e) (b1 := b1) (b2 := b2) (zz := zz) hk]
    simp only [map_add_zero, ite_self, Nat.sub_zero]; rfl) hd h

/-- 'x[:h:h]' and the like -/
theorem to_slM {t e b1 b2 : TypeId} {zz : List ZV} {ei : TI} {y hiO mO : Operand} {a : Option Addr} {l c k q : Nat} (hy : ev m y = some (.slice a l c)) (hh : ev m hiO = some (.int .i64 (Int.ofNat k))) (hm : ev m mO = some (.int .i64 (Int.ofNat q))) [ht : Ty x.P t ⟨.slice e, b1, b2, zz⟩] [he : Ty x.P e ei]
    (hk : k ≤ q) (hq : q ≤ c) (hd : Nat.blt dd n = true)
    (h : TO x d ops rest ks ⟨n, (dd, .slice a k q) :: m, ds⟩ H) : TO x d ops (⟨some dd, .slice t y none (some hiO) (some mO), ty, pos, aft, none⟩ :: rest) ks ⟨n, m, ds⟩ H :=
  to_pure _ (fun _ h => by cases h) (fun a' w ea s => by
    simp only [execOp, Option.map_none, Option.map_some]; rw [ea.ev hy, ea.ev hh, ea.ev hm]
    rw [Sem.run_bind, run_slM (ei := ei) (e := e) (b1 := b1) (b2 := b2) (zz := zz) hk hq]
    simp only [map_add_zero, ite_self, Nat.sub_zero]; rfl) hd h

/-- 'x[l:]', x a slice that is read: its rest is read. -/
theorem to_slL {t e b1 b2 sz bb : TypeId} {ek : TK} {ez : List ZV} {zz : List ZV} {y loO : Operand} {a : Option Addr} {l c k lo hi : Nat} {w1 : World} {xs : List (List Value)} (hy : ev m y = some (.slice a l c)) (hl : ev m loO = some (.int .i64 (Int.ofNat k))) [ht : Ty x.P t ⟨.slice e, b1, b2, zz⟩] [he : Ty x.P e ⟨ek, sz, bb, ez⟩]
    [hr : Ro w1 lo hi a l c sz xs] (hk : k ≤ l) (hd : Nat.blt dd n = true)
    (h : ∀ a', Ro w1 lo hi a' (l - k) (c - k) sz (xs.drop k) → TO x d ops rest ks ⟨n, (dd, .slice a' (l - k) (c - k)) :: m, ds⟩ H) : TO x d ops (⟨some dd, .slice t y (some loO) none none, ty, pos, aft, none⟩ :: rest) ks ⟨n, m, ds⟩ H :=
  to_pure _ (fun _ h => by cases h) (fun a' w ea s => by
    simp only [execOp, Option.map_none, Option.map_some]; rw [ea.ev hy, ea.ev hl]
    rw [Sem.run_bind, run_slL (ei := ⟨ek, sz, bb, ez⟩) (e := e) (b1 := b1) (b2 := b2) (zz := zz) hk]
    rfl) hd (h _ (by
    refine ⟨by rw [List.length_drop, hr.len], fun q hq => hr.each q (List.mem_of_mem_drop hq), by have := hr.le; omega, ?_⟩
    rcases hr.here with ⟨h1, h2, h3⟩ | ⟨ad, h1, h2, h3, h4, h5⟩
    · subst h1; exact .inl ⟨by simp, by omega, by omega⟩
    · subst h1
      by_cases hck : c = k
      · rw [if_pos hck]
        refine .inr ⟨ad, rfl, h2, h3, h4, fun i q hq => ?_⟩
        rw [List.getElem?_drop] at hq
        have := (List.getElem?_eq_some_iff.1 hq).1
        have := hr.len; have := hr.le; omega
      · rw [if_neg hck]
        refine .inr ⟨ad.add (k * sz), rfl, by rw [add_block _ _ h2], by rw [add_block _ _ h2]; exact h3, by rw [add_block _ _ h2]; exact h4, fun i q hq j v hv => ?_⟩
        rw [List.getElem?_drop] at hq
        have := h5 _ q hq j v hv
        rw [add_block _ _ h2]
        rw [show ad.off + k * sz + (i * sz + j) = ad.off + ((k + i) * sz + j) from by rw [Nat.add_mul]; omega]
        exact this))

end
end Go.Sx

