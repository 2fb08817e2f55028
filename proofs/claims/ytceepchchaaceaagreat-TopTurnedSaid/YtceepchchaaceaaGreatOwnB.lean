/- Further rules of the walk: maps, iterators, panics, strings; the program's types. No condition. -/
import Derived.Test.YtceepchchaaceaaGreatOwnA
import Derived.Test.YtceepchchaaceaaGreatProg
import Derived.RangeFuncRecord
import Derived.Recover
import Derived.Laws.Strings
import Derived.Lib.ConvBytes
import Derived.Laws.BytesString
set_option linter.unusedVariables false
set_option linter.unusedSimpArgs false

namespace Go.Sx
open Go Go.RowKit

/-! ### The judgement of mixed regions -/

def TM (x : Cx) (S : List Nat) (k : Nat) (ops : Array Oper) (rest : List Oper) (ks : List KI) (E : Env) (Hb H : List Seg) : Prop :=
  ∀ a, E.ok a → (∃ w, St x.w0 Hb w) → wpMix x.P ops S (St x.w0 Hb) (fun D a' => ∀ w', D w' → Qk x ks .normal a' w') rest k (St x.w0 H) a

abbrev Cx.nx (x : Cx) : Cx := ⟨x.P, none, x.w0, QF⟩

def MJ (x : Cx) (S : List Nat) (k : Nat) (ops : Array Oper) (rest : List Oper) (ks : List KI) (ds : List Deferred) (Hb : List Seg) (a : Act) (w : World) : Prop :=
  a.defers = ds ∧ ∃ D', Fine ops (St x.w0 Hb) (k - 1) D' ∧ D' w ∧ wpMix x.P ops S (St x.w0 Hb) (fun D a' => ∀ w', D w' → Qk x ks .normal a' w') rest k D' a

section
variable {x : Cx} {S : List Nat} {k : Nat} {ops : Array Oper} {rest : List Oper} {ks : List KI} {E : Env} {Hb H : List Seg}

theorem t_regM {id : Nat} {l : List Oper} (S : List Nat) (Hb : List Seg) (hr : x.r = none) (hm : x.P.follows .mixedOrders = true) (hB : mixB .any l.toArray S = true) [SubH Hb H] (h : TM x S 0 l.toArray l ks E Hb H) : T x ks (.region id l.toArray true) E H := by
  intro a w e s
  rw [hr]
  exact wpIn_region_mix S (St x.w0 Hb) (St x.w0 H) hm hB st_good s.drew (h a e ⟨w, s.sub⟩)

theorem tm_nil (h : TX x .normal ks E H) : TM x S k ops [] ks E Hb H := fun a e _ w s => h a w e s

/-- A quiet operation: its rule, applied to it alone. -/
theorem tm_q {o : Oper} (E' : Env) (hS : S.contains k = false) (hq : TO x.nx true ops [o] [.inv (fun a _ => E'.ok a)] E Hb) (h : TM x S (k + 1) ops rest ks E' Hb H) : TM x S k ops (o :: rest) ks E Hb H := by
  intro a e hne
  have h1 := hq a e
  have ⟨w, hw⟩ := hne
  simp only [wpQM] at h1
  simp only [wpMix, hS, Bool.false_eq_true, if_false]
  split
  · rename_i hwt
    simp only [hwt, if_true] at h1
    obtain ⟨v, h2, h3⟩ := h1
    exact ⟨v, h2, h _ (h3 w hw) hne⟩
  · rename_i hwt
    simp only [hwt] at h1
    exact h _ (h1 w hw) hne

theorem tmq_end {E : Env} {x : Cx} {ops : Array Oper} {H : List Seg} : TO x true ops [] [.inv (fun a _ => E.ok a)] E H := fun _ e _ _ => e

/-- One that turns the world. -/
theorem tm_s {o : Oper} (hS : S.contains k = true) (hs : TO x.nx false ops [o] [.inv (MJ x S (k + 1) ops rest ks E.ds Hb)] E H) (hnd : ∀ c, o.op ≠ .defer c) (hg : o.guard = none) : TM x S k ops (o :: rest) ks E Hb H := by
  intro a e hne
  have hw : Region.wanted o (yielded ops a.tmps) = true := by unfold Region.wanted; rw [hg]
  simp only [wpMix, hS, hw, if_true]
  intro w s
  have h1 := hs a w e s
  simp only [wpListIn, hw, if_true] at h1
  refine ⟨fun _ _ => trivial, ?_⟩
  have h2 := h1.2
  have hQ : Qk x.nx [.inv (MJ x S (k + 1) ops rest ks E.ds Hb)] = Exit.then (MJ x S (k + 1) ops rest ks E.ds Hb) QF := rfl
  rw [hQ] at h2
  have hL : LetsOut (Exit.then (MJ x S (k + 1) ops rest ks E.ds Hb) QF) → LetsOut QF := fun ⟨_, _, h⟩ => ⟨a, w, h⟩
  have h2' : o.uponIn (WF none) 0 x.P a (MJ x S (k + 1) ops rest ks E.ds Hb) (Exit.then (MJ x S (k + 1) ops rest ks E.ds Hb) QF) ((o.semAt none a.eval).run x.P w) := h2
  have h3 : o.uponIn (WF none) 0 x.P a (MJ x S (k + 1) ops rest ks E.ds Hb) QF ((o.semAt none a.eval).run x.P w) := by
    generalize (o.semAt none a.eval).run x.P w = r at h2'
    unfold Oper.uponIn at *
    split <;> simp only at h2'
    · exact h2'
    · exact h2'
    · exact h2'
    · exact ⟨h2'.1, h2'.2.mono fun e w' he => by
        cases e with
        | returned v => exact he
        | panicked c => exact he
        | outgrown => exact hL he⟩
    · exact h2'
    · exact ⟨h2'.1, h2'.2.mono fun e w' he => by
        cases e with
        | returned v => exact he
        | panicked c => exact he
        | outgrown => exact hL he⟩
    · exact h2'
  refine upon_mono (fun a' w' h' => ?_) h3
  obtain ⟨h4, D', h5, h6, h7⟩ := h'
  exact ⟨h4.trans e.ds.symm, D', h5, h6, h7⟩

theorem tm_se {ds : List Deferred} [SubH Hb H] (hds : E.ds = ds) (h : TM x S k ops rest ks E Hb H) : TO x.nx false ops [] [.inv (MJ x S k ops rest ks ds Hb)] E H := fun a w e s =>
  ⟨e.ds.trans hds, St x.w0 H, .inr st_good, s, h a e ⟨w, s.sub⟩⟩

theorem tm_se2 {ds : List Deferred} (hsub : ∀ w, St x.w0 H w → St x.w0 Hb w) (hds : E.ds = ds) (h : TM x S k ops rest ks E Hb H) : TO x.nx false ops [] [.inv (MJ x S k ops rest ks ds Hb)] E H := fun a w e s =>
  ⟨e.ds.trans hds, St x.w0 H, .inr ⟨fun _ _ h hb => h.below hb, hsub⟩, s, h a e ⟨w, hsub w s⟩⟩

/-- Behind the last operation of all. -/
theorem tm_sl {ds : List Deferred} (hl : lastB ops = true) (hk : Nat.beq k ops.size = true) (hds : E.ds = ds) (h : TX x .normal ks E H) : TO x.nx false ops [] [.inv (MJ x S k ops [] ks ds Hb)] E H := fun a w e s =>
  ⟨e.ds.trans hds, St x.w0 H, .inl ⟨hl, by have := Nat.eq_of_beq_eq_true hk; have h0 : 0 < ops.size := (by unfold lastB at hl; rcases Nat.eq_zero_or_pos ops.size with h0 | h0; (rw [h0] at hl; rw [Array.getElem?_eq_none (by omega)] at hl; cases hl); exact h0); omega⟩, s, fun w' hw' => h a w' e hw'⟩

/-- A guarded operation, as without a guard. -/
theorem tm_gt {op : Op} {ty : TypeId} {pos : String} {aft : Array Edge} {dst : Option Nat} {j : Nat} {want : Bool} {s : Nat}
    (hs : (ops[j]?).bind (·.dst) = some s) (hv : lk E.m s = some (.bool want)) (h : TM x S k ops (⟨dst, op, ty, pos, aft, none⟩ :: rest) ks E Hb H) : TM x S k ops (⟨dst, op, ty, pos, aft, some (j, want)⟩ :: rest) ks E Hb H := by
  intro a e hne
  have hw : Region.wanted ⟨dst, op, ty, pos, aft, some (j, want)⟩ (yielded ops a.tmps) = true := by
    simp [Region.wanted, yielded, hs, e.get _ _ hv]
  have h1 := h a e hne
  simp only [wpMix, Region.wanted, if_true] at h1
  simp only [wpMix, hw, if_true]
  exact h1

theorem tm_gf {n : Nat} {m : List (Nat × Value)} {ds : List Deferred} {op : Op} {ty : TypeId} {pos : String} {aft : Array Edge} {dd : Nat} {j : Nat} {want : Bool} {s : Nat} {u : Value}
    (hs : (ops[j]?).bind (·.dst) = some s) (hv : lk m s = some u) (hu : (match u with | .bool b => b == want | _ => false) = false) (hd : Nat.blt dd n = true)
    (h : TM x S (k + 1) ops rest ks ⟨n, (dd, undef) :: m, ds⟩ Hb H) : TM x S k ops (⟨some dd, op, ty, pos, aft, some (j, want)⟩ :: rest) ks ⟨n, m, ds⟩ Hb H := by
  intro a e hne
  have hw : Region.wanted ⟨some dd, op, ty, pos, aft, some (j, want)⟩ (yielded ops a.tmps) = false := by
    have := e.get _ _ hv
    simp only [Region.wanted, yielded, hs, Option.bind_some, this]
    cases u <;> simp_all
  simp only [wpMix, hw]
  exact h _ (e.put hd undef) hne

theorem tm_gs {n : Nat} {m : List (Nat × Value)} {ds : List Deferred} {o : Oper} {j : Nat} {want b : Bool} {s : Nat}
    (_hg : o.guard = some (j, want)) (_hs : (ops[j]?).bind (·.dst) = some s) (hv : lk m s = some (.bool b))
    (ht : b = true → TM x S k ops (o :: rest) ks ⟨n, (s, .bool true) :: m, ds⟩ Hb H) (hf : b = false → TM x S k ops (o :: rest) ks ⟨n, (s, .bool false) :: m, ds⟩ Hb H) : TM x S k ops (o :: rest) ks ⟨n, m, ds⟩ Hb H := by
  have key : ∀ a, Env.ok ⟨n, m, ds⟩ a → Env.ok ⟨n, (s, .bool b) :: m, ds⟩ a := by
    intro a e
    refine ⟨e.size, e.ds, fun t u hu => ?_⟩
    simp only [lk] at hu
    cases hb : Nat.beq s t with
    | true =>
      rw [hb] at hu; cases hu
      have e' : s = t := Nat.eq_of_beq_eq_true hb
      subst e'; exact e.get _ _ hv
    | false => rw [hb] at hu; exact e.get _ _ hu
  cases b with
  | true => exact fun a e hne => ht rfl a (key a e) hne
  | false => exact fun a e hne => hf rfl a (key a e) hne

end
end Go.Sx



namespace Go.Sx
open Go Go.RowKit

theorem mul_ok {a b B C : Int} (h1 : 0 ≤ a) (h2 : a ≤ B) (h3 : 0 ≤ b) (h4 : b ≤ C) (h5 : B * C ≤ 9223372036854775807) : -9223372036854775808 ≤ a * b ∧ a * b ≤ 9223372036854775807 := by
  have h6 : 0 ≤ a * b := Int.mul_nonneg h1 h3
  have h7 : a * b ≤ B * C := Int.mul_le_mul h2 h4 h3 (Int.le_trans h1 h2)
  omega

theorem mul_bd {a b B C : Int} (h1 : 0 ≤ a) (h2 : a ≤ B) (h3 : 0 ≤ b) (h4 : b ≤ C) : 0 ≤ a * b ∧ a * b ≤ B * C :=
  ⟨Int.mul_nonneg h1 h3, Int.mul_le_mul h2 h4 h3 (Int.le_trans h1 h2)⟩

theorem below_tr {w w1 w2 : World} (h : Below w.heap.size w w1) (k : Below w1.heap.size w1 w2) : Below w.heap.size w w2 :=
  ⟨k.os.trans h.os, k.tape.trans h.tape, k.output.trans h.output, Nat.le_trans h.size k.size, fun b hb => (k.block b (Nat.lt_of_lt_of_le hb h.size)).trans (h.block b hb)⟩

/-! ## Equality of structs of ints -/

def ieq : List Value → List Value → Bool
  | [], [] => true
  | .int _ a :: vs, .int _ b :: us => (a == b) && ieq vs us
  | _, _ => false

def isI (vs : List Value) : Prop := ∀ v ∈ vs, ∃ i, v = .int .i64 i

def allI : List Value → Bool
  | [] => true
  | .int .i64 _ :: vs => allI vs
  | _ => false

theorem allI_isI : ∀ {vs : List Value}, allI vs = true → isI vs
  | [], _, v, h => by cases h
  | u :: vs, h, v, hv => by
    have hu : ∃ i, u = .int .i64 i ∧ allI vs = true := by
      unfold allI at h
      split at h
      · rename_i heq; cases heq
      · rename_i i ws heq; cases heq; exact ⟨i, rfl, h⟩
      · cases h
    obtain ⟨i, rfl, h2⟩ := hu
    rcases List.mem_cons.1 hv with rfl | hv
    · exact ⟨_, rfl⟩
    · exact allI_isI h2 v hv

theorem ieq_app : ∀ {a b c d : List Value}, a.length = b.length → isI a → isI b → ieq (a ++ c) (b ++ d) = (ieq a b && ieq c d)
  | [], [], c, d, _, _, _ => by simp [ieq]
  | u :: a, v :: b, c, d, h, h1, h2 => by
    obtain ⟨i, rfl⟩ := h1 u (List.mem_cons_self ..)
    obtain ⟨j, rfl⟩ := h2 v (List.mem_cons_self ..)
    simp only [List.cons_append, ieq, ieq_app (by simpa using h) (fun x hx => h1 x (List.mem_cons_of_mem _ hx)) (fun x hx => h2 x (List.mem_cons_of_mem _ hx)), Bool.and_assoc]

/-- The value of a type whose cells these are. -/
def mkv (agg : Bool) (vs : List Value) : Value := if agg then .agg vs.toArray else vs.headD undef

/-- Two values of the type are equal if their cells, all ints, are. -/
def EqL (P : Program) (k : Nat) (t : TypeId) (i : TI) : Prop :=
  ∀ d, k ≤ d → ∀ w xs ys, xs.length = i.size → ys.length = i.size → isI xs → isI ys → (Op.equalIn d t (mkv i.k.agg xs) (mkv i.k.agg ys)).run P w = .ok (ieq xs ys) w

theorem eqL_int {P : Program} {t b : Nat} {z : List ZV} (h : Ty P t ⟨.int .i64, 1, b, z⟩) : EqL P 1 t ⟨.int .i64, 1, b, z⟩ := by
  intro d hd w xs ys h1 h2 h3 h4
  match d, hd with
  | d + 1, _ =>
  match xs, ys, h1, h2 with
  | [u], [v], _, _ =>
  obtain ⟨i, rfl⟩ := h3 u (List.mem_cons_self ..)
  obtain ⟨j, rfl⟩ := h4 v (List.mem_cons_self ..)
  simp only [mkv, TK.agg, Bool.false_eq_true, if_false, List.headD_cons, Op.equalIn, Sem.run_bind, run_underlying h.int, Result.andThen, if_true, run_ok, ieq, Bool.and_true]

def plainStruct (P : Program) (t : TypeId) : Bool :=
  match P.underlying t with
  | some (.struct fs) => fs.toList.all (fun f => f.name != "_") && !P.stoodInHeld t && !P.eqGuardType P.depth t
  | _ => false

/-- The fields, one behind the other. -/
def EqF (P : Program) (k : Nat) : List (Nat × TypeId) → Nat → Nat → Prop
  | [], off, sz => off = sz
  | (o, t) :: fs, off, sz => o = off ∧ ∃ i, Ty P t i ∧ (i.k.agg = false → i.size = 1) ∧ EqL P k t i ∧ EqF P k fs (off + i.size) sz

theorem EqF.le {P : Program} {k : Nat} : ∀ {fs : List (Nat × TypeId)} {off sz : Nat}, EqF P k fs off sz → off ≤ sz
  | [], _, _, h => Nat.le_of_eq h
  | (o, t) :: fs, off, sz, ⟨_, i, _, _, _, h⟩ => Nat.le_trans (Nat.le_add_right _ _) h.le

theorem run_part {P : Program} {t : TypeId} {i : TI} (ht : Ty P t i) (hsz : i.k.agg = false → i.size = 1) {xs : List Value} {off : Nat} (h : off + i.size ≤ xs.length) (w : World) : (part t xs.toArray off).run P w = .ok (mkv i.k.agg ((xs.drop off).take i.size)) w := by
  unfold part
  simp only [Sem.run_bind, ht.agg, Result.andThen]
  cases hk : i.k.agg with
  | true =>
    simp only [if_true, Sem.run_bind, ht.sizeOf, Result.andThen, run_ok, mkv]
    congr 2
    apply Array.toList_inj.1
    simp [List.take_drop]
  | false =>
    have h1 := hsz hk
    rw [h1] at h ⊢
    have h2 : off < xs.length := by omega
    simp only [Bool.false_eq_true, if_false, List.getElem?_toArray, List.getElem?_eq_getElem h2, run_ok, mkv, List.headD]
    congr 1
    rw [List.drop_eq_getElem_cons h2]
    rfl

theorem isI_sub {vs : List Value} (h : isI vs) (p q : Nat) : isI ((vs.drop p).take q) := fun v hv => h v (List.mem_of_mem_drop (List.mem_of_mem_take hv))

theorem eqL_struct {P : Program} {t k sz b : Nat} {fs : List (Nat × TypeId)} {z : List ZV} (h : Ty P t ⟨.struct fs, sz, b, z⟩) (hp : plainStruct P t = true) (hf : EqF P k fs 0 sz) : EqL P (k + 1) t ⟨.struct fs, sz, b, z⟩ := by
  intro d hd w xs ys h1 h2 h3 h4
  match d, hd with
  | d + 1, hd =>
  obtain ⟨fa, g1, g2⟩ := h.struct
  unfold plainStruct at hp
  rw [g1] at hp
  simp only [Bool.and_eq_true, Bool.not_eq_true', List.all_eq_true, bne_iff_ne, ne_eq] at hp
  have hkd : k ≤ d := by omega
  simp only [mkv, TK.agg, if_true, Op.equalIn, Sem.run_bind, run_underlying g1, Result.andThen, show (program).run P w = .ok P w from rfl, hp.1.2, Bool.false_eq_true, if_false]
  rw [← Array.forIn_toList]
  have key : ∀ (l : List Field) (off : Nat), (∀ f ∈ l, f.name ≠ "_") → EqF P k (l.map fun f => (f.offset, f.type)) off sz →
      Sem.run P (forIn l ((none : Option Bool), ()) fun f __s =>
          if f.name ≠ "_" then do
            let __do_lift ← part f.type xs.toArray f.offset
            let __do_lift_1 ← part f.type ys.toArray f.offset
            let __do_lift ← Op.equalIn d f.type __do_lift __do_lift_1
            if (!__do_lift) = true then pure (ForInStep.done (some false, ())) else pure (ForInStep.yield (none, ()))
          else pure (ForInStep.yield (none, ()))) w = .ok ((if ieq (xs.drop off) (ys.drop off) then none else some false), ()) w := by
    intro l
    induction l with
    | nil =>
      intro off _ hf
      have : off = sz := hf
      subst this
      have e1 : xs.drop off = [] := List.drop_of_length_le (by simpa using Nat.le_of_eq h1)
      have e2 : ys.drop off = [] := List.drop_of_length_le (by simpa using Nat.le_of_eq h2)
      rw [e1, e2]
      rfl
    | cons f l ih =>
      intro off hn hf
      obtain ⟨ho, i, hti, hsz, hei, hfr⟩ := hf
      have hle := hfr.le
      subst ho
      have hs1 : f.offset + i.size ≤ xs.length := by rw [h1]; exact hle
      have hs2 : f.offset + i.size ≤ ys.length := by rw [h2]; exact hle
      have e := hei d hkd w ((xs.drop f.offset).take i.size) ((ys.drop f.offset).take i.size) (by rw [List.length_take, List.length_drop]; omega) (by rw [List.length_take, List.length_drop]; omega) (isI_sub h3 _ _) (isI_sub h4 _ _)
      rw [List.forIn_cons]
      simp only [if_pos (hn f (List.mem_cons_self ..)), Sem.run_bind, run_part hti hsz hs1, run_part hti hsz hs2, e, Result.andThen]
      have hsp : ieq (xs.drop f.offset) (ys.drop f.offset) = (ieq ((xs.drop f.offset).take i.size) ((ys.drop f.offset).take i.size) && ieq (xs.drop (f.offset + i.size)) (ys.drop (f.offset + i.size))) := by
        rw [← ieq_app (by simp only [List.length_take, List.length_drop]; omega) (isI_sub h3 _ _) (isI_sub h4 _ _)]
        rw [← List.drop_drop, ← List.drop_drop, List.take_append_drop, List.take_append_drop]
      rw [hsp]
      cases hb : ieq ((xs.drop f.offset).take i.size) ((ys.drop f.offset).take i.size) with
      | false => simp [run_ok]
      | true =>
        simp only [Bool.not_true, Bool.false_eq_true, if_false, run_ok, Bool.true_and]
        exact ih _ (fun g hg => hn g (List.mem_cons_of_mem _ hg)) hfr
  have := key fa.toList 0 hp.1.1 (by rw [g2]; exact hf)
  rw [this]
  simp only [List.drop_zero]
  cases ieq xs ys <;> rfl

class EqC (P : Program) (t : TypeId) (i : outParam TI) : Prop where
  k : ∃ k, k ≤ 100 ∧ EqL P k t i
  plain : plainStruct P t = true
  agg : i.k.agg = true

theorem EqC.run {P : Program} {t : TypeId} {i : TI} (h : EqC P t i) {vs us : List Value} (h1 : vs.length = i.size) (h2 : us.length = i.size) (h3 : isI vs) (h4 : isI us) (w : World) :
    (Op.equal t (.agg vs.toArray) (.agg us.toArray)).run P w = .ok (ieq vs us) w := by
  obtain ⟨k, hk, he⟩ := h.k
  have := he Op.maxDepth (by unfold Op.maxDepth; omega) w vs us h1 h2 h3 h4
  simp only [mkv, h.agg, if_true] at this
  exact this

theorem EqC.guard {P : Program} {t : TypeId} {i : TI} (h : EqC P t i) (op : BinOp) (y z : Operand) (a b : Array Value) (w : World) : (eqGuard op t y z (.agg a) (.agg b)).run P w = .ok () w := by
  have hp := h.plain
  unfold plainStruct at hp
  split at hp
  · simp only [Bool.and_eq_true, Bool.not_eq_true'] at hp
    have h2 := hp.2
    have hpr : (program).run P w = .ok P w := rfl
    cases op <;> first
      | rfl
      | simp only [eqGuard, Bool.not_true, Bool.false_eq_true, if_false, Sem.run_bind, hpr, Result.andThen, h2, Bool.not_false, if_true, run_ok]
  · cases hp

theorem run_eqBool {P : Program} {t : TypeId} (hu : P.underlying t = some .bool) (p q : Bool) (w : World) : (Op.equal t (.bool p) (.bool q)).run P w = .ok (p == q) w := by
  have : ∀ d, (Op.equalIn (d + 1) t (.bool p) (.bool q)).run P w = .ok (p == q) w := fun d => by
    simp only [Op.equalIn, Sem.run_bind, run_underlying hu, Result.andThen, run_ok]
  exact this 9999

theorem EqL.mono {P : Program} {k k' : Nat} {t : TypeId} {i : TI} (h : EqL P k t i) (hk : k ≤ k') : EqL P k' t i := fun d hd => h d (Nat.le_trans hk hd)

/-- Scalars, in order. -/
class SclOf (ps : List (Nat × Value)) (i : Nat) (vs : outParam (List Value)) : Prop where
  eq : ∃ rows, RowsOf ps i rows ∧ (∀ r ∈ rows, r.length = 1) ∧ vs = rows.flatten
instance SclOf.nil (i : Nat) : SclOf [] i [] := ⟨[], inferInstance, (fun _ h => by cases h), rfl⟩
instance SclOf.cons (i : Nat) (v u : Value) (ps : List (Nat × Value)) (vs : List Value) [hc : CellsOf v [u]] [h : SclOf ps (i + 1) vs] : SclOf ((i, v) :: ps) i (u :: vs) :=
  ⟨let ⟨rows, h1, h2, h3⟩ := h.eq; ⟨[u] :: rows, inferInstance, (fun r hr => by
    rcases List.mem_cons.1 hr with rfl | hr
    · rfl
    · exact h2 r hr), by simp [h3]⟩⟩

section ops
variable {x : Cx} {d : Bool} {ops : Array Oper} {rest : List Oper} {ks : List KI} {n : Nat} {m : List (Nat × Value)} {ds : List Deferred} {H H2 : List Seg}
variable {ty : TypeId} {pos : String} {aft : Array Edge} {dd : Nat}

theorem to_eqs {t t2 : TypeId} {i : TI} {y z : Operand} {vs us : List Value} (hy : ev m y = some (.agg vs.toArray)) (hz : ev m z = some (.agg us.toArray)) [h : EqC x.P t i] (h1 : Nat.beq vs.length i.size = true) (h2 : Nat.beq us.length i.size = true) (h3 : allI vs = true) (h4 : allI us = true)
    (hd : Nat.blt dd n = true) (hh : TO x d ops rest ks ⟨n, (dd, .bool (ieq vs us)) :: m, ds⟩ H) : TO x d ops (⟨some dd, .binOp .eql t y z t2, ty, pos, aft, none⟩ :: rest) ks ⟨n, m, ds⟩ H :=
  to_bin hy hz (fun w => by
    simp only [Sem.run_bind, h.guard, Result.andThen, binOp, h.run (Nat.eq_of_beq_eq_true h1) (Nat.eq_of_beq_eq_true h2) (allI_isI h3) (allI_isI h4), run_ok]) hd hh

theorem to_nes {t t2 : TypeId} {i : TI} {y z : Operand} {vs us : List Value} (hy : ev m y = some (.agg vs.toArray)) (hz : ev m z = some (.agg us.toArray)) [h : EqC x.P t i] (h1 : Nat.beq vs.length i.size = true) (h2 : Nat.beq us.length i.size = true) (h3 : allI vs = true) (h4 : allI us = true)
    (hd : Nat.blt dd n = true) (hh : TO x d ops rest ks ⟨n, (dd, .bool (!ieq vs us)) :: m, ds⟩ H) : TO x d ops (⟨some dd, .binOp .neq t y z t2, ty, pos, aft, none⟩ :: rest) ks ⟨n, m, ds⟩ H :=
  to_bin hy hz (fun w => by
    simp only [Sem.run_bind, h.guard, Result.andThen, binOp, h.run (Nat.eq_of_beq_eq_true h1) (Nat.eq_of_beq_eq_true h2) (allI_isI h3) (allI_isI h4), run_ok]) hd hh

theorem to_beq {t t2 : TypeId} {y z : Operand} {p q : Bool} (hy : ev m y = some (.bool p)) (hz : ev m z = some (.bool q)) (hu : x.P.underlying t = some .bool)
    (hd : Nat.blt dd n = true) (hh : TO x d ops rest ks ⟨n, (dd, .bool (p == q)) :: m, ds⟩ H) : TO x d ops (⟨some dd, .binOp .eql t y z t2, ty, pos, aft, none⟩ :: rest) ks ⟨n, m, ds⟩ H :=
  to_bin hy hz (fun w => by
    have e : (eqGuard .eql t y z (.bool p) (.bool q)).run x.P w = .ok () w := rfl
    simp only [Sem.run_bind, e, Result.andThen, binOp, run_eqBool hu, run_ok]) hd hh
theorem to_bne {t t2 : TypeId} {y z : Operand} {p q : Bool} (hy : ev m y = some (.bool p)) (hz : ev m z = some (.bool q)) (hu : x.P.underlying t = some .bool)
    (hd : Nat.blt dd n = true) (hh : TO x d ops rest ks ⟨n, (dd, .bool (!(p == q))) :: m, ds⟩ H) : TO x d ops (⟨some dd, .binOp .neq t y z t2, ty, pos, aft, none⟩ :: rest) ks ⟨n, m, ds⟩ H :=
  to_bin hy hz (fun w => by
    have e : (eqGuard .neq t y z (.bool p) (.bool q)).run x.P w = .ok () w := rfl
    simp only [Sem.run_bind, e, Result.andThen, binOp, run_eqBool hu, run_ok]) hd hh

/-- An element of an array that is a value. -/
theorem to_ixa {t e b1 b2 len b3 : TypeId} {ek : TK} {zz ez : List ZV} {y i : Operand} {cs : List Value} {k : Nat} {v : Value} (hy : ev m y = some (.agg cs.toArray)) (hi : ev m i = some (.int .i64 (Int.ofNat k)))
    [ht : Ty x.P t ⟨.array len e, b1, b2, zz⟩] [he : Ty x.P e ⟨ek, 1, b3, ez⟩] (hk : ek.agg = false) (hlt : k < len) (hx : cs[k]? = some v) (hd : Nat.blt dd n = true)
    (h : TO x d ops rest ks ⟨n, (dd, v) :: m, ds⟩ H) : TO x d ops (⟨some dd, .index t y i, ty, pos, aft, none⟩ :: rest) ks ⟨n, m, ds⟩ H :=
  to_pure _ (fun _ h => by cases h) (fun a w ea _ => by
    have hk' : (0 : Int) ≤ (k : Int) ∧ (k : Int) < (len : Int) := ⟨Int.natCast_nonneg k, Int.ofNat_lt.2 hlt⟩
    simp only [execOp]; rw [ea.ev hy, ea.ev hi]
    simp only [Instr.index, asIntOf, Sem.run_bind, run_ok, Result.andThen, run_underlying ht.array, Int.ofNat_eq_natCast, if_pos hk', he.sizeOf, Int.toNat_natCast, Nat.mul_one, part, he.agg, hk, Bool.false_eq_true, if_false, List.getElem?_toArray, hx]) hd h

/-- The address of an element of an array of the call's own. -/
theorem to_ixo {t e b1 b2 len : TypeId} {zz : List ZV} {ei : TI} {y i : Operand} {b o k o' : Nat} (hy : ev m y = some (.pointer (some ⟨b, o, none⟩))) (hi : ev m i = some (.int .i64 (Int.ofNat k)))
    [ht : Ty x.P t ⟨.array len e, b1, b2, zz⟩] [he : Ty x.P e ei] (hlt : k < len) (ho : o + k * ei.size = o') (hd : Nat.blt dd n = true)
    (h : TO x d ops rest ks ⟨n, (dd, .pointer (some ⟨b, o', none⟩)) :: m, ds⟩ H) : TO x d ops (⟨some dd, .indexAddr t y i, ty, pos, aft, none⟩ :: rest) ks ⟨n, m, ds⟩ H :=
  to_pure _ (fun _ h => by cases h) (fun a w ea _ => by
    have hk' : (0 : Int) ≤ (k : Int) ∧ (k : Int) < (len : Int) := ⟨Int.natCast_nonneg k, Int.ofNat_lt.2 hlt⟩
    simp only [execOp]; rw [ea.ev hy, ea.ev hi]
    simp only [Instr.indexAt, Instr.sureAddr, asIntOf, Sem.run_bind, run_ok, Result.andThen, run_underlying ht.array, Int.ofNat_eq_natCast, if_pos hk', he.sizeOf, Int.toNat_natCast, Addr.add_none, ho]) hd h

/-- An array that is built of scalars. -/
theorem to_ba {t e b1 b2 len b3 : TypeId} {ek : TK} {zz ez : List ZV} {l : List (Nat × Operand)} {ps : List (Nat × Value)} {base vs : List Value} (hl : evp m l = some ps) [ht : Ty x.P t ⟨.array len e, b1, b2, zz⟩] [he : Ty x.P e ⟨ek, 1, b3, ez⟩] [hz : ZVals zz base]
    [hr : SclOf ps 0 vs] (hlen : Nat.beq vs.length base.length = true) (hd : Nat.blt dd n = true)
    (h : TO x d ops rest ks ⟨n, (dd, .agg vs.toArray) :: m, ds⟩ H) : TO x d ops (⟨some dd, .build t l.toArray, ty, pos, aft, none⟩ :: rest) ks ⟨n, m, ds⟩ H :=
  to_pure _ (fun _ h => by cases h) (fun a w e s => by
    obtain ⟨rows, hr1, hr2, hr3⟩ := hr.eq
    obtain ⟨v, g1, g2, g3⟩ := run_zeroValue (P := x.P) (w := w) (t := t) (vs := base)
    have hps := e.evp hl
    have hmap : l.toArray.map (fun (p : Nat × Operand) => (p.1, a.eval p.2)) = ps.toArray := by
      rw [List.map_toArray, hps]
    have hfill : Instr.fill (fun i => some (i * 1, 1)) base.toArray ps = some vs.toArray := by
      have hlen2 : vs.length = rows.length := by rw [hr3]; exact (flatten_len (sz := 1) hr2).trans (Nat.mul_one _)
      have := fill_rows (sz := 1) rows [] base ps hr2 (fun _ h => by cases h) (by rw [Nat.mul_one, ← hlen2]; exact (Nat.eq_of_beq_eq_true hlen).symm) (by simpa using hr1.eq.1) hr1.eq.2
      rw [hr3]
      simpa using this
    simp only [execOp]
    rw [show (fun (x : Nat × Operand) => match x with | (i, x) => (i, a.eval x)) = (fun (p : Nat × Operand) => (p.1, a.eval p.2)) from rfl, hmap]
    simp only [Instr.build, Sem.run_bind, g1, g2, Result.andThen, run_underlying ht.array, he.sizeOf, hfill]
    rfl) hd h

end ops

end Go.Sx


namespace Go.Proofs
open Go Go.Sx
instance Tryz.ty1 : Ty Tryz.prog 1 ⟨.func, 1, 8, [.func]⟩ := ⟨by kernel_rfl⟩
instance Tryz.ty2 : Ty Tryz.prog 2 ⟨.int .i64, 1, 8, [.int .i64]⟩ := ⟨by kernel_rfl⟩
instance Tryz.ty3 : Ty Tryz.prog 3 ⟨.int .i64, 1, 8, [.int .i64]⟩ := ⟨by kernel_rfl⟩
instance Tryz.ty4 : Ty Tryz.prog 4 ⟨.bool, 1, 1, [.bool]⟩ := ⟨by kernel_rfl⟩
instance Tryz.ty5 : Ty Tryz.prog 5 ⟨.int .u8, 1, 1, [.int .u8]⟩ := ⟨by kernel_rfl⟩
instance Tryz.ty6 : Ty Tryz.prog 6 ⟨.int .u8, 1, 1, [.int .u8]⟩ := ⟨by kernel_rfl⟩
instance Tryz.ty7 : Ty Tryz.prog 7 ⟨.struct [(0, 2), (1, 3), (2, 4), (3, 6)], 4, 24, [.int .i64, .int .i64, .bool, .int .u8]⟩ := ⟨by kernel_rfl⟩
instance Tryz.ty8 : Ty Tryz.prog 8 ⟨.struct [(0, 2), (1, 3), (2, 4), (3, 6)], 4, 24, [.int .i64, .int .i64, .bool, .int .u8]⟩ := ⟨by kernel_rfl⟩
instance Tryz.ty9 : Ty Tryz.prog 9 ⟨.string, 1, 16, [.str]⟩ := ⟨by kernel_rfl⟩
instance Tryz.ty10 : Ty Tryz.prog 10 ⟨.string, 1, 16, [.str]⟩ := ⟨by kernel_rfl⟩
instance Tryz.ty11 : Ty Tryz.prog 11 ⟨.string, 1, 16, [.str]⟩ := ⟨by kernel_rfl⟩
instance Tryz.ty12 : Ty Tryz.prog 12 ⟨.int .u64, 1, 8, [.int .u64]⟩ := ⟨by kernel_rfl⟩
instance Tryz.ty13 : Ty Tryz.prog 13 ⟨.struct [(0, 9), (1, 12)], 2, 24, [.str, .int .u64]⟩ := ⟨by kernel_rfl⟩
instance Tryz.ty14 : Ty Tryz.prog 14 ⟨.struct [(0, 9), (1, 12)], 2, 24, [.str, .int .u64]⟩ := ⟨by kernel_rfl⟩
instance Tryz.ty15 : Ty Tryz.prog 15 ⟨.ptr 173, 1, 8, [.ptr]⟩ := ⟨by kernel_rfl⟩
instance Tryz.ty16 : Ty Tryz.prog 16 ⟨.ptr 176, 1, 8, [.ptr]⟩ := ⟨by kernel_rfl⟩
instance Tryz.ty17 : Ty Tryz.prog 17 ⟨.ptr 185, 1, 8, [.ptr]⟩ := ⟨by kernel_rfl⟩
instance Tryz.ty18 : Ty Tryz.prog 18 ⟨.struct [(0, 17)], 1, 8, [.ptr]⟩ := ⟨by kernel_rfl⟩
instance Tryz.ty19 : Ty Tryz.prog 19 ⟨.struct [(0, 17)], 1, 8, [.ptr]⟩ := ⟨by kernel_rfl⟩
instance Tryz.ty20 : Ty Tryz.prog 20 ⟨.iface, 1, 16, [.iface]⟩ := ⟨by kernel_rfl⟩
instance Tryz.ty21 : Ty Tryz.prog 21 ⟨.int .i32, 1, 4, [.int .i32]⟩ := ⟨by kernel_rfl⟩
instance Tryz.ty22 : Ty Tryz.prog 22 ⟨.slice 32, 1, 24, [.slice]⟩ := ⟨by kernel_rfl⟩
instance Tryz.ty23 : Ty Tryz.prog 23 ⟨.struct [(0, 3), (1, 22)], 2, 32, [.int .i64, .slice]⟩ := ⟨by kernel_rfl⟩
instance Tryz.ty24 : Ty Tryz.prog 24 ⟨.struct [(0, 3), (1, 22)], 2, 32, [.int .i64, .slice]⟩ := ⟨by kernel_rfl⟩
instance Tryz.ty25 : Ty Tryz.prog 25 ⟨.slice 30, 1, 24, [.slice]⟩ := ⟨by kernel_rfl⟩
instance Tryz.ty26 : Ty Tryz.prog 26 ⟨.func, 1, 8, [.func]⟩ := ⟨by kernel_rfl⟩
instance Tryz.ty27 : Ty Tryz.prog 27 ⟨.func, 1, 8, [.func]⟩ := ⟨by kernel_rfl⟩
instance Tryz.ty28 : Ty Tryz.prog 28 ⟨.func, 1, 8, [.func]⟩ := ⟨by kernel_rfl⟩
instance Tryz.ty29 : Ty Tryz.prog 29 ⟨.func, 1, 8, [.func]⟩ := ⟨by kernel_rfl⟩
instance Tryz.ty30 : Ty Tryz.prog 30 ⟨.slice 3, 1, 24, [.slice]⟩ := ⟨by kernel_rfl⟩
instance Tryz.ty31 : Ty Tryz.prog 31 ⟨.struct [(0, 3), (1, 30)], 2, 32, [.int .i64, .slice]⟩ := ⟨by kernel_rfl⟩
instance Tryz.ty32 : Ty Tryz.prog 32 ⟨.struct [(0, 3), (1, 30)], 2, 32, [.int .i64, .slice]⟩ := ⟨by kernel_rfl⟩
instance Tryz.ty33 : Ty Tryz.prog 33 ⟨.slice 41, 1, 24, [.slice]⟩ := ⟨by kernel_rfl⟩
instance Tryz.ty34 : Ty Tryz.prog 34 ⟨.int .i64, 1, 8, [.int .i64]⟩ := ⟨by kernel_rfl⟩
instance Tryz.ty36 : Ty Tryz.prog 36 ⟨.func, 1, 8, [.func]⟩ := ⟨by kernel_rfl⟩
instance Tryz.ty37 : Ty Tryz.prog 37 ⟨.slice 44, 1, 24, [.slice]⟩ := ⟨by kernel_rfl⟩
instance Tryz.ty39 : Ty Tryz.prog 39 ⟨.func, 1, 8, [.func]⟩ := ⟨by kernel_rfl⟩
instance Tryz.ty40 : Ty Tryz.prog 40 ⟨.struct [(0, 3), (1, 3)], 2, 16, [.int .i64, .int .i64]⟩ := ⟨by kernel_rfl⟩
instance Tryz.ty41 : Ty Tryz.prog 41 ⟨.struct [(0, 3), (1, 3)], 2, 16, [.int .i64, .int .i64]⟩ := ⟨by kernel_rfl⟩
instance Tryz.ty42 : Ty Tryz.prog 42 ⟨.int .i64, 1, 8, [.int .i64]⟩ := ⟨by kernel_rfl⟩
instance Tryz.ty43 : Ty Tryz.prog 43 ⟨.struct [(0, 3), (1, 42)], 2, 16, [.int .i64, .int .i64]⟩ := ⟨by kernel_rfl⟩
instance Tryz.ty44 : Ty Tryz.prog 44 ⟨.struct [(0, 3), (1, 42)], 2, 16, [.int .i64, .int .i64]⟩ := ⟨by kernel_rfl⟩
instance Tryz.ty45 : Ty Tryz.prog 45 ⟨.func, 1, 8, [.func]⟩ := ⟨by kernel_rfl⟩
instance Tryz.ty46 : Ty Tryz.prog 46 ⟨.func, 1, 8, [.func]⟩ := ⟨by kernel_rfl⟩
instance Tryz.ty47 : Ty Tryz.prog 47 ⟨.func, 1, 8, [.func]⟩ := ⟨by kernel_rfl⟩
instance Tryz.ty49 : Ty Tryz.prog 49 ⟨.func, 1, 8, [.func]⟩ := ⟨by kernel_rfl⟩
instance Tryz.ty50 : Ty Tryz.prog 50 ⟨.slice 77, 1, 24, [.slice]⟩ := ⟨by kernel_rfl⟩
instance Tryz.ty51 : Ty Tryz.prog 51 ⟨.int .i64, 1, 8, [.int .i64]⟩ := ⟨by kernel_rfl⟩
instance Tryz.ty52 : Ty Tryz.prog 52 ⟨.struct [(0, 50), (1, 51), (2, 3)], 3, 40, [.slice, .int .i64, .int .i64]⟩ := ⟨by kernel_rfl⟩
instance Tryz.ty53 : Ty Tryz.prog 53 ⟨.struct [(0, 50), (1, 51), (2, 3)], 3, 40, [.slice, .int .i64, .int .i64]⟩ := ⟨by kernel_rfl⟩
instance Tryz.ty54 : Ty Tryz.prog 54 ⟨.func, 1, 8, [.func]⟩ := ⟨by kernel_rfl⟩
instance Tryz.ty56 : Ty Tryz.prog 56 ⟨.func, 1, 8, [.func]⟩ := ⟨by kernel_rfl⟩
instance Tryz.ty57 : Ty Tryz.prog 57 ⟨.func, 1, 8, [.func]⟩ := ⟨by kernel_rfl⟩
instance Tryz.ty59 : Ty Tryz.prog 59 ⟨.func, 1, 8, [.func]⟩ := ⟨by kernel_rfl⟩
instance Tryz.ty60 : Ty Tryz.prog 60 ⟨.slice 90, 1, 24, [.slice]⟩ := ⟨by kernel_rfl⟩
instance Tryz.ty61 : Ty Tryz.prog 61 ⟨.slice 93, 1, 24, [.slice]⟩ := ⟨by kernel_rfl⟩
instance Tryz.ty62 : Ty Tryz.prog 62 ⟨.struct [(0, 3), (1, 60), (2, 61)], 3, 56, [.int .i64, .slice, .slice]⟩ := ⟨by kernel_rfl⟩
instance Tryz.ty63 : Ty Tryz.prog 63 ⟨.struct [(0, 3), (1, 60), (2, 61)], 3, 56, [.int .i64, .slice, .slice]⟩ := ⟨by kernel_rfl⟩
instance Tryz.ty64 : Ty Tryz.prog 64 ⟨.func, 1, 8, [.func]⟩ := ⟨by kernel_rfl⟩
instance Tryz.ty65 : Ty Tryz.prog 65 ⟨.func, 1, 8, [.func]⟩ := ⟨by kernel_rfl⟩
instance Tryz.ty66 : Ty Tryz.prog 66 ⟨.func, 1, 8, [.func]⟩ := ⟨by kernel_rfl⟩
instance Tryz.ty67 : Ty Tryz.prog 67 ⟨.func, 1, 8, [.func]⟩ := ⟨by kernel_rfl⟩
instance Tryz.ty68 : Ty Tryz.prog 68 ⟨.func, 1, 8, [.func]⟩ := ⟨by kernel_rfl⟩
instance Tryz.ty69 : Ty Tryz.prog 69 ⟨.func, 1, 8, [.func]⟩ := ⟨by kernel_rfl⟩
instance Tryz.ty71 : Ty Tryz.prog 71 ⟨.func, 1, 8, [.func]⟩ := ⟨by kernel_rfl⟩
instance Tryz.ty72 : Ty Tryz.prog 72 ⟨.func, 1, 8, [.func]⟩ := ⟨by kernel_rfl⟩
instance Tryz.ty73 : Ty Tryz.prog 73 ⟨.func, 1, 8, [.func]⟩ := ⟨by kernel_rfl⟩
instance Tryz.ty74 : Ty Tryz.prog 74 ⟨.func, 1, 8, [.func]⟩ := ⟨by kernel_rfl⟩
instance Tryz.ty75 : Ty Tryz.prog 75 ⟨.func, 1, 8, [.func]⟩ := ⟨by kernel_rfl⟩
instance Tryz.ty76 : Ty Tryz.prog 76 ⟨.struct [(0, 3), (1, 3)], 2, 16, [.int .i64, .int .i64]⟩ := ⟨by kernel_rfl⟩
instance Tryz.ty77 : Ty Tryz.prog 77 ⟨.struct [(0, 3), (1, 3)], 2, 16, [.int .i64, .int .i64]⟩ := ⟨by kernel_rfl⟩
instance Tryz.ty78 : Ty Tryz.prog 78 ⟨.func, 1, 8, [.func]⟩ := ⟨by kernel_rfl⟩
instance Tryz.ty79 : Ty Tryz.prog 79 ⟨.struct [(0, 24), (2, 25)], 3, 56, [.int .i64, .slice, .slice]⟩ := ⟨by kernel_rfl⟩
instance Tryz.ty80 : Ty Tryz.prog 80 ⟨.struct [(0, 24), (2, 25)], 3, 56, [.int .i64, .slice, .slice]⟩ := ⟨by kernel_rfl⟩
instance Tryz.ty81 : Ty Tryz.prog 81 ⟨.map 121 3, 1, 8, [.map]⟩ := ⟨by kernel_rfl⟩
instance Tryz.ty82 : Ty Tryz.prog 82 ⟨.struct [(0, 80), (3, 3), (4, 81)], 5, 72, [.int .i64, .slice, .slice, .int .i64, .map]⟩ := ⟨by kernel_rfl⟩
instance Tryz.ty83 : Ty Tryz.prog 83 ⟨.struct [(0, 80), (3, 3), (4, 81)], 5, 72, [.int .i64, .slice, .slice, .int .i64, .map]⟩ := ⟨by kernel_rfl⟩
instance Tryz.ty84 : Ty Tryz.prog 84 ⟨.func, 1, 8, [.func]⟩ := ⟨by kernel_rfl⟩
instance Tryz.ty85 : Ty Tryz.prog 85 ⟨.func, 1, 8, [.func]⟩ := ⟨by kernel_rfl⟩
instance Tryz.ty86 : Ty Tryz.prog 86 ⟨.func, 1, 8, [.func]⟩ := ⟨by kernel_rfl⟩
instance Tryz.ty87 : Ty Tryz.prog 87 ⟨.ptr 131, 1, 8, [.ptr]⟩ := ⟨by kernel_rfl⟩
instance Tryz.ty88 : Ty Tryz.prog 88 ⟨.func, 1, 8, [.func]⟩ := ⟨by kernel_rfl⟩
instance Tryz.ty89 : Ty Tryz.prog 89 ⟨.struct [(0, 3), (1, 3), (2, 3)], 3, 24, [.int .i64, .int .i64, .int .i64]⟩ := ⟨by kernel_rfl⟩
instance Tryz.ty90 : Ty Tryz.prog 90 ⟨.struct [(0, 3), (1, 3), (2, 3)], 3, 24, [.int .i64, .int .i64, .int .i64]⟩ := ⟨by kernel_rfl⟩
instance Tryz.ty91 : Ty Tryz.prog 91 ⟨.int .i64, 1, 8, [.int .i64]⟩ := ⟨by kernel_rfl⟩
instance Tryz.ty92 : Ty Tryz.prog 92 ⟨.struct [(0, 91), (1, 30)], 2, 32, [.int .i64, .slice]⟩ := ⟨by kernel_rfl⟩
instance Tryz.ty93 : Ty Tryz.prog 93 ⟨.struct [(0, 91), (1, 30)], 2, 32, [.int .i64, .slice]⟩ := ⟨by kernel_rfl⟩
instance Tryz.ty94 : Ty Tryz.prog 94 ⟨.func, 1, 8, [.func]⟩ := ⟨by kernel_rfl⟩
instance Tryz.ty95 : Ty Tryz.prog 95 ⟨.func, 1, 8, [.func]⟩ := ⟨by kernel_rfl⟩
instance Tryz.ty96 : Ty Tryz.prog 96 ⟨.func, 1, 8, [.func]⟩ := ⟨by kernel_rfl⟩
instance Tryz.ty97 : Ty Tryz.prog 97 ⟨.func, 1, 8, [.func]⟩ := ⟨by kernel_rfl⟩
instance Tryz.ty98 : Ty Tryz.prog 98 ⟨.struct [(0, 3)], 1, 8, [.int .i64]⟩ := ⟨by kernel_rfl⟩
instance Tryz.ty99 : Ty Tryz.prog 99 ⟨.struct [(0, 3)], 1, 8, [.int .i64]⟩ := ⟨by kernel_rfl⟩
instance Tryz.ty100 : Ty Tryz.prog 100 ⟨.struct [(0, 9)], 1, 16, [.str]⟩ := ⟨by kernel_rfl⟩
instance Tryz.ty101 : Ty Tryz.prog 101 ⟨.struct [(0, 9)], 1, 16, [.str]⟩ := ⟨by kernel_rfl⟩
instance Tryz.ty102 : Ty Tryz.prog 102 ⟨.struct [(0, 3), (1, 3), (2, 4)], 3, 24, [.int .i64, .int .i64, .bool]⟩ := ⟨by kernel_rfl⟩
instance Tryz.ty103 : Ty Tryz.prog 103 ⟨.struct [(0, 3), (1, 3), (2, 4)], 3, 24, [.int .i64, .int .i64, .bool]⟩ := ⟨by kernel_rfl⟩
instance Tryz.ty104 : Ty Tryz.prog 104 ⟨.func, 1, 8, [.func]⟩ := ⟨by kernel_rfl⟩
instance Tryz.ty105 : Ty Tryz.prog 105 ⟨.func, 1, 8, [.func]⟩ := ⟨by kernel_rfl⟩
instance Tryz.ty106 : Ty Tryz.prog 106 ⟨.func, 1, 8, [.func]⟩ := ⟨by kernel_rfl⟩
instance Tryz.ty107 : Ty Tryz.prog 107 ⟨.func, 1, 8, [.func]⟩ := ⟨by kernel_rfl⟩
instance Tryz.ty108 : Ty Tryz.prog 108 ⟨.func, 1, 8, [.func]⟩ := ⟨by kernel_rfl⟩
instance Tryz.ty109 : Ty Tryz.prog 109 ⟨.func, 1, 8, [.func]⟩ := ⟨by kernel_rfl⟩
instance Tryz.ty110 : Ty Tryz.prog 110 ⟨.map 116 4, 1, 8, [.map]⟩ := ⟨by kernel_rfl⟩
instance Tryz.ty111 : Ty Tryz.prog 111 ⟨.struct [(0, 53), (3, 30), (4, 110)], 5, 72, [.slice, .int .i64, .int .i64, .slice, .map]⟩ := ⟨by kernel_rfl⟩
instance Tryz.ty112 : Ty Tryz.prog 112 ⟨.struct [(0, 53), (3, 30), (4, 110)], 5, 72, [.slice, .int .i64, .int .i64, .slice, .map]⟩ := ⟨by kernel_rfl⟩
instance Tryz.ty113 : Ty Tryz.prog 113 ⟨.func, 1, 8, [.func]⟩ := ⟨by kernel_rfl⟩
instance Tryz.ty114 : Ty Tryz.prog 114 ⟨.func, 1, 8, [.func]⟩ := ⟨by kernel_rfl⟩
instance Tryz.ty115 : Ty Tryz.prog 115 ⟨.struct [(0, 3), (1, 3)], 2, 16, [.int .i64, .int .i64]⟩ := ⟨by kernel_rfl⟩
instance Tryz.ty116 : Ty Tryz.prog 116 ⟨.struct [(0, 3), (1, 3)], 2, 16, [.int .i64, .int .i64]⟩ := ⟨by kernel_rfl⟩
instance Tryz.ty117 : Ty Tryz.prog 117 ⟨.func, 1, 8, [.func]⟩ := ⟨by kernel_rfl⟩
instance Tryz.ty118 : Ty Tryz.prog 118 ⟨.func, 1, 8, [.func]⟩ := ⟨by kernel_rfl⟩
instance Tryz.ty119 : Ty Tryz.prog 119 ⟨.func, 1, 8, [.func]⟩ := ⟨by kernel_rfl⟩
instance Tryz.ty120 : Ty Tryz.prog 120 ⟨.struct [(0, 3), (1, 3)], 2, 16, [.int .i64, .int .i64]⟩ := ⟨by kernel_rfl⟩
instance Tryz.ty121 : Ty Tryz.prog 121 ⟨.struct [(0, 3), (1, 3)], 2, 16, [.int .i64, .int .i64]⟩ := ⟨by kernel_rfl⟩
instance Tryz.ty122 : Ty Tryz.prog 122 ⟨.func, 1, 8, [.func]⟩ := ⟨by kernel_rfl⟩
instance Tryz.ty123 : Ty Tryz.prog 123 ⟨.func, 1, 8, [.func]⟩ := ⟨by kernel_rfl⟩
instance Tryz.ty124 : Ty Tryz.prog 124 ⟨.func, 1, 8, [.func]⟩ := ⟨by kernel_rfl⟩
instance Tryz.ty125 : Ty Tryz.prog 125 ⟨.func, 1, 8, [.func]⟩ := ⟨by kernel_rfl⟩
instance Tryz.ty126 : Ty Tryz.prog 126 ⟨.func, 1, 8, [.func]⟩ := ⟨by kernel_rfl⟩
instance Tryz.ty127 : Ty Tryz.prog 127 ⟨.func, 1, 8, [.func]⟩ := ⟨by kernel_rfl⟩
instance Tryz.ty128 : Ty Tryz.prog 128 ⟨.map 148 4, 1, 8, [.map]⟩ := ⟨by kernel_rfl⟩
instance Tryz.ty129 : Ty Tryz.prog 129 ⟨.slice 150, 1, 24, [.slice]⟩ := ⟨by kernel_rfl⟩
instance Tryz.ty130 : Ty Tryz.prog 130 ⟨.struct [(0, 63), (3, 30), (4, 30), (5, 128), (6, 30), (7, 129)], 8, 160, [.int .i64, .slice, .slice, .slice, .slice, .map, .slice, .slice]⟩ := ⟨by kernel_rfl⟩
instance Tryz.ty131 : Ty Tryz.prog 131 ⟨.struct [(0, 63), (3, 30), (4, 30), (5, 128), (6, 30), (7, 129)], 8, 160, [.int .i64, .slice, .slice, .slice, .slice, .map, .slice, .slice]⟩ := ⟨by kernel_rfl⟩
instance Tryz.ty132 : Ty Tryz.prog 132 ⟨.func, 1, 8, [.func]⟩ := ⟨by kernel_rfl⟩
instance Tryz.ty133 : Ty Tryz.prog 133 ⟨.func, 1, 8, [.func]⟩ := ⟨by kernel_rfl⟩
instance Tryz.ty134 : Ty Tryz.prog 134 ⟨.array 3 132, 3, 24, [.func, .func, .func]⟩ := ⟨by kernel_rfl⟩
instance Tryz.ty135 : Ty Tryz.prog 135 ⟨.func, 1, 8, [.func]⟩ := ⟨by kernel_rfl⟩
instance Tryz.ty136 : Ty Tryz.prog 136 ⟨.func, 1, 8, [.func]⟩ := ⟨by kernel_rfl⟩
instance Tryz.ty137 : Ty Tryz.prog 137 ⟨.func, 1, 8, [.func]⟩ := ⟨by kernel_rfl⟩
instance Tryz.ty138 : Ty Tryz.prog 138 ⟨.array 5 137, 5, 40, [.func, .func, .func, .func, .func]⟩ := ⟨by kernel_rfl⟩
instance Tryz.ty139 : Ty Tryz.prog 139 ⟨.func, 1, 8, [.func]⟩ := ⟨by kernel_rfl⟩
instance Tryz.ty141 : Ty Tryz.prog 141 ⟨.func, 1, 8, [.func]⟩ := ⟨by kernel_rfl⟩
instance Tryz.ty143 : Ty Tryz.prog 143 ⟨.func, 1, 8, [.func]⟩ := ⟨by kernel_rfl⟩
instance Tryz.ty144 : Ty Tryz.prog 144 ⟨.func, 1, 8, [.func]⟩ := ⟨by kernel_rfl⟩
instance Tryz.ty145 : Ty Tryz.prog 145 ⟨.func, 1, 8, [.func]⟩ := ⟨by kernel_rfl⟩
instance Tryz.ty146 : Ty Tryz.prog 146 ⟨.func, 1, 8, [.func]⟩ := ⟨by kernel_rfl⟩
instance Tryz.ty147 : Ty Tryz.prog 147 ⟨.struct [(0, 3), (1, 3)], 2, 16, [.int .i64, .int .i64]⟩ := ⟨by kernel_rfl⟩
instance Tryz.ty148 : Ty Tryz.prog 148 ⟨.struct [(0, 3), (1, 3)], 2, 16, [.int .i64, .int .i64]⟩ := ⟨by kernel_rfl⟩
instance Tryz.ty149 : Ty Tryz.prog 149 ⟨.struct [(0, 3), (1, 3)], 2, 16, [.int .i64, .int .i64]⟩ := ⟨by kernel_rfl⟩
instance Tryz.ty150 : Ty Tryz.prog 150 ⟨.struct [(0, 3), (1, 3)], 2, 16, [.int .i64, .int .i64]⟩ := ⟨by kernel_rfl⟩
instance Tryz.ty151 : Ty Tryz.prog 151 ⟨.func, 1, 8, [.func]⟩ := ⟨by kernel_rfl⟩
instance Tryz.ty152 : Ty Tryz.prog 152 ⟨.struct [(0, 3)], 1, 8, [.int .i64]⟩ := ⟨by kernel_rfl⟩
instance Tryz.ty153 : Ty Tryz.prog 153 ⟨.struct [(0, 3)], 1, 8, [.int .i64]⟩ := ⟨by kernel_rfl⟩
instance Tryz.ty154 : Ty Tryz.prog 154 ⟨.struct [(0, 9)], 1, 16, [.str]⟩ := ⟨by kernel_rfl⟩
instance Tryz.ty155 : Ty Tryz.prog 155 ⟨.struct [(0, 9)], 1, 16, [.str]⟩ := ⟨by kernel_rfl⟩
instance Tryz.ty156 : Ty Tryz.prog 156 ⟨.func, 1, 8, [.func]⟩ := ⟨by kernel_rfl⟩
instance Tryz.ty158 : Ty Tryz.prog 158 ⟨.func, 1, 8, [.func]⟩ := ⟨by kernel_rfl⟩
instance Tryz.ty159 : Ty Tryz.prog 159 ⟨.func, 1, 8, [.func]⟩ := ⟨by kernel_rfl⟩
instance Tryz.ty160 : Ty Tryz.prog 160 ⟨.func, 1, 8, [.func]⟩ := ⟨by kernel_rfl⟩
instance Tryz.ty161 : Ty Tryz.prog 161 ⟨.func, 1, 8, [.func]⟩ := ⟨by kernel_rfl⟩
instance Tryz.ty162 : Ty Tryz.prog 162 ⟨.func, 1, 8, [.func]⟩ := ⟨by kernel_rfl⟩
instance Tryz.ty163 : Ty Tryz.prog 163 ⟨.func, 1, 8, [.func]⟩ := ⟨by kernel_rfl⟩
instance Tryz.ty164 : Ty Tryz.prog 164 ⟨.struct [(0, 3), (1, 3)], 2, 16, [.int .i64, .int .i64]⟩ := ⟨by kernel_rfl⟩
instance Tryz.ty165 : Ty Tryz.prog 165 ⟨.array 2 163, 2, 16, [.func, .func]⟩ := ⟨by kernel_rfl⟩
instance Tryz.ty166 : Ty Tryz.prog 166 ⟨.func, 1, 8, [.func]⟩ := ⟨by kernel_rfl⟩
instance Tryz.ty167 : Ty Tryz.prog 167 ⟨.array 5 166, 5, 40, [.func, .func, .func, .func, .func]⟩ := ⟨by kernel_rfl⟩
instance Tryz.ty168 : Ty Tryz.prog 168 ⟨.struct [(0, 3)], 1, 8, [.int .i64]⟩ := ⟨by kernel_rfl⟩
instance Tryz.ty169 : Ty Tryz.prog 169 ⟨.struct [(0, 3)], 1, 8, [.int .i64]⟩ := ⟨by kernel_rfl⟩
instance Tryz.ty170 : Ty Tryz.prog 170 ⟨.func, 1, 8, [.func]⟩ := ⟨by kernel_rfl⟩
instance Tryz.ty171 : Ty Tryz.prog 171 ⟨.func, 1, 8, [.func]⟩ := ⟨by kernel_rfl⟩
instance Tryz.ty172 : Ty Tryz.prog 172 ⟨.struct [(0, 17), (1, 17), (2, 17), (3, 9)], 4, 40, [.ptr, .ptr, .ptr, .str]⟩ := ⟨by kernel_rfl⟩
instance Tryz.ty173 : Ty Tryz.prog 173 ⟨.struct [(0, 17), (1, 17), (2, 17), (3, 9)], 4, 40, [.ptr, .ptr, .ptr, .str]⟩ := ⟨by kernel_rfl⟩
instance Tryz.ty174 : Ty Tryz.prog 174 ⟨.array 0 16, 0, 0, []⟩ := ⟨by kernel_rfl⟩
instance Tryz.ty175 : Ty Tryz.prog 175 ⟨.struct [(0, 174)], 0, 0, []⟩ := ⟨by kernel_rfl⟩
instance Tryz.ty176 : Ty Tryz.prog 176 ⟨.struct [(0, 174)], 0, 0, []⟩ := ⟨by kernel_rfl⟩
instance Tryz.ty177 : Ty Tryz.prog 177 ⟨.int .u32, 1, 4, [.int .u32]⟩ := ⟨by kernel_rfl⟩
instance Tryz.ty178 : Ty Tryz.prog 178 ⟨.int .u8, 1, 1, [.int .u8]⟩ := ⟨by kernel_rfl⟩
instance Tryz.ty179 : Ty Tryz.prog 179 ⟨.int .u8, 1, 1, [.int .u8]⟩ := ⟨by kernel_rfl⟩
instance Tryz.ty180 : Ty Tryz.prog 180 ⟨.func, 1, 8, [.func]⟩ := ⟨by kernel_rfl⟩
instance Tryz.ty181 : Ty Tryz.prog 181 ⟨.ptr 5, 1, 8, [.ptr]⟩ := ⟨by kernel_rfl⟩
instance Tryz.ty182 : Ty Tryz.prog 182 ⟨.int .i32, 1, 4, [.int .i32]⟩ := ⟨by kernel_rfl⟩
instance Tryz.ty183 : Ty Tryz.prog 183 ⟨.int .i32, 1, 4, [.int .i32]⟩ := ⟨by kernel_rfl⟩
instance Tryz.ty184 : Ty Tryz.prog 184 ⟨.struct [(0, 12), (1, 12), (2, 177), (3, 178), (4, 5), (5, 5), (6, 179), (7, 180), (8, 181), (9, 182), (10, 183)], 11, 48, [.int .u64, .int .u64, .int .u32, .int .u8, .int .u8, .int .u8, .int .u8, .func, .ptr, .int .i32, .int .i32]⟩ := ⟨by kernel_rfl⟩
instance Tryz.ty185 : Ty Tryz.prog 185 ⟨.struct [(0, 12), (1, 12), (2, 177), (3, 178), (4, 5), (5, 5), (6, 179), (7, 180), (8, 181), (9, 182), (10, 183)], 11, 48, [.int .u64, .int .u64, .int .u32, .int .u8, .int .u8, .int .u8, .int .u8, .func, .ptr, .int .i32, .int .i32]⟩ := ⟨by kernel_rfl⟩
instance Tryz.fn2 : FnOk Tryz.prog 2 := fnOk Tryz.func2 rfl (by kernel_rfl)
instance Tryz.fn3 : FnOk Tryz.prog 3 := fnOk Tryz.func3 rfl (by kernel_rfl)
instance Tryz.fn4 : FnOk Tryz.prog 4 := fnOk Tryz.func4 rfl (by kernel_rfl)
instance Tryz.fn5 : FnOk Tryz.prog 5 := fnOk Tryz.func5 rfl (by kernel_rfl)
instance Tryz.fn6 : FnOk Tryz.prog 6 := fnOk Tryz.func6 rfl (by kernel_rfl)
instance Tryz.fn7 : FnOk Tryz.prog 7 := fnOk Tryz.func7 rfl (by kernel_rfl)
instance Tryz.fn8 : FnOk Tryz.prog 8 := fnOk Tryz.func8 rfl (by kernel_rfl)
instance Tryz.fn9 : FnOk Tryz.prog 9 := fnOk Tryz.func9 rfl (by kernel_rfl)
instance Tryz.fn10 : FnOk Tryz.prog 10 := fnOk Tryz.func10 rfl (by kernel_rfl)
instance Tryz.fn11 : FnOk Tryz.prog 11 := fnOk Tryz.func11 rfl (by kernel_rfl)
instance Tryz.fn12 : FnOk Tryz.prog 12 := fnOk Tryz.func12 rfl (by kernel_rfl)
instance Tryz.fn13 : FnOk Tryz.prog 13 := fnOk Tryz.func13 rfl (by kernel_rfl)
instance Tryz.fn14 : FnOk Tryz.prog 14 := fnOk Tryz.func14 rfl (by kernel_rfl)
instance Tryz.fn15 : FnOk Tryz.prog 15 := fnOk Tryz.func15 rfl (by kernel_rfl)
instance Tryz.fn16 : FnOk Tryz.prog 16 := fnOk Tryz.func16 rfl (by kernel_rfl)
instance Tryz.fn17 : FnOk Tryz.prog 17 := fnOk Tryz.func17 rfl (by kernel_rfl)
instance Tryz.fn18 : FnOk Tryz.prog 18 := fnOk Tryz.func18 rfl (by kernel_rfl)
instance Tryz.fn19 : FnOk Tryz.prog 19 := fnOk Tryz.func19 rfl (by kernel_rfl)
instance Tryz.fn20 : FnOk Tryz.prog 20 := fnOk Tryz.func20 rfl (by kernel_rfl)
instance Tryz.fn21 : FnOk Tryz.prog 21 := fnOk Tryz.func21 rfl (by kernel_rfl)
instance Tryz.fn22 : FnOk Tryz.prog 22 := fnOk Tryz.func22 rfl (by kernel_rfl)
instance Tryz.fn23 : FnOk Tryz.prog 23 := fnOk Tryz.func23 rfl (by kernel_rfl)
instance Tryz.fn24 : FnOk Tryz.prog 24 := fnOk Tryz.func24 rfl (by kernel_rfl)
instance Tryz.fn25 : FnOk Tryz.prog 25 := fnOk Tryz.func25 rfl (by kernel_rfl)
instance Tryz.fn26 : FnOk Tryz.prog 26 := fnOk Tryz.func26 rfl (by kernel_rfl)
instance Tryz.fn27 : FnOk Tryz.prog 27 := fnOk Tryz.func27 rfl (by kernel_rfl)
instance Tryz.fn28 : FnOk Tryz.prog 28 := fnOk Tryz.func28 rfl (by kernel_rfl)
instance Tryz.fn29 : FnOk Tryz.prog 29 := fnOk Tryz.func29 rfl (by kernel_rfl)
instance Tryz.fn30 : FnOk Tryz.prog 30 := fnOk Tryz.func30 rfl (by kernel_rfl)
instance Tryz.fn31 : FnOk Tryz.prog 31 := fnOk Tryz.func31 rfl (by kernel_rfl)
instance Tryz.fn32 : FnOk Tryz.prog 32 := fnOk Tryz.func32 rfl (by kernel_rfl)
instance Tryz.fn33 : FnOk Tryz.prog 33 := fnOk Tryz.func33 rfl (by kernel_rfl)
instance Tryz.fn34 : FnOk Tryz.prog 34 := fnOk Tryz.func34 rfl (by kernel_rfl)
instance Tryz.fn35 : FnOk Tryz.prog 35 := fnOk Tryz.func35 rfl (by kernel_rfl)
instance Tryz.fn36 : FnOk Tryz.prog 36 := fnOk Tryz.func36 rfl (by kernel_rfl)
instance Tryz.fn37 : FnOk Tryz.prog 37 := fnOk Tryz.func37 rfl (by kernel_rfl)
instance Tryz.fn38 : FnOk Tryz.prog 38 := fnOk Tryz.func38 rfl (by kernel_rfl)
instance Tryz.fn39 : FnOk Tryz.prog 39 := fnOk Tryz.func39 rfl (by kernel_rfl)
instance Tryz.fn40 : FnOk Tryz.prog 40 := fnOk Tryz.func40 rfl (by kernel_rfl)
instance Tryz.fn41 : FnOk Tryz.prog 41 := fnOk Tryz.func41 rfl (by kernel_rfl)
instance Tryz.fn42 : FnOk Tryz.prog 42 := fnOk Tryz.func42 rfl (by kernel_rfl)
instance Tryz.fn43 : FnOk Tryz.prog 43 := fnOk Tryz.func43 rfl (by kernel_rfl)
instance Tryz.fn44 : FnOk Tryz.prog 44 := fnOk Tryz.func44 rfl (by kernel_rfl)
instance Tryz.fn45 : FnOk Tryz.prog 45 := fnOk Tryz.func45 rfl (by kernel_rfl)
instance Tryz.fn46 : FnOk Tryz.prog 46 := fnOk Tryz.func46 rfl (by kernel_rfl)
instance Tryz.fn47 : FnOk Tryz.prog 47 := fnOk Tryz.func47 rfl (by kernel_rfl)
instance Tryz.fn48 : FnOk Tryz.prog 48 := fnOk Tryz.func48 rfl (by kernel_rfl)
instance Tryz.fn49 : FnOk Tryz.prog 49 := fnOk Tryz.func49 rfl (by kernel_rfl)
instance Tryz.fn50 : FnOk Tryz.prog 50 := fnOk Tryz.func50 rfl (by kernel_rfl)
instance Tryz.fn51 : FnOk Tryz.prog 51 := fnOk Tryz.func51 rfl (by kernel_rfl)
instance Tryz.fn52 : FnOk Tryz.prog 52 := fnOk Tryz.func52 rfl (by kernel_rfl)
instance Tryz.fn53 : FnOk Tryz.prog 53 := fnOk Tryz.func53 rfl (by kernel_rfl)
instance Tryz.fn54 : FnOk Tryz.prog 54 := fnOk Tryz.func54 rfl (by kernel_rfl)
instance Tryz.fn55 : FnOk Tryz.prog 55 := fnOk Tryz.func55 rfl (by kernel_rfl)
instance Tryz.fn56 : FnOk Tryz.prog 56 := fnOk Tryz.func56 rfl (by kernel_rfl)
instance Tryz.fn57 : FnOk Tryz.prog 57 := fnOk Tryz.func57 rfl (by kernel_rfl)
instance Tryz.fn58 : FnOk Tryz.prog 58 := fnOk Tryz.func58 rfl (by kernel_rfl)
instance Tryz.fn59 : FnOk Tryz.prog 59 := fnOk Tryz.func59 rfl (by kernel_rfl)
instance Tryz.fn60 : FnOk Tryz.prog 60 := fnOk Tryz.func60 rfl (by kernel_rfl)
instance Tryz.fn61 : FnOk Tryz.prog 61 := fnOk Tryz.func61 rfl (by kernel_rfl)
instance Tryz.fn62 : FnOk Tryz.prog 62 := fnOk Tryz.func62 rfl (by kernel_rfl)
instance Tryz.fn63 : FnOk Tryz.prog 63 := fnOk Tryz.func63 rfl (by kernel_rfl)
instance Tryz.fn64 : FnOk Tryz.prog 64 := fnOk Tryz.func64 rfl (by kernel_rfl)
instance Tryz.fn65 : FnOk Tryz.prog 65 := fnOk Tryz.func65 rfl (by kernel_rfl)
instance Tryz.fn66 : FnOk Tryz.prog 66 := fnOk Tryz.func66 rfl (by kernel_rfl)
instance Tryz.fn67 : FnOk Tryz.prog 67 := fnOk Tryz.func67 rfl (by kernel_rfl)
instance Tryz.fn68 : FnOk Tryz.prog 68 := fnOk Tryz.func68 rfl (by kernel_rfl)
instance Tryz.fn69 : FnOk Tryz.prog 69 := fnOk Tryz.func69 rfl (by kernel_rfl)
instance Tryz.fn70 : FnOk Tryz.prog 70 := fnOk Tryz.func70 rfl (by kernel_rfl)
instance Tryz.fn71 : FnOk Tryz.prog 71 := fnOk Tryz.func71 rfl (by kernel_rfl)
instance Tryz.fn72 : FnOk Tryz.prog 72 := fnOk Tryz.func72 rfl (by kernel_rfl)
instance Tryz.fn73 : FnOk Tryz.prog 73 := fnOk Tryz.func73 rfl (by kernel_rfl)
instance Tryz.fn74 : FnOk Tryz.prog 74 := fnOk Tryz.func74 rfl (by kernel_rfl)
instance Tryz.fn75 : FnOk Tryz.prog 75 := fnOk Tryz.func75 rfl (by kernel_rfl)
instance Tryz.fn76 : FnOk Tryz.prog 76 := fnOk Tryz.func76 rfl (by kernel_rfl)
instance Tryz.fn77 : FnOk Tryz.prog 77 := fnOk Tryz.func77 rfl (by kernel_rfl)
instance Tryz.fn78 : FnOk Tryz.prog 78 := fnOk Tryz.func78 rfl (by kernel_rfl)
instance Tryz.fn79 : FnOk Tryz.prog 79 := fnOk Tryz.func79 rfl (by kernel_rfl)
instance Tryz.fn80 : FnOk Tryz.prog 80 := fnOk Tryz.func80 rfl (by kernel_rfl)
instance Tryz.fn81 : FnOk Tryz.prog 81 := fnOk Tryz.func81 rfl (by kernel_rfl)
instance Tryz.fn82 : FnOk Tryz.prog 82 := fnOk Tryz.func82 rfl (by kernel_rfl)
instance Tryz.fn83 : FnOk Tryz.prog 83 := fnOk Tryz.func83 rfl (by kernel_rfl)
instance Tryz.fn84 : FnOk Tryz.prog 84 := fnOk Tryz.func84 rfl (by kernel_rfl)
instance Tryz.fn85 : FnOk Tryz.prog 85 := fnOk Tryz.func85 rfl (by kernel_rfl)
instance Tryz.fn86 : FnOk Tryz.prog 86 := fnOk Tryz.func86 rfl (by kernel_rfl)
instance Tryz.fn87 : FnOk Tryz.prog 87 := fnOk Tryz.func87 rfl (by kernel_rfl)
instance Tryz.fn88 : FnOk Tryz.prog 88 := fnOk Tryz.func88 rfl (by kernel_rfl)
instance Tryz.fn89 : FnOk Tryz.prog 89 := fnOk Tryz.func89 rfl (by kernel_rfl)
instance Tryz.fn90 : FnOk Tryz.prog 90 := fnOk Tryz.func90 rfl (by kernel_rfl)
instance Tryz.fn91 : FnOk Tryz.prog 91 := fnOk Tryz.func91 rfl (by kernel_rfl)
instance Tryz.fn92 : FnOk Tryz.prog 92 := fnOk Tryz.func92 rfl (by kernel_rfl)
instance Tryz.fn93 : FnOk Tryz.prog 93 := fnOk Tryz.func93 rfl (by kernel_rfl)
instance Tryz.fn94 : FnOk Tryz.prog 94 := fnOk Tryz.func94 rfl (by kernel_rfl)
instance Tryz.fn95 : FnOk Tryz.prog 95 := fnOk Tryz.func95 rfl (by kernel_rfl)
instance Tryz.fn96 : FnOk Tryz.prog 96 := fnOk Tryz.func96 rfl (by kernel_rfl)
instance Tryz.fn97 : FnOk Tryz.prog 97 := fnOk Tryz.func97 rfl (by kernel_rfl)
instance Tryz.fn98 : FnOk Tryz.prog 98 := fnOk Tryz.func98 rfl (by kernel_rfl)
instance Tryz.fn99 : FnOk Tryz.prog 99 := fnOk Tryz.func99 rfl (by kernel_rfl)
instance Tryz.fn100 : FnOk Tryz.prog 100 := fnOk Tryz.func100 rfl (by kernel_rfl)
instance Tryz.fn101 : FnOk Tryz.prog 101 := fnOk Tryz.func101 rfl (by kernel_rfl)
instance Tryz.fn102 : FnOk Tryz.prog 102 := fnOk Tryz.func102 rfl (by kernel_rfl)
instance Tryz.fn103 : FnOk Tryz.prog 103 := fnOk Tryz.func103 rfl (by kernel_rfl)
instance Tryz.fn104 : FnOk Tryz.prog 104 := fnOk Tryz.func104 rfl (by kernel_rfl)
instance Tryz.fn105 : FnOk Tryz.prog 105 := fnOk Tryz.func105 rfl (by kernel_rfl)
instance Tryz.fn106 : FnOk Tryz.prog 106 := fnOk Tryz.func106 rfl (by kernel_rfl)
theorem Tryz.eql77 : EqL Tryz.prog 2 77 ⟨.struct [(0, 3), (1, 3)], 2, 16, [.int .i64, .int .i64]⟩ := eqL_struct Tryz.ty77 (by kernel_rfl) ⟨rfl, _, Tryz.ty3, fun _ => rfl, (eqL_int Tryz.ty3).mono (by decide), rfl, _, Tryz.ty3, fun _ => rfl, (eqL_int Tryz.ty3).mono (by decide), rfl⟩
instance Tryz.eqc77 : EqC Tryz.prog 77 ⟨.struct [(0, 3), (1, 3)], 2, 16, [.int .i64, .int .i64]⟩ := ⟨⟨2, by decide, Tryz.eql77⟩, by kernel_rfl, rfl⟩
end Go.Proofs



namespace Go.Sx
open Go Go.RowKit

/-! ## Indices that are ints -/

section
variable {x : Cx} {d : Bool} {ops : Array Oper} {rest : List Oper} {ks : List KI} {n : Nat} {m : List (Nat × Value)} {ds : List Deferred} {H H2 : List Seg}
variable {ty : TypeId} {pos : String} {aft : Array Edge} {dd : Nat}

theorem to_ixi {t e b1 b2 : TypeId} {zz : List ZV} {ei : TI} {y i : Operand} {a : Option Addr} {l c0 n0 cap sz : Nat} {q : Int} {xs : List (List Value)} (hy : ev m y = some (.slice a l c0)) (hi : ev m i = some (.int .i64 q))
    [hr : Rd x.w0 H a n0 cap sz xs] [ht : Ty x.P t ⟨.slice e, b1, b2, zz⟩] [he : Ty x.P e ei] (hsz : ei.size = sz) (h0 : 0 ≤ q) (hk : q < l) (hk2 : q < n0) (hd : Nat.blt dd n = true)
    (h : TO x d ops rest ks ⟨n, (dd, .pointer (some (ead a sz q.toNat 0))) :: m, ds⟩ H) :
    TO x d ops (⟨some dd, .indexAddr t y i, ty, pos, aft, none⟩ :: rest) ks ⟨n, m, ds⟩ H := by
  obtain ⟨k, rfl⟩ := Int.eq_ofNat_of_zero_le h0
  exact to_ix hy (by rw [hi]; rfl) hsz (by omega) (by omega) hd h

end

/-! ## Maps from ints to ints -/

def entsOk (es : List MapEntry) : Prop := ∀ e ∈ es, (∃ k, e.key = .int .i64 k) ∧ ∃ v, e.val = .int .i64 v

def mget : List MapEntry → Int → Int
  | [], _ => 0
  | e :: es, k => match e.key, e.val with
    | .int _ k', .int _ v => if k = k' then v else mget es k
    | _, _ => mget es k

def upd (g : Int → Int) (k v : Int) : Int → Int := fun j => if j = k then v else g j

def isM (g : Int → Int) (o : Obj) : Prop := ∃ es c, o = .map es c ∧ entsOk es.toList ∧ ∀ k, mget es.toList k = g k

theorem findNow_get {kk : IntKind} : ∀ {es : List MapEntry} (k : Int) (i : Nat), entsOk es →
    ∃ r, Instr.findNow (.int kk) (.int .i64 k) es i = some r ∧ (match r with | none => mget es k = 0 ∧ ∀ e ∈ es, e.key ≠ .int .i64 k | some (j, v) => v = .int .i64 (mget es k) ∧ ∃ p e q, es = p ++ e :: q ∧ j = i + p.length ∧ e.key = .int .i64 k ∧ ∀ e' ∈ p, e'.key ≠ .int .i64 k)
  | [], k, i, _ => ⟨none, rfl, rfl, fun _ h => by cases h⟩
  | e :: es, k, i, h => by
    obtain ⟨⟨k', hk'⟩, v, hv⟩ := h e (List.mem_cons_self ..)
    by_cases hk : k = k'
    · refine ⟨some (i, e.val), ?_, ?_, [], e, es, rfl, rfl, by rw [hk', hk], fun _ h => by cases h⟩
      · simp [Instr.findNow, Instr.sameNow, hk', hk]
      · simp [mget, hk', hv, hk]
    · obtain ⟨r, h1, h2⟩ := findNow_get (kk := kk) (es := es) k (i + 1) (fun e' he => h e' (List.mem_cons_of_mem _ he))
      refine ⟨r, ?_, ?_⟩
      · have : ((k == k') : Bool) = false := by simpa using hk
        simp [Instr.findNow, Instr.sameNow, hk', this, h1]
      · have hm : mget (e :: es) k = mget es k := by simp [mget, hk', hv, hk]
        have hne : e.key ≠ .int .i64 k := by rw [hk']; intro h; cases h; exact hk rfl
        match r, h2 with
        | none, h2 => exact ⟨hm.trans h2.1, fun e' he => by
            rcases List.mem_cons.1 he with rfl | he
            · exact hne
            · exact h2.2 e' he⟩
        | some (j, u), ⟨h3, p, e1, q, h4, h5, h6, h7⟩ =>
          exact ⟨by rw [hm]; exact h3, e :: p, e1, q, by rw [h4]; rfl, by rw [h5, List.length_cons]; omega, h6, fun e' he => by
            rcases List.mem_cons.1 he with rfl | he
            · exact hne
            · exact h7 e' he⟩

/-- A map that can be read. -/
class Ml (w0 : World) (H : List Seg) (r : Nat) (g : outParam (Int → Int)) : Prop where
  here : ∀ w, St w0 H w → ∃ o, w.heap[r]? = some o ∧ isM g o
instance Ml.own {w0 : World} {H H2 : List Seg} {r : Nat} {g : Int → Int} [ho : OwnAt r H (isM g) H2] : Ml w0 H r g := ⟨fun _ s => s.own_at (b := r)⟩

/-- In the world w1 the block r is a map; it lies from lo to below hi. -/
class Mb (w1 : outParam World) (lo hi : outParam Nat) (r : Nat) (g : outParam (Int → Int)) : Prop where
  lo : lo ≤ r
  hi : r < hi
  here : ∃ o, w1.heap[r]? = some o ∧ isM g o
instance Ml.mb {w0 w1 : World} {lo hi : Nat} {H : List Seg} {r : Nat} {g : Int → Int} [h : Mb w1 lo hi r g] [hs : SnapAt w1 H lo hi] : Ml w0 H r g :=
  ⟨fun w s => by
    obtain ⟨o, h1, h2⟩ := h.here
    exact ⟨o, (s.ok _ hs.mem r h.lo h.hi).trans h1, h2⟩⟩

theorem mb_own {w w' : World} {H H2 : List Seg} {r : Nat} {g : Int → Int} (s : St w H w') [h : OwnAt r H (isM g) H2] [h0 : SnapAt w H2 0 w.heap.size] : Mb w' w.heap.size w'.heap.size r g := by
  have s2 := s.perm h.perm
  obtain ⟨o, h1, h2⟩ := s.own_at (b := r)
  refine ⟨?_, (Array.getElem?_eq_some_iff.1 h1).1, o, h1, h2⟩
  have := (List.pairwise_cons.1 s2.apart).1 _ h0.mem
  rcases this with h3 | h3
  · simp [Seg.hi, Seg.lo] at h3
  · simpa [Seg.hi, Seg.lo] using h3

section
variable {x : Cx} {d : Bool} {ops : Array Oper} {rest : List Oper} {ks : List KI} {n : Nat} {m : List (Nat × Value)} {ds : List Deferred} {H H2 : List Seg}
variable {ty : TypeId} {pos : String} {aft : Array Edge} {dd : Nat}

theorem to_mkm {t : TypeId} (hd : Nat.blt dd n = true)
    (h : ∀ r, TO x false ops rest ks ⟨n, (dd, .map (some r)) :: m, ds⟩ (.own r (isM fun _ => 0) :: H)) :
    TO x false ops (⟨some dd, .makeMap t none, ty, pos, aft, none⟩ :: rest) ks ⟨n, m, ds⟩ H :=
  to_step (fun _ h => by cases h) (fun a w e s => by
    refine ⟨.map (some w.heap.size), w.alloc (.map #[] 0), ?_, _, s.alloc (p := isM fun _ => 0) ⟨#[], 0, rfl, (fun _ h => by cases h), fun _ => rfl⟩, h w.heap.size⟩
    simp only [execOp, Option.map_none, Instr.makeMap, Sem.run_bind, run_newObj, Result.andThen, run_ok]) hd

theorem run_getObj {P : Program} {w : World} {r c : Nat} {es : Array MapEntry} (h : w.heap[r]? = some (.map es c)) : (getObj r).run P w = .ok (.map es c) w := by
  simp [getObj, Sem.run, h]

theorem run_checkKey {P : Program} {w : World} {t b : TypeId} {z : List ZV} {kk : IntKind} [ht : Ty P t ⟨.int kk, 1, b, z⟩] (e : Bool) (k : Int) : (Instr.checkKey e 10000 t (.int .i64 k)).run P w = .ok () w := by
  have : ∀ j, (Instr.checkKey e (j + 1) t (.int .i64 k)).run P w = .ok () w := fun j => by
    simp only [Instr.checkKey, Sem.run_bind, run_underlying ht.int, Result.andThen, run_ok]
  exact this 9999

theorem to_lku {t kt et b1 b2 b3 b4 : TypeId} {zz zk : List ZV} {y i : Operand} {r : Nat} {q : Int} {g : Int → Int} (hy : ev m y = some (.map (some r))) (hi : ev m i = some (.int .i64 q))
    [hm : Ml x.w0 H r g] [ht : Ty x.P t ⟨.map kt et, b1, b2, zz⟩] [hk : Ty x.P kt ⟨.int .i64, 1, b3, zk⟩] [he : Ty x.P et ⟨.int .i64, 1, b4, [.int .i64]⟩] (hd : Nat.blt dd n = true)
    (h : TO x d ops rest ks ⟨n, (dd, .int .i64 (g q)) :: m, ds⟩ H) : TO x d ops (⟨some dd, .lookup t y i false, ty, pos, aft, none⟩ :: rest) ks ⟨n, m, ds⟩ H :=
  to_pure _ (fun _ h => by cases h) (fun a w e s => by
    obtain ⟨o, h1, es, c, rfl, h3, h4⟩ := hm.here w s
    obtain ⟨r', h5, h6⟩ := findNow_get (kk := .i64) q 0 h3
    obtain ⟨v, g1, g2, g3⟩ := run_zeroValue (P := x.P) (w := w) (t := et) (vs := [.int .i64 0])
    have hv : v = .int .i64 0 := by
      cases v with
      | int k z =>
        have := congrArg Array.toList g2
        simp [Value.cells] at this
        exact by rw [this.1, this.2]
      | agg cs => simp [zeroShape, TK.agg] at g3
      | tuple cs => simp [zeroShape] at g3
      | _ => have := congrArg Array.toList g2; simp [Value.cells] at this
    subst hv
    simp only [execOp]; rw [e.ev hy, e.ev hi]
    simp only [Instr.lookup, Sem.run_bind, run_underlying ht.map, Result.andThen, run_getObj h1, run_checkKey, Instr.findKey, run_underlying hk.int, h5, run_ok]
    match r', h6 with
    | none, h6 =>
      have h6' : g q = 0 := (h4 q).symm.trans h6.1
      simp only [Sem.run_bind, g1, Result.andThen, run_ok, Bool.false_eq_true, if_false]; rw [h6']
    | some (j, u), h6 =>
      have h6' : u = .int .i64 (g q) := by rw [← h4]; exact h6.1
      subst h6'
      rfl) hd h

theorem run_setObj {P : Program} {w : World} {r c : Nat} {es : Array MapEntry} {o : Obj} (h : w.heap[r]? = some (.map es c)) : ∃ w', (setObj r o).run P w = .ok () w' ∧ w'.heap[r]? = some o ∧ w'.heap.size = w.heap.size ∧ (∀ k, k ≠ r → w'.heap[k]? = w.heap[k]?) ∧ w'.os = w.os ∧ w'.tape = w.tape ∧ w'.output = w.output := by
  have hlt := (Array.getElem?_eq_some_iff.1 h).1
  refine ⟨{ w with heap := w.heap.setIfInBounds r o }, ?_, ?_, by simp, fun k hk => ?_, rfl, rfl, rfl⟩
  · simp [setObj, Sem.run, h]
  · simp [Array.getElem?_setIfInBounds_self_of_lt hlt]
  · exact Array.getElem?_setIfInBounds_ne (Ne.symm hk)

theorem mget_app {k : Int} : ∀ {p q : List MapEntry}, entsOk p → (∀ e ∈ p, e.key ≠ .int .i64 k) → mget (p ++ q) k = mget q k
  | [], _, _, _ => rfl
  | e :: p, q, h, hn => by
    obtain ⟨⟨k', hk'⟩, v, hv⟩ := h e (List.mem_cons_self ..)
    have hne : ¬ (k = k') := fun hh => hn e (List.mem_cons_self ..) (by rw [hk', hh])
    have := mget_app (p := p) (q := q) (fun e he => h e (List.mem_cons_of_mem _ he)) (fun e he => hn e (List.mem_cons_of_mem _ he))
    simpa [mget, hk', hv, hne] using this

theorem modify_mid {α : Type} : ∀ (p q : List α) (e : α) (f : α → α), (p ++ e :: q).modify p.length f = p ++ f e :: q
  | [], _, _, _ => by simp [List.modify]
  | a :: p, q, e, f => by simp [modify_mid p q e f]

theorem mget_congr {j : Int} {q q' : List MapEntry} : ∀ {p : List MapEntry}, mget q j = mget q' j → mget (p ++ q) j = mget (p ++ q') j
  | [], h => h
  | e :: p, h => by
    have := mget_congr (p := p) h
    simp only [List.cons_append, mget, this]

theorem to_mup {t kt et b1 b2 b3 : TypeId} {zz zk : List ZV} {y i z : Operand} {r : Nat} {q v : Int} {g : Int → Int} (hy : ev m y = some (.map (some r))) (hi : ev m i = some (.int .i64 q)) (hz : ev m z = some (.int .i64 v))
    [ho : OwnAt r H (isM g) H2] [ht : Ty x.P t ⟨.map kt et, b1, b2, zz⟩] [hk : Ty x.P kt ⟨.int .i64, 1, b3, zk⟩]
    (h : TO x false ops rest ks ⟨n, m, ds⟩ (.own r (isM (upd g q v)) :: H2)) : TO x false ops (⟨none, .mapUpdate t y i z, ty, pos, aft, none⟩ :: rest) ks ⟨n, m, ds⟩ H :=
  to_step0 (fun _ h => by cases h) (fun a w e s => by
    have s2 := s.perm ho.perm
    obtain ⟨o, h1, es, c, rfl, h3, h4⟩ := s.own_at (b := r)
    obtain ⟨r', h5, h6⟩ := findNow_get (kk := .i64) q 0 h3
    have fin : ∀ es' c', entsOk es'.toList → (∀ k, mget es'.toList k = upd g q v k) → ∃ w', (setObj r (.map es' c')).run x.P w = .ok () w' ∧ ∃ H', St x.w0 H' w' ∧ TO x false ops rest ks ⟨n, m, ds⟩ H' := fun es' c' hes hg => by
      obtain ⟨w', r1, r2, r3, r4, r5, r6, r7⟩ := run_setObj (P := x.P) (o := .map es' c') h1
      exact ⟨w', r1, _, s2.upd r5 r6 r7 r3 (fun k hk => r4 k (by simp [Seg.lo, Seg.hi] at hk; omega)) (s' := .own r (isM (upd g q v))) rfl rfl ⟨_, r2, es', c', rfl, hes, hg⟩, h⟩
    match r', h5, h6 with
    | none, h5, h6 =>
      obtain ⟨w', hw, hres⟩ := fin (es.push { key := .int .i64 q, val := .int .i64 v, born := c }) (c + 1) (fun e he => by
        simp at he
        rcases he with he | rfl
        · exact h3 e (by simpa using he)
        · exact ⟨⟨q, rfl⟩, v, rfl⟩) (fun k => by
          rw [Array.toList_push]
          simp only [upd]
          by_cases hkq : k = q
          · subst hkq
            rw [if_pos rfl, mget_app h3 h6.2]; simp [mget]
          · rw [if_neg hkq, ← h4, mget_congr (q' := []) (by simp [mget, hkq]), List.append_nil])
      refine ⟨w', ?_, hres⟩
      simp only [execOp]; rw [e.ev hy, e.ev hi, e.ev hz]
      simp only [Instr.mapUpdate, Sem.run_bind, run_underlying ht.map, Result.andThen, run_getObj h1, run_checkKey, Instr.findKey, run_underlying hk.int, h5, run_ok, hw]
    | some (j, u), h5, ⟨h6, p, e1, q', h7, h8, h9, h10⟩ =>
      have hkey : ((es[j]?).map (·.key)).getD (.int .i64 q) = .int .i64 q := by
        rw [← Array.getElem?_toList, h7, h8]; simp [h9]
      obtain ⟨⟨k1, hk1⟩, v1, hv1⟩ := h3 e1 (by rw [h7]; simp)
      have hmod : (es.modify j fun e => { e with key := .int .i64 q, val := .int .i64 v }).toList = p ++ { e1 with key := .int .i64 q, val := .int .i64 v } :: q' := by
        rw [Array.toList_modify, h7, h8, Nat.zero_add]
        exact modify_mid p q' e1 _
      obtain ⟨w', hw, hres⟩ := fin (es.modify j fun e => { e with key := .int .i64 q, val := .int .i64 v }) c (fun e he => by
        rw [hmod] at he
        rcases List.mem_append.1 he with he | he
        · exact h3 e (by rw [h7]; exact List.mem_append_left _ he)
        · rcases List.mem_cons.1 he with rfl | he
          · exact ⟨⟨q, rfl⟩, v, rfl⟩
          · exact h3 e (by rw [h7]; exact List.mem_append_right _ (List.mem_cons_of_mem _ he))) (fun k => by
          rw [hmod]
          simp only [upd]
          by_cases hkq : k = q
          · subst hkq
            rw [if_pos rfl, mget_app (fun e he => h3 e (by rw [h7]; exact List.mem_append_left _ he)) h10]; simp [mget]
          · rw [if_neg hkq, ← h4, h7]
            refine mget_congr ?_
            have hk1q : k1 = q := by rw [hk1] at h9; cases h9; rfl
            simp [mget, hk1, hv1, hk1q, hkq])
      have hks : ∀ w, (Instr.keyThatStays (.int .i64 q) (.int .i64 q)).run x.P w = .ok (.int .i64 q) w := fun w => by
        have : Instr.sameBits 10000 (.int .i64 q) (.int .i64 q) = true := by simp [Instr.sameBits]
        simp only [Instr.keyThatStays, this, if_true, run_ok]
      refine ⟨w', ?_, hres⟩
      simp only [execOp]; rw [e.ev hy, e.ev hi, e.ev hz]
      simp only [Instr.mapUpdate, Sem.run_bind, run_underlying ht.map, Result.andThen, run_getObj h1, run_checkKey, Instr.findKey, run_underlying hk.int, h5, run_ok, hkey, hks, hw])

end
end Go.Sx



namespace Go.Sx
open Go Go.RowKit

/-! ## Regions of memory of which an invariant speaks -/

class RegAt (H : List Seg) (lo hi : outParam Nat) (p : outParam (World → Prop)) (H2 : outParam (List Seg)) : Prop where
  perm : H.Perm (.reg lo hi p :: H2)
instance RegAt.here (lo hi : Nat) (p : World → Prop) (H : List Seg) : RegAt (.reg lo hi p :: H) lo hi p H := ⟨.refl _⟩
instance RegAt.there (t : Seg) (lo hi : Nat) (p : World → Prop) (H H2 : List Seg) [h : RegAt H lo hi p H2] : RegAt (t :: H) lo hi p (t :: H2) := ⟨(h.perm.cons t).trans (.swap ..)⟩

class RoP (p : World → Prop) (lo hi : Nat) (a : Option Addr) (n cap sz : outParam Nat) (xs : outParam (List (List Value))) : Prop where
  ro : ∀ w, p w → Ro w lo hi a n cap sz xs
class RbP (p : World → Prop) (lo hi : Nat) (b : Nat) (cs : outParam (List Value)) : Prop where
  rb : ∀ w, p w → Rb w lo hi b cs

theorem St.reg_at {w0 w : World} {H H2 : List Seg} {lo hi : Nat} {p : World → Prop} (s : St w0 H w) [h : RegAt H lo hi p H2] : hi ≤ w.heap.size ∧ ∃ w1, p w1 ∧ ∀ k, lo ≤ k → k < hi → w.heap[k]? = w1.heap[k]? :=
  ⟨s.le (.reg lo hi p) (h.perm.mem_iff.2 (List.mem_cons_self ..)), s.ok (.reg lo hi p) (h.perm.mem_iff.2 (List.mem_cons_self ..))⟩

instance Rd.reg {w0 : World} {lo hi : Nat} {H H2 : List Seg} {p : World → Prop} {a : Option Addr} {n cap sz : Nat} {xs : List (List Value)} [hg : RegAt H lo hi p H2] [h : RoP p lo hi a n cap sz xs] : Rd w0 H a n cap sz xs :=
  ⟨fun w s => by
    obtain ⟨h1, w1, h2, h3⟩ := s.reg_at (lo := lo) (hi := hi) (p := p)
    exact (h.ro w1 h2).mono (Nat.zero_le _) h1 (fun k h4 h5 => h3 k h4 h5)⟩

instance Cl.reg {w0 : World} {lo hi : Nat} {H H2 : List Seg} {p : World → Prop} {b : Nat} {cs : List Value} [hg : RegAt H lo hi p H2] [h : RbP p lo hi b cs] : Cl w0 H b cs :=
  ⟨fun w s o v hv => by
    obtain ⟨h1, w1, h2, h3⟩ := s.reg_at (lo := lo) (hi := hi) (p := p)
    obtain ⟨h4, h5, t, h6⟩ := h.rb w1 h2
    have h7 := (h3 b h4 h5).trans h6
    simp [World.cell?, h7, hv]⟩

/-! ## What calls may do to such a region -/

structure Keep (B : Nat) (w w' : World) : Prop where
  os : w'.os = w.os
  tape : w'.tape = w.tape
  output : w'.output = w.output
  size : w.heap.size ≤ w'.heap.size
  block : ∀ k, B ≤ k → k < w.heap.size → w'.heap[k]? = w.heap[k]?

theorem Keep.refl (B : Nat) (w : World) : Keep B w w := ⟨rfl, rfl, rfl, Nat.le_refl _, fun _ _ _ => rfl⟩
theorem Keep.trans {B : Nat} {w w1 w2 : World} (h : Keep B w w1) (k : Keep B w1 w2) : Keep B w w2 :=
  ⟨k.os.trans h.os, k.tape.trans h.tape, k.output.trans h.output, Nat.le_trans h.size k.size, fun j h1 h2 => (k.block j h1 (Nat.lt_of_lt_of_le h2 h.size)).trans (h.block j h1 h2)⟩

def Cong (B : Nat) (p : World → Prop) : Prop := ∀ w w', p w → (∀ k, k < B → w'.heap[k]? = w.heap[k]?) → p w'

/-- Kept by whatever only adds blocks. -/
def CongS (q : World → Prop) : Prop := ∀ w w', q w → w.heap.size ≤ w'.heap.size → (∀ k, k < w.heap.size → w'.heap[k]? = w.heap[k]?) → q w'

theorem St.all {w0 w' : World} (h : w'.os = w0.os ∧ w'.tape = w0.tape ∧ w'.output = w0.output ∧ w0.heap.size ≤ w'.heap.size) : St w0 [.snap 0 w'.heap.size w'] w' :=
  ⟨h.1, h.2.1, h.2.2.1, h.2.2.2, fun s hs => by simp at hs; subst hs; exact Nat.le_refl _, fun s hs => by simp at hs; subst hs; exact fun _ _ _ => rfl, by simp⟩

/-- A call that says yes and leaves p, or no and leaves q. -/
def ItPost (B : Nat) (p q : World → Prop) (w : World) : Ending → World → Prop := fun e w' => ∃ bb, e = .returned (.bool bb) ∧ Keep B w w' ∧ (match bb with | true => p w' | false => q w')

/-- The call of a range's yield. -/
def YC (P : Program) (l : Nat) (args : Array Value) (w : World) (R : Ending → World → Prop) : Prop :=
  ∃ f tmps assign body, (Instr.yield l args).run P w = .ok (.round l f tmps assign body) w ∧ RoundIn (WF none) 0 P l f tmps assign body w R

theorem St.turn {w0 w w' : World} {B : Nat} {p q : World → Prop} {H : List Seg} (h : St w0 (.reg 0 B p :: H) w) (k : Keep B w w') (hq : q w') : St w0 (.reg 0 B q :: H) w' := by
  have hB := h.le _ (List.mem_cons_self ..)
  have hap := List.pairwise_cons.1 h.apart
  refine ⟨k.os.trans h.os, k.tape.trans h.tape, k.output.trans h.output, Nat.le_trans h.ge k.size, ?_, ?_, ?_⟩
  · intro s hs
    rcases List.mem_cons.1 hs with rfl | hs
    · exact Nat.le_trans hB k.size
    · exact Nat.le_trans (h.le s (List.mem_cons_of_mem _ hs)) k.size
  · intro s hs
    rcases List.mem_cons.1 hs with rfl | hs
    · exact ⟨w', hq, fun _ _ _ => rfl⟩
    · refine Seg.ok_congr (fun j h1 h2 => k.block j ?_ (Nat.lt_of_lt_of_le h2 (h.le s (List.mem_cons_of_mem _ hs)))) (h.ok s (List.mem_cons_of_mem _ hs))
      rcases hap.1 s hs with h3 | h3
      · exact Nat.le_trans h3 h1
      · have h4 : s.hi ≤ 0 := h3
        omega
  · exact List.pairwise_cons.2 ⟨hap.1, hap.2⟩

theorem St.regp {w0 w : World} {H H2 : List Seg} {B : Nat} {p : World → Prop} (s : St w0 H w) [h : RegAt H 0 B p H2] (hc : Cong B p) : p w := by
  obtain ⟨_, w1, h2, h3⟩ := s.reg_at (lo := 0) (hi := B) (p := p)
  exact hc w1 w h2 (fun k hk => h3 k (Nat.zero_le _) hk)

/-- A row of the call's own lies above the region. -/
theorem ro_rowB {w0 w : World} {H H2 H3 : List Seg} {a : Option Addr} {n cap t sz B : Nat} {p : World → Prop} {xs : List (List Value)} (s : St w0 H w) [h : RowAt a H n cap t sz xs H2] [h0 : RegAt H2 0 B p H3] : Ro w B w.heap.size a n cap sz xs := by
  have s2 := s.perm h.perm
  have hro := RowOk.ro (s2.ok _ (List.mem_cons_self ..))
  refine ⟨hro.len, hro.each, hro.le, ?_⟩
  rcases hro.here with h1 | ⟨ad, h1, h2, h3, h4, h5⟩
  · exact .inl h1
  · refine .inr ⟨ad, h1, h2, ?_, h4, h5⟩
    have := (List.pairwise_cons.1 s2.apart).1 (.reg 0 B p) (h0.perm.mem_iff.2 (List.mem_cons_self ..))
    subst h1
    rcases this with h6 | h6
    · simp [Seg.hi, Seg.lo] at h6
    · simpa [Seg.hi, Seg.lo] using h6

theorem rb_ownB {w0 w : World} {H H2 H3 : List Seg} {b B : Nat} {cs : List Value} {te : TypeId} {p : World → Prop} (s : St w0 H w) [h : OwnAt b H (isC cs te) H2] [h0 : RegAt H2 0 B p H3] : Rb w B w.heap.size b cs := by
  have s2 := s.perm h.perm
  obtain ⟨h1, h2, h3⟩ := rbw (te := te) s (b := b) (cs := cs)
  refine ⟨?_, h2, h3⟩
  have := (List.pairwise_cons.1 s2.apart).1 (.reg 0 B p) (h0.perm.mem_iff.2 (List.mem_cons_self ..))
  rcases this with h6 | h6
  · simp [Seg.hi, Seg.lo] at h6
  · simpa [Seg.hi, Seg.lo] using h6

theorem rb_snap {w0 w w1 : World} {lo hi : Nat} {H : List Seg} {b : Nat} {cs : List Value} (s : St w0 H w) [h : Rb w1 lo hi b cs] [hs : SnapAt w1 H lo hi] : Rb w lo w.heap.size b cs := by
  obtain ⟨t, h1⟩ := h.here
  have h2 := (s.ok _ hs.mem b h.lo h.hi).trans h1
  exact ⟨h.lo, (Array.getElem?_eq_some_iff.1 h2).1, t, h2⟩

theorem ro_snapB {w0 w w1 : World} {H : List Seg} {lo hi : Nat} {a : Option Addr} {n cap sz : Nat} {xs : List (List Value)} (s : St w0 H w) [h : Ro w1 lo hi a n cap sz xs] [hs : SnapAt w1 H lo hi] : Ro w lo w.heap.size a n cap sz xs :=
  h.mono (Nat.le_refl _) (s.le _ hs.mem) (fun k h1 h2 => s.ok _ hs.mem k h1 h2)

section calls
variable {x : Cx} {ops : Array Oper} {rest : List Oper} {ks : List KI} {n : Nat} {m : List (Nat × Value)} {ds : List Deferred} {H H2 : List Seg}
variable {ty : TypeId} {pos : String} {aft : Array Edge} {dd : Nat}

theorem to_callI {f B : Nat} {g : Operand} {l : List Operand} {ts : Array TypeId} {f0 c0 av : List Value} {p p1 q : World → Prop} (hg : ev m g = some (.func (.func f) f0.toArray c0.toArray)) [FnOk x.P f] (hl : evs m l = some av) [hr : RegAt H 0 B p H2]
    (hc : ∀ w, St x.w0 H w → Calls x.P f (f0 ++ (av ++ c0)).toArray w (ItPost B p1 q w)) (hd : Nat.blt dd n = true)
    (ht : TO x false ops rest ks ⟨n, (dd, .bool true) :: m, ds⟩ (.reg 0 B p1 :: H2)) [hsn : SnapAt x.w0 H B x.w0.heap.size] (hf : ∀ w', q w' → Keep B x.w0 w' → TO x false ops rest ks ⟨n, (dd, .bool false) :: m, ds⟩ [.snap 0 w'.heap.size w']) :
    TO x false ops (⟨some dd, .call ⟨.value g, l.toArray, ts⟩, ty, pos, aft, none⟩ :: rest) ks ⟨n, m, ds⟩ H := by
  intro a w e s
  refine wpListIn_plain rfl fun K hK => ?_
  refine ⟨fun _ _ => trivial, ?_⟩
  rw [Oper.semAt_eq _ _ _ (fun _ h => by cases h), exec_call (e.ev hg) (e.evs hl)]
  refine ⟨(fun h => by cases h), callsIn_WF ((hc w s).mono ?_)⟩
  rintro _ w' ⟨bb, rfl, hk, hb⟩
  cases bb with
  | true => exact hK _ _ (ht _ _ (e.put hd _) ((s.perm hr.perm).turn hk hb))
  | false =>
    have hk2 : Keep B x.w0 w' := Keep.trans ⟨s.os, s.tape, s.output, s.ge, fun k h1 h2 => s.ok _ hsn.mem k h1 h2⟩ hk
    exact hK _ _ (hf w' hb hk2 _ _ (e.put hd _) (St.all ⟨hk2.os, hk2.tape, hk2.output, hk2.size⟩))

theorem exec_yield {a : Act} {g : Operand} {l : List Operand} {ts : Array TypeId} {dst : Option Nat} {w : World} {P : Program} {y : Nat} {av : List Value} (hg : a.eval g = .func (.yield y) #[] #[]) (hl : l.map a.eval = av) :
    (execOp a.eval ⟨dst, .call ⟨.value g, l.toArray, ts⟩, ty, pos, aft, none⟩).run P w = (Instr.yield y av.toArray).run P w := by
  simp only [execOp, resolve, List.map_toArray, hl, hg, Deferred.ofValue, Sem.run_bind, run_ok, Result.andThen, invoke]
  simp

theorem to_callY {y B : Nat} {g : Operand} {l : List Operand} {ts : Array TypeId} {av : List Value} {p p1 q : World → Prop} (hg : ev m g = some (.func (.yield y) #[] #[])) (hl : evs m l = some av) [hr : RegAt H 0 B p H2] (hx : x.r = none)
    (hc : ∀ w, St x.w0 H w → YC x.P y av.toArray w (ItPost B p1 q w)) (hd : Nat.blt dd n = true)
    (ht : TO x false ops rest ks ⟨n, (dd, .bool true) :: m, ds⟩ (.reg 0 B p1 :: H2)) [hsn : SnapAt x.w0 H B x.w0.heap.size] (hf : ∀ w', q w' → Keep B x.w0 w' → TO x false ops rest ks ⟨n, (dd, .bool false) :: m, ds⟩ [.snap 0 w'.heap.size w']) :
    TO x false ops (⟨some dd, .call ⟨.value g, l.toArray, ts⟩, ty, pos, aft, none⟩ :: rest) ks ⟨n, m, ds⟩ H := by
  intro a w e s
  refine wpListIn_plain rfl fun K hK => ?_
  refine ⟨fun _ _ => trivial, ?_⟩
  rw [Oper.semAt_eq _ _ _ (fun _ h => by cases h), exec_yield (e.ev hg) (e.evs hl)]
  obtain ⟨f, tmps, asg, body, h1, h2⟩ := hc w s
  rw [h1]
  refine ⟨(fun h => by cases h), ?_⟩
  rw [hx]
  refine h2.mono ?_
  rintro _ w' ⟨bb, rfl, hk, hb⟩
  cases bb with
  | true => exact hK _ _ (ht _ _ (e.put hd _) ((s.perm hr.perm).turn hk hb))
  | false =>
    have hk2 : Keep B x.w0 w' := Keep.trans ⟨s.os, s.tape, s.output, s.ge, fun k h1 h2 => s.ok _ hsn.mem k h1 h2⟩ hk
    exact hK _ _ (hf w' hb hk2 _ _ (e.put hd _) (St.all ⟨hk2.os, hk2.tape, hk2.output, hk2.size⟩))

end calls
end Go.Sx



namespace Go.Sx
open Go Go.RowKit

theorem calls_TG {P : Program} {f : Nat} {fn : Func} {c : Code} {av : List Value} {w : World} {R : Ending → World → Prop} {H : List Seg} (hf : P.funcs[f]? = some fn) (hb : fn.body = some c) (hn : Nat.ble av.length fn.ntmps = true)
    {m0 : List (Nat × Value)} (hm : argEnv 0 av = m0) (hs : St w H w) (h : T ⟨P, none, w, bodyPost P fn R⟩ [] c ⟨fn.ntmps, m0, []⟩ H) : Calls P f av.toArray w R := by
  refine calls_of_wp hf hb ?_
  rw [← wpIn_wide (n := 0), ← WF_none]
  have hle : av.length ≤ fn.ntmps := Nat.le_of_ble_eq_true hn
  refine h _ w ⟨by simp; omega, rfl, fun s v hs => ?_⟩ hs
  subst hm
  obtain ⟨_, h2⟩ := argEnv_get av 0 s v hs
  rw [Nat.sub_zero] at h2
  have hlt : s < av.length := (List.getElem?_eq_some_iff.1 h2).1
  rw [Array.getElem?_append_left (by simpa using hlt)]
  simpa using h2

section rets
variable {P : Program} {fn : Func} {w : World} {R : Ending → World → Prop} {ks : List KI} {E : Env} {H : List Seg}

theorem t_ret0G (hr : fn.results = #[]) (hds : E.ds = []) (hR : ∀ w', St w H w' → R (.returned (.tuple #[])) w') : T ⟨P, none, w, bodyPost P fn R⟩ ks .ret E H :=
  t_ret (fun a w' e s => show a.defers = [] ∧ _ from ⟨e.ds.trans hds, _, run_results (l := []) (vs := []) hr rfl (fun i r v h => by simp at h), hR w' s⟩)
theorem t_end0G (hr : fn.results = #[]) (hds : E.ds = []) (hR : ∀ w', St w H w' → R (.returned (.tuple #[])) w') : TX ⟨P, none, w, bodyPost P fn R⟩ .normal [] E H :=
  tn_nil (fun a w' e s => show a.defers = [] ∧ _ from ⟨e.ds.trans hds, _, run_results (l := []) (vs := []) hr rfl (fun i r v h => by simp at h), hR w' s⟩)
theorem t_ret1G {r : ResultVar} {v : Value} (hr : fn.results = #[r]) (hds : E.ds = []) (h1 : ResOk P w E H r v) (hR : ∀ w', St w H w' → R (.returned v) w') : T ⟨P, none, w, bodyPost P fn R⟩ ks .ret E H :=
  t_ret (fun a w' e s => show a.defers = [] ∧ _ from ⟨e.ds.trans hds, v, run_results (l := [r]) (vs := [v]) hr rfl (fun i r' v' h h' => by
    cases i with
    | zero => cases h; cases h'; exact h1 a w' e s
    | succ i => simp at h), hR w' s⟩)
end rets

/-- The start of a walk over a region of which an invariant speaks. -/
theorem St.startB {w : World} {B : Nat} {p : World → Prop} (hB : B ≤ w.heap.size) (hp : p w) : St w [.reg 0 B p, .snap B w.heap.size w] w := by
  refine ⟨rfl, rfl, rfl, Nat.le_refl _, fun s hs => ?_, fun s hs => ?_, ?_⟩
  · simp at hs
    rcases hs with rfl | rfl
    · exact hB
    · exact Nat.le_refl _
  · simp at hs
    rcases hs with rfl | rfl
    · exact ⟨w, hp, fun _ _ _ => rfl⟩
    · exact fun _ _ _ => rfl
  · simp [Seg.apart, Seg.lo, Seg.hi]

theorem keep_of {w w' : World} {B : Nat} {H : List Seg} (s : St w H w') [hs : SnapAt w H B w.heap.size] : Keep B w w' :=
  ⟨s.os, s.tape, s.output, s.ge, fun k h1 h2 => s.ok _ hs.mem k h1 h2⟩

theorem itp {w w' : World} {B : Nat} {p q r : World → Prop} {H H2 : List Seg} (bb : Bool) (s : St w H w') [h : RegAt H 0 B r H2] [hs : SnapAt w H B w.heap.size] (hc : Cong B r) (hr : r = match bb with | true => p | false => q) : ItPost B p q w (.returned (.bool bb)) w' := by
  refine ⟨bb, rfl, keep_of s, ?_⟩
  subst hr
  cases bb <;> exact s.regp hc

theorem keep_all {w w' w2 : World} {B : Nat} (s : St w [.snap 0 w'.heap.size w'] w2) (hk : Keep B w w') : Keep B w w2 :=
  hk.trans ⟨s.os.trans hk.os.symm, s.tape.trans hk.tape.symm, s.output.trans hk.output.symm, s.le _ (List.mem_cons_self ..), fun k _ h2 => s.ok (.snap 0 w'.heap.size w') (List.mem_cons_self ..) k (Nat.zero_le _) h2⟩

theorem q_all {w w' w2 : World} {q : World → Prop} (s : St w [.snap 0 w'.heap.size w'] w2) (hq : q w') (hc : CongS q) : q w2 :=
  hc w' w2 hq (s.le _ (List.mem_cons_self ..)) (fun k h2 => s.ok (.snap 0 w'.heap.size w') (List.mem_cons_self ..) k (Nat.zero_le _) h2)

theorem itpF {w w' w2 : World} {B : Nat} {p q : World → Prop} (s : St w [.snap 0 w'.heap.size w'] w2) (hq : q w') (hk : Keep B w w') (hc : CongS q) : ItPost B p q w (.returned (.bool false)) w2 :=
  ⟨false, rfl, keep_all s hk, q_all s hq hc⟩

/-- What lay there at the start is there still. -/
theorem sub_all {w w' w2 : World} {B : Nat} (hk : Keep B w w') (s : St w [.snap 0 w'.heap.size w'] w2) : St w [.snap B w.heap.size w] w2 := by
  have hk2 := keep_all s hk
  refine ⟨s.os, s.tape, s.output, s.ge, fun q hq => ?_, fun q hq => ?_, by simp⟩
  · simp at hq; subst hq; exact hk2.size
  · simp at hq; subst hq; exact fun k h1 h2 => hk2.block k h1 h2

section app
variable {x : Cx} {d : Bool} {ops : Array Oper} {rest : List Oper} {ks : List KI} {n : Nat} {m : List (Nat × Value)} {ds : List Deferred} {H H2 : List Seg}
variable {ty : TypeId} {pos : String} {aft : Array Edge} {dd : Nat}

/-- 'append(y[:n:n], z...)': a slice without room is copied. -/
theorem to_appF {t t2 e e2 b1 b2 b3 b4 : TypeId} {zz zz2 : List ZV} {ek : TK} {sz bb : Nat} {ez : List ZV} {y z : Operand} {a b : Option Addr} {n0 k0 c0 k1 : Nat} {xs ys : List (List Value)} {n1 c1 cap1 : Nat}
    (hy : ev m y = some (.slice a n0 n0)) (hz : ev m z = some (.slice b n1 c1)) [hro : Rd x.w0 H a k0 c0 sz xs] (hk0 : k0 = n0) [hq : Rd x.w0 H b k1 cap1 sz ys] (hk1 : k1 = n1) (hn1 : 0 < n1)
    [ht : Ty x.P t ⟨.slice e, b1, b2, zz⟩] [ht2 : Ty x.P t2 ⟨.slice e2, b3, b4, zz2⟩] [he : Ty x.P e ⟨ek, sz, bb, ez⟩] (hbb : 0 < bb) (hb : (n0 + n1) * bb ≤ 1099511627776) (hb2 : bb ≤ 65536)
    (hd : Nat.blt dd n = true) (h : ∀ a' cap', TO x false ops rest ks ⟨n, (dd, .slice a' (n0 + n1) cap') :: m, ds⟩ (.row a' (n0 + n1) cap' e sz (xs ++ ys) :: H)) :
    TO x false ops (⟨some dd, .call ⟨.builtin .append, #[y, z], #[t, t2]⟩, ty, pos, aft, none⟩ :: rest) ks ⟨n, m, ds⟩ H :=
  to_step (fun _ h => by cases h) (fun a' w ea s => by
    subst hk0; subst hk1
    have hr0 := hro.rd w s
    have hrq := hq.rd w s
    have h1 : xs.length = k0 := hr0.len
    have hyl : ys.length = k1 := hrq.len
    have hxy : ∀ y ∈ xs ++ ys, y.length = sz := fun y hy => by
      rcases List.mem_append.1 hy with hy | hy
      · exact hr0.each y hy
      · exact hrq.each y hy
    obtain ⟨ti, vz, g1, g2, g3, g4, g5, g6⟩ := he.info
    simp only at g2 g3 g5
    have hti : ∀ w, (typeInfo e).run x.P w = .ok ti w := fun w => by simp [typeInfo, program, g1, Sem.run, Bind.bind, Sem.bind, pure]
    have hzv : ∀ w, (zeroValue e).run x.P w = .ok vz w := fun w => by simp [zeroValue, typeInfo, program, g1, g4, Sem.run, Bind.bind, Sem.bind, pure]
    have hvzs : vz.cells.size = sz := by
      have := congrArg List.length g5
      rw [List.length_map, he.zeroLen] at this
      simpa using this
    have hhead : ∀ (v : Value) (w' : World), (Builtin.append_ #[t, t2] ty #[.slice a k0 k0, .slice b k1 c1]).run x.P w = .ok v w' →
        (execOp a'.eval ⟨some dd, .call ⟨.builtin .append, #[y, z], #[t, t2]⟩, ty, pos, aft, none⟩).run x.P w = .ok (.value v) w' := by
      intro v w' hv
      simp only [execOp, resolve, List.map_toArray, List.map_cons, List.map_nil, ea.ev hy, ea.ev hz, Sem.run_bind, run_ok, Result.andThen, invoke, builtin]
      rw [hv]
    have hcap : ¬ (k0 + k1 ≤ k0) := by omega
    have hb3 : ti.bytes = bb := g3
    have hn63 : k0 + k1 < 2 ^ 40 + 1 := by
      have : k0 + k1 ≤ (k0 + k1) * bb := Nat.le_mul_of_pos_right _ hbb
      omega
    have hnb : ¬ (Builtin.nextslicecap (k0 + k1) k0 * ti.bytes > 2 ^ 48) := by
      have h7 := nextslicecap_le (k0 + k1) k0 (by omega)
      have h8 : Builtin.nextslicecap (k0 + k1) k0 * bb ≤ (2 * (k0 + k1) + 768) * bb := Nat.mul_le_mul_right _ h7
      have h9 : (2 * (k0 + k1) + 768) * bb = 2 * ((k0 + k1) * bb) + 768 * bb := by rw [Nat.add_mul, Nat.mul_assoc]
      rw [hb3]; omega
    have hno : ¬ (((k0 + k1 : Nat) : Int) > IntKind.i64.max ∧ (False ∨ ti.bytes = 0)) := by
      rintro ⟨_, h | h⟩
      · cases h
      · omega
    obtain ⟨c, hc1, hc2⟩ := run_choose_cap (P := x.P) (w := w) (k0 + k1) k0 e (by omega)
    have s3 := s.drew
    have hro' : Ro w.drew 0 w.drew.heap.size a k0 c0 sz xs := hr0.mono (Nat.le_refl _) (Nat.le_refl _) (fun _ _ _ => rfl)
    have hrq' : Ro w.drew 0 w.drew.heap.size b k1 cap1 sz ys := hrq.mono (Nat.le_refl _) (Nat.le_refl _) (fun _ _ _ => rfl)
    have hask : ∀ w, (askRoom (c * ti.bytes)).run x.P w = .ok () w := fun w => by unfold askRoom; split <;> rfl
    have hO : Obj.cells (xs.flatten.toArray ++ ys.flatten.toArray ++ Builtin.zeroCells vz.cells (c - (k0 + k1))) e = .cells ((xs ++ ys).flatten ++ (Builtin.zeroCells vz.cells (c - (k0 + k1))).toList).toArray e := by
      congr 1
      apply Array.toList_inj.1; simp
    refine ⟨.slice (some ⟨w.heap.size, 0, none⟩) (k0 + k1) c, w.drew.alloc (.cells (xs.flatten.toArray ++ ys.flatten.toArray ++ Builtin.zeroCells vz.cells (c - (k0 + k1))) e), hhead _ _ ?_, .row (some ⟨w.heap.size, 0, none⟩) (k0 + k1) c e sz (xs ++ ys) :: H, ?_, h _ _⟩
    · simp only [Builtin.append_, List.getElem?_toArray, List.getElem?_cons_zero, List.getElem?_cons_succ, Sem.run_bind, run_underlying ht.slice, run_underlying ht2.slice, Result.andThen, he.sizeOf, run_ok, Bool.false_eq_true, if_false, Builtin.lenOf, if_neg hcap, Bool.not_false, if_true, hti, if_neg hno, if_neg hnb, hc2, hask, run_firstCells hro', run_firstCells hrq', hzv, newRow, run_newObj]
      rfl
    · rw [hO]
      exact s3.newrow (by simp [h1, hyl]) hxy hc1 (by rw [Array.length_toList, zeroCells_size, hvzs])) hd

end app
end Go.Sx



namespace Go.Sx
open Go Go.RowKit

/-! ## Ranges over functions -/

structure LKey where
  n : Nat
  m : List (Nat × Value)
  p : Nat
  asg : Code
  body : Code

/-- The record of a loop with one variable. -/
def isLp (K : LKey) (st : LoopState) (pend : Option Code) (o : Obj) : Prop :=
  ∃ fn tmps df, o = .loop { state := st, pending := pend, fn, tmps, params := #[K.p], assign := K.asg, body := K.body, defers := df } ∧ Env.ok ⟨K.n, K.m, []⟩ ⟨tmps, []⟩

def isDf (o : Obj) : Prop := o = .deferred (some [])

def Seg.rng (s : Seg) : Nat × Nat := (s.lo, s.hi)

def StB (B : Nat) (H : List Seg) (w : World) : Prop := (∀ s ∈ H, s.hi ≤ B) ∧ (∀ s ∈ H, s.ok w) ∧ H.Pairwise Seg.apart

theorem stB_cong {B : Nat} {H : List Seg} : Cong B (StB B H) := fun _ _ h hk => ⟨h.1, fun s hs => Seg.ok_congr (fun k _ h2 => hk k (Nat.lt_of_lt_of_le h2 (h.1 s hs))) (h.2.1 s hs), h.2.2⟩

theorem stb_rb {B : Nat} {H : List Seg} {w w1 : World} {lo hi : Nat} {b : Nat} {cs : List Value} (s : StB B H w) [h : Rb w1 lo hi b cs] [hs : SnapAt w1 H lo hi] : Rb w 0 B b cs := by
  obtain ⟨t, h1⟩ := h.here
  have h2 := (s.2.1 _ hs.mem b h.lo h.hi).trans h1
  exact ⟨Nat.zero_le _, Nat.lt_of_lt_of_le h.hi (s.1 _ hs.mem), t, h2⟩

theorem stb_ro {B : Nat} {H : List Seg} {w w1 : World} {lo hi : Nat} {a : Option Addr} {n cap sz : Nat} {xs : List (List Value)} (s : StB B H w) [h : Ro w1 lo hi a n cap sz xs] [hs : SnapAt w1 H lo hi] : Ro w 0 B a n cap sz xs :=
  h.mono (Nat.zero_le _) (s.1 _ hs.mem) (fun k h1 h2 => s.2.1 _ hs.mem k h1 h2)

theorem St.stB {w0 w : World} {H : List Seg} (s : St w0 H w) : StB w.heap.size H w := ⟨s.le, s.ok, s.apart⟩

theorem rb_own0 {w w' : World} {H H2 : List Seg} {b : Nat} {cs : List Value} {te : TypeId} (s : St w H w') [h : OwnAt b H (isC cs te) H2] [h0 : SnapAt w H2 0 w.heap.size] : Rb w' w.heap.size w'.heap.size b cs := by
  have s2 := s.perm h.perm
  obtain ⟨h1, h2, h3⟩ := rbw (te := te) s (b := b) (cs := cs)
  refine ⟨?_, h2, h3⟩
  have := (List.pairwise_cons.1 s2.apart).1 _ h0.mem
  rcases this with h6 | h6
  · simp [Seg.hi, Seg.lo] at h6
  · simpa [Seg.hi, Seg.lo] using h6

/-- A round begins: all that the invariant speaks of, and what lies above it. -/
theorem StB.start {B : Nat} {H : List Seg} {w : World} (s : StB B H w) (hB : B ≤ w.heap.size) : St w (.snap B w.heap.size w :: H) w := by
  refine ⟨rfl, rfl, rfl, Nat.le_refl _, fun q hq => ?_, fun q hq => ?_, ?_⟩
  · rcases List.mem_cons.1 hq with rfl | hq
    · exact Nat.le_refl _
    · exact Nat.le_trans (s.1 q hq) hB
  · rcases List.mem_cons.1 hq with rfl | hq
    · exact fun _ _ _ => rfl
    · exact s.2.1 q hq
  · exact List.pairwise_cons.2 ⟨fun q hq => .inr (s.1 q hq), s.2.2⟩

/-- A round's end. -/
theorem St.toB {B : Nat} {w w' : World} {H H' : List Seg} (s : St w H w') [h : SubH H' H] (hh : ∀ q ∈ H', q.hi ≤ B) : StB B H' w' := by
  have s2 := s.sub (H' := H')
  exact ⟨hh, s2.ok, s2.apart⟩

theorem run_setLoop {P : Program} {w : World} {l : Nat} {r : Loop} (o : Obj) (h : w.heap[l]? = some (.loop r)) : (w.putObj l o).heap[l]? = some o ∧ (w.putObj l o).heap.size = w.heap.size ∧ (∀ k, k ≠ l → (w.putObj l o).heap[k]? = w.heap[k]?) :=
  ⟨World.putObj_heap_same (Array.getElem?_eq_some_iff.1 h).1, World.putObj_size, fun _ hk => World.putObj_heap_other hk⟩

theorem St.put {w0 w : World} {H H2 : List Seg} {l : Nat} {p q : Obj → Prop} {o : Obj} {r : Loop} (s : St w0 H w) [h : OwnAt l H p H2] (hl : w.heap[l]? = some (.loop r)) (hq : q o) : St w0 (.own l q :: H2) (w.putObj l o) := by
  obtain ⟨h1, h2, h3⟩ := run_setLoop (P := default) o hl
  exact (s.perm h.perm).upd rfl rfl rfl h2 (fun k hk => h3 k (by simp [Seg.lo, Seg.hi] at hk; omega)) rfl rfl ⟨o, h1, hq⟩

/-- Behind the assignment the round begins. -/
def RJ (P : Program) (l : Nat) (body : Code) (R : Ending → World → Prop) (a : Act) (w : World) : Prop :=
  ∃ w₂, (Instr.beginRound l).run P w = .ok () w₂ ∧ body.wpIn (WF (some l)) 0 P (roundPost P l R) a w₂

theorem t_begin {P : Program} {l : Nat} {w0 : World} {body : Code} {R : Ending → World → Prop} {E : Env} {H H2 : List Seg} {K : LKey} [h : OwnAt l H (isLp K .ready none) H2]
    (hb : T ⟨P, some l, w0, roundPost P l R⟩ [] body E (.own l (isLp K .busy none) :: H2)) : TX ⟨P, some l, w0, QF⟩ .normal [.inv (RJ P l body R)] E H := fun a w e s => by
  obtain ⟨o, h1, fn, tmps, df, rfl, h3⟩ := s.own_at (b := l)
  exact ⟨_, run_beginRound h1 rfl, hb _ _ e (s.put h1 ⟨fn, tmps, df, rfl, h3⟩)⟩

/-- The body's end. -/
theorem t_rend {P : Program} {l B : Nat} {w : World} {E : Env} {H H2 : List Seg} {K : LKey} {q : World → Prop} (S' : List Seg) [h : OwnAt l H (isLp K .busy none) H2] [hs : SnapAt w H2 B w.heap.size] [hsub : SubH S' H2]
    (hh : ∀ s ∈ S', s.hi ≤ B) (hl : l < B) : TX ⟨P, some l, w, roundPost P l (ItPost B (StB B (.own l (isLp K .ready none) :: S')) q w)⟩ .normal [] E H := fun a w' e s => by
  obtain ⟨o, h1, fn, tmps, df, rfl, h3⟩ := s.own_at (b := l)
  have s2 := s.put h1 (q := isLp K .ready none) (o := .loop { state := .ready, pending := none, fn, tmps, params := #[K.p], assign := K.asg, body := K.body, defers := df }) ⟨fn, tmps, df, rfl, h3⟩
  haveI : SnapAt w (.own l (isLp K .ready none) :: H2) B w.heap.size := ⟨List.mem_cons_of_mem _ hs.mem⟩
  haveI : SubH (.own l (isLp K .ready none) :: S') (.own l (isLp K .ready none) :: H2) := inferInstance
  refine ⟨_, _, run_endRound none h1, true, rfl, keep_of s2, s2.toB ?_⟩
  intro z hz
  rcases List.mem_cons.1 hz with rfl | hz
  · exact hl
  · exact hh z hz

/-- The body's leave by a jump. -/
theorem t_rexit {P : Program} {l B id : Nat} {w : World} {E : Env} {H H2 : List Seg} {K : LKey} {p : World → Prop} (S' : List Seg) [h : OwnAt l H (isLp K .busy none) H2] [hs : SnapAt w H2 B w.heap.size] [hsub : SubH S' H2]
    (hh : ∀ s ∈ S', s.hi ≤ B) (hl : l < B) {q : World → Prop} (hq : ∀ w', St w (.own l (isLp K .done (some (.exit id))) :: H2) w' → StB B (.own l (isLp K .done (some (.exit id))) :: S') w' → q w') : TX ⟨P, some l, w, roundPost P l (ItPost B p q w)⟩ (.exit id) [] E H := fun a w' e s => by
  obtain ⟨o, h1, fn, tmps, df, rfl, h3⟩ := s.own_at (b := l)
  have s2 := s.put h1 (q := isLp K .done (some (.exit id))) (o := .loop { state := .done, pending := some (.exit id), fn, tmps, params := #[K.p], assign := K.asg, body := K.body, defers := df }) ⟨fn, tmps, df, rfl, h3⟩
  haveI : SnapAt w (.own l (isLp K .done (some (.exit id))) :: H2) B w.heap.size := ⟨List.mem_cons_of_mem _ hs.mem⟩
  haveI : SubH (.own l (isLp K .done (some (.exit id))) :: S') (.own l (isLp K .done (some (.exit id))) :: H2) := inferInstance
  refine ⟨_, _, run_endRound (some (.exit id)) h1, false, rfl, keep_of s2, hq _ s2 (s2.toB ?_)⟩
  intro z hz
  rcases List.mem_cons.1 hz with rfl | hz
  · exact hl
  · exact hh z hz

theorem t_rend2 {P : Program} {l B : Nat} {w : World} {E : Env} {H H2 : List Seg} {K : LKey} {q : World → Prop} {S'' : List Seg} (S' : List Seg) (hS : S'' = S') [h : OwnAt l H (isLp K .busy none) H2] [hs : SnapAt w H2 B w.heap.size] [hsub : SubH S' H2]
    (hh : ∀ s ∈ S', s.hi ≤ B) (hl : l < B) : TX ⟨P, some l, w, roundPost P l (ItPost B (StB B (.own l (isLp K .ready none) :: S'')) q w)⟩ .normal [] E H := by
  subst hS
  exact t_rend S'' hh hl

/-- A pure fact, laid among the segments. -/
theorem St.fact {w0 w : World} {H : List Seg} (s : St w0 H w) {p : Prop} (hp : p) : St w0 (.reg 0 0 (fun _ => p) :: H) w := by
  refine ⟨s.os, s.tape, s.output, s.ge, fun q hq => ?_, fun q hq => ?_, List.pairwise_cons.2 ⟨fun q _ => .inl (Nat.zero_le _), s.apart⟩⟩
  · rcases List.mem_cons.1 hq with rfl | hq
    · exact Nat.zero_le _
    · exact s.le q hq
  · rcases List.mem_cons.1 hq with rfl | hq
    · exact ⟨w, hp, fun _ _ h => absurd h (Nat.not_lt_zero _)⟩
    · exact s.ok q hq
theorem t_fact {x : Cx} {ks : List KI} {c : Code} {E : Env} {H : List Seg} {p : Prop} (hp : p) (h : T x ks c E (.reg 0 0 (fun _ => p) :: H)) : T x ks c E H := fun a w e s => h a w e (s.fact hp)
theorem tx_fact {x : Cx} {ks : List KI} {ex : Exit} {E : Env} {H : List Seg} {p : Prop} (hp : p) (h : TX x ex ks E (.reg 0 0 (fun _ => p) :: H)) : TX x ex ks E H := fun a w e s => h a w e (s.fact hp)
theorem stb_fact {B : Nat} {H : List Seg} {w : World} {p : Prop} (s : StB B H w) (hm : .reg 0 0 (fun _ => p) ∈ H) : p := by
  obtain ⟨_, h, _⟩ := s.2.1 _ hm
  exact h

theorem hi_of_rng {B : Nat} : ∀ {H H' : List Seg}, H'.map Seg.rng = H.map Seg.rng → (∀ s ∈ H, s.hi ≤ B) → ∀ s ∈ H', s.hi ≤ B := by
  intro H H' h hh s hs
  have h1 : s.rng ∈ H'.map Seg.rng := List.mem_map_of_mem hs
  rw [h] at h1
  obtain ⟨q, hq, he⟩ := List.mem_map.1 h1
  have := hh q hq
  have h3 : q.hi = s.hi := congrArg Prod.snd he
  omega

/-- Heap below: what a reader of old memory wants. -/
def BelowH (w w' : World) : Prop := w.heap.size ≤ w'.heap.size ∧ ∀ k, k < w.heap.size → w'.heap[k]? = w.heap[k]?
theorem belowH_of {w0 w w' : World} {H : List Seg} (s : St w0 H w') [hs : SnapAt w H 0 w.heap.size] : BelowH w w' := ⟨s.le _ hs.mem, fun k hk => s.ok _ hs.mem k (Nat.zero_le _) hk⟩

/-- One round. -/
theorem yc_round {P : Program} {l B : Nat} {w : World} {K : LKey} {H : List Seg} {v : Value} {R : Ending → World → Prop} {n : Nat} {m : List (Nat × Value)} {p : Nat} {asg body : Code} (hK : K = ⟨n, m, p, asg, body⟩) (hs : StB B (.own l (isLp K .ready none) :: H) w) (hB : B ≤ w.heap.size) (hp' : Nat.blt p n = true)
    (h' : T ⟨P, some l, w, QF⟩ [.inv (RJ P l body R)] asg ⟨n, (p, v) :: m, []⟩ (.own l (isLp K .ready none) :: .snap B w.heap.size w :: H)) : YC P l #[v] w R := by
  have hp : Nat.blt K.p K.n = true := by rw [hK]; exact hp'
  have h : T ⟨P, some l, w, QF⟩ [.inv (RJ P l K.body R)] K.asg ⟨K.n, (K.p, v) :: K.m, []⟩ (.own l (isLp K .ready none) :: .snap B w.heap.size w :: H) := by
    have e1 : K.body = body := by rw [hK]
    have e2 : K.asg = asg := by rw [hK]
    have e3 : K.n = n := by rw [hK]
    have e4 : K.m = m := by rw [hK]
    have e5 : K.p = p := by rw [hK]
    rw [e1, e2, e3, e4, e5]
    exact h'
  have s := (hs.start hB).perm (List.Perm.swap ..)
  obtain ⟨o, h1, fn, tmps, df, rfl, h3⟩ := s.own_at (b := l) (p := isLp K .ready none)
  refine ⟨_, _, _, _, run_yield h1 rfl, roundIn_of_wpIn trivial ?_⟩
  have he := h3.put hp v
  have := h { tmps := tmps.setIfInBounds K.p v, defers := [] } w he s
  have hf : Array.foldl (fun (tmps : Array Value) (x : Nat × Value) => match x with | (t, a) => tmps.setIfInBounds t a) tmps (#[K.p].zip #[v]) = tmps.setIfInBounds K.p v := by simp
  simp only [hf]
  exact this

/-- What a mark is. -/
def mark (D : Nat) : Deferred := { target := .collected D, args := #[] }

theorem t_rf {x : Cx} {ks : List KI} {g : Operand} {p : Nat} {asg body : Code} {n : Nat} {m : List (Nat × Value)} {ds : List Deferred} {H H0 : List Seg} {gf : Nat} {lb : List Value} (hr : x.r = none) (hg : ev m g = some (.func (.func gf) #[] lb.toArray)) [hfn : FnOk x.P gf]
    {α : Type} (S : List α → List Seg) (L0 : List α) (pend : Code) (hS0 : S L0 = H0) [hsub : SubH H0 H] (Fp : LKey → Nat → Nat → Nat → World → Prop)
    (hseq : ∀ (K : LKey) (l D : Nat) (w₂ : World), K = ⟨n, m, p, asg, body⟩ → St x.w0 (.own l (isLp K .ready none) :: .own D isDf :: S L0) w₂ →
      Calls x.P gf (#[.func (.yield l) #[] #[]] ++ lb.toArray) w₂ (fun e w' => e = .returned (.tuple #[]) ∧ Keep w₂.heap.size w₂ w' ∧ (StB w₂.heap.size (.own l (isLp K .ready none) :: .own D isDf :: S []) w' ∨ Fp K l D w₂.heap.size w')))
    (hdone : ∀ D, TX x .normal ks ⟨n, m, mark D :: ds⟩ (.own D isDf :: S []))
    (hstop : ∀ K l D B w₃, Fp K l D B w₃ → x.w0.heap.size ≤ B → ∃ SF, StB B (.own l (isLp K .done (some pend)) :: .own D isDf :: SF) w₃ ∧ T x ks pend ⟨n, m, mark D :: ds⟩ (.own D isDf :: .snap B w₃.heap.size w₃ :: SF)) : T x ks (.rangeFunc g #[p] asg body) ⟨n, m, ds⟩ H := by
  intro a w e s
  rw [hr]
  refine wpIn_rangeFunc fun fn _ => ?_
  have hev : a.eval g = .func (.func gf) #[] lb.toArray := e.ev hg
  let K : LKey := ⟨n, m, p, asg, body⟩
  let w₁ : World := (w.alloc (.deferred (some []))).alloc (.loop { state := .ready, pending := none, fn, tmps := a.tmps, params := #[p], assign := asg, body, defers := w.heap.size })
  have s0 : St x.w0 H0 w := s.sub
  have s1 : St x.w0 (.own w.heap.size isDf :: H0) (w.alloc (.deferred (some []))) := s0.alloc (p := isDf) rfl
  have s2 : St x.w0 (.own (w.heap.size + 1) (isLp K .ready none) :: .own w.heap.size isDf :: S L0) w₁ := by
    rw [hS0]
    have := s1.alloc (o := .loop { state := .ready, pending := none, fn, tmps := a.tmps, params := #[p], assign := asg, body, defers := w.heap.size }) (p := isLp K .ready none) ⟨fn, a.tmps, w.heap.size, rfl, ⟨e.size, rfl, e.get⟩⟩
    rw [World.size_alloc] at this
    exact this
  have hres : (resolve a.eval (rangeCall g (w.heap.size + 1)) 0).run x.P w₁ = .ok { target := .fn (.func gf) lb.toArray, args := #[] ++ #[Value.func (.yield (w.heap.size + 1)) #[] #[]] } w₁ := by
    simp only [resolve, hev, List.map_toArray, List.map_cons, List.map_nil, show ∀ v, a.eval (.const v) = v from fun _ => rfl, Deferred.ofValue, run_ok]
  refine ⟨w.heap.size + 1, [mark w.heap.size], w₁, _, w₁, gf, #[.func (.yield (w.heap.size + 1)) #[] #[]] ++ lb.toArray, w₁, run_enterLoop_outer fn a.tmps #[p] asg body, hres, fun _ _ => trivial, ?_, (fun h => by cases h), ?_⟩
  · simp only [invoke]
    rw [show (#[] ++ #[Value.func (Fn.yield (w.heap.size + 1)) #[] #[]] ++ lb.toArray : Array Value) = #[Value.func (Fn.yield (w.heap.size + 1)) #[] #[]] ++ lb.toArray from by simp]
    exact hfn.run _ _
  refine callsIn_WF ((hseq K _ _ w₁ rfl s2).mono ?_)
  rintro _ w₃ ⟨rfl, hk, h⟩
  have e' : Env.ok ⟨n, m, mark w.heap.size :: ds⟩ { a with defers := [mark w.heap.size] ++ a.defers } := ⟨e.size, by show [mark w.heap.size] ++ a.defers = mark w.heap.size :: ds; rw [show a.defers = ds from e.ds]; rfl, e.get⟩
  have mk : ∀ (H' : List Seg), StB w₁.heap.size H' w₃ → St x.w0 H' w₃ := fun H' hb =>
    ⟨hk.os.trans s2.os, hk.tape.trans s2.tape, hk.output.trans s2.output, Nat.le_trans s2.ge hk.size, fun q hq => Nat.le_trans (hb.1 q hq) hk.size, hb.2.1, hb.2.2⟩
  rcases h with h | h
  · have s3 := mk _ h
    obtain ⟨o, h1, fn', tmps, df, rfl, h3⟩ := s3.own_at (b := w.heap.size + 1) (p := isLp K .ready none)
    have s4 := s3.put h1 (q := fun _ => True) (o := .loop { state := .exhausted, pending := none, fn := fn', tmps, params := #[K.p], assign := K.asg, body := K.body, defers := df }) trivial
    exact ⟨_, _, run_endLoop h1 (by simp), hdone _ _ _ e' s4.tail⟩
  · obtain ⟨SF, hb, hT⟩ := hstop K _ _ _ _ h s2.ge
    have s3 := mk _ hb
    have s3' : St x.w0 (.snap w₁.heap.size w₃.heap.size w₃ :: .own (w.heap.size + 1) (isLp K .done (some pend)) :: .own w.heap.size isDf :: SF) w₃ := by
      refine ⟨s3.os, s3.tape, s3.output, s3.ge, fun q hq => ?_, fun q hq => ?_, List.pairwise_cons.2 ⟨fun q hq => .inr (hb.1 q hq), s3.apart⟩⟩
      · rcases List.mem_cons.1 hq with rfl | hq
        · exact Nat.le_refl _
        · exact s3.le q hq
      · rcases List.mem_cons.1 hq with rfl | hq
        · exact fun _ _ _ => rfl
        · exact s3.ok q hq
    obtain ⟨o, h1, fn', tmps, df, rfl, h3⟩ := s3.own_at (b := w.heap.size + 1) (p := isLp K .done (some pend))
    have s4 := s3'.put h1 (l := w.heap.size + 1) (q := fun _ => True) (o := .loop { state := .exhausted, pending := some pend, fn := fn', tmps, params := #[K.p], assign := K.asg, body := K.body, defers := df }) trivial
    have s5 := s4.tail.perm (List.Perm.swap ..)
    have := hT _ _ e' s5
    rw [hr] at this
    exact ⟨_, _, run_endLoop h1 (by simp), this⟩

/-! ### A function that holds such a loop -/

theorem calls_TM {P : Program} {f : Nat} {fn : Func} {c : Code} {av : List Value} {w : World} {R : Nat → World → Value → Prop} (hf : P.funcs[f]? = some fn) (hb : fn.body = some c) (hn : Nat.ble av.length fn.ntmps = true)
    {m0 : List (Nat × Value)} (hm : argEnv 0 av = m0) (h : T ⟨P, none, w, bodyPostM (WF none) 0 P fn (Ret w R)⟩ [] c ⟨fn.ntmps, m0, []⟩ [.snap 0 w.heap.size w]) : Calls P f av.toArray w (Ret w R) := by
  have hc : CallsIn (WF none) 0 P f av.toArray w (Ret w R) := by
    refine callsIn_of_wp_marks hf hb trivial ?_
    have hle : av.length ≤ fn.ntmps := Nat.le_of_ble_eq_true hn
    refine h _ w ⟨by simp; omega, rfl, fun s v hs => ?_⟩ (St.start w)
    subst hm
    obtain ⟨_, h2⟩ := argEnv_get av 0 s v hs
    rw [Nat.sub_zero] at h2
    have hlt : s < av.length := (List.getElem?_eq_some_iff.1 h2).1
    rw [Array.getElem?_append_left (by simpa using hlt)]
    simpa using h2
  exact callsIn_wide.1 hc

theorem calls_TM0 {P : Program} {f : Nat} {fn : Func} {c : Code} {av : List Value} {w : World} {v : Value} (hf : P.funcs[f]? = some fn) (hb : fn.body = some c) (hn : Nat.ble av.length fn.ntmps = true)
    {m0 : List (Nat × Value)} (hm : argEnv 0 av = m0) (h : T ⟨P, none, w, bodyPostM (WF none) 0 P fn (Ret w fun _ _ u => u = v)⟩ [] c ⟨fn.ntmps, m0, []⟩ [.snap 0 w.heap.size w]) : Calls P f av.toArray w (RetV w v) :=
  RetV.of (calls_TM hf hb hn hm h)

section rets
variable {P : Program} {fn : Func} {w : World} {R : Nat → World → Value → Prop} {ks : List KI} {n : Nat} {m : List (Nat × Value)} {H H2 : List Seg}

theorem body_retM {D : Nat} {v : Value} [hD : OwnAt D H isDf H2] [hmem : SnapAt w H2 0 w.heap.size] (hrun : ∀ a w', Env.ok ⟨n, m, [mark D]⟩ a → St w H2 w' → (results fn a.tmps).run P w' = .ok v w')
    (hR : ∀ w', St w H2 w' → R w.heap.size w' v) : ∀ a w', Env.ok ⟨n, m, [mark D]⟩ a → St w H w' → bodyPostM (WF none) 0 P fn (Ret w R) .ret a w' := by
  intro a w' e s
  obtain ⟨o, h1, h2⟩ := s.own_at (b := D)
  simp only [isDf] at h2
  subst h2
  have s2 : St w (.own D (fun _ => True) :: H2) (w'.putObj D (.deferred none)) := by
    refine (s.perm hD.perm).upd rfl rfl rfl World.putObj_size (fun k hk => World.putObj_heap_other (by simp [Seg.lo, Seg.hi] at hk; omega)) rfl rfl ⟨_, World.putObj_heap_same (Array.getElem?_eq_some_iff.1 h1).1, trivial⟩
  have s3 := s2.tail
  show LeavesInM (WF none) 0 P fn a.tmps (Ret w R) a.defers .returning w'
  rw [e.ds]
  refine ⟨by simp, .inl ⟨D, _, rfl, run_takeDeferred h1, ?_⟩⟩
  exact ⟨v, hrun a _ e s3, v, rfl, s3.below0 hmem.mem, hR _ s3⟩

theorem t_ret2M {D : Nat} [hD : OwnAt D H isDf H2] [hmem : SnapAt w H2 0 w.heap.size] {r1 r2 : ResultVar} {v1 v2 : Value} (hr : fn.results = #[r1, r2]) (h1 : ResOk P w ⟨n, m, [mark D]⟩ H2 r1 v1) (h2 : ResOk P w ⟨n, m, [mark D]⟩ H2 r2 v2) (hR : ∀ w', St w H2 w' → R w.heap.size w' (.tuple #[v1, v2])) :
    T ⟨P, none, w, bodyPostM (WF none) 0 P fn (Ret w R)⟩ ks .ret ⟨n, m, [mark D]⟩ H :=
  t_ret (body_retM (D := D) (fun a w' e s => run_results (l := [r1, r2]) (vs := [v1, v2]) hr rfl (fun i r' v' h h' => by
    match i with
    | 0 => cases h; cases h'; exact h1 a w' e s
    | 1 => cases h; cases h'; exact h2 a w' e s
    | i + 2 => simp at h)) hR)
end rets

end Go.Sx



namespace Go.Sx
open Go Go.RowKit

/-! ## Panics, deferred calls, recover -/

def pan (t : TypeId) (v : Value) : List PanicEntry := [{ v := .iface t v, recovered := false, goexit := false }]

section
variable {x : Cx} {d : Bool} {ops : Array Oper} {rest : List Oper} {ks : List KI} {n : Nat} {m : List (Nat × Value)} {ds : List Deferred} {H H2 : List Seg}
variable {ty : TypeId} {pos : String} {aft : Array Edge} {dd : Nat}

theorem to_panic {y : Operand} {t : TypeId} {v : Value} {dst : Option Nat} (hy : ev m y = some (.iface t v)) (h : ∀ a w, Env.ok ⟨n, m, ds⟩ a → St x.w0 H w → x.Q (.panic (pan t v)) a w) :
    TO x false ops (⟨dst, .panic y, ty, pos, aft, none⟩ :: rest) ks ⟨n, m, ds⟩ H := by
  intro a w e s
  refine wpListIn_plain rfl fun K hK => ?_
  refine ⟨fun _ _ => trivial, ?_⟩
  rw [Oper.semAt_eq _ _ _ (fun _ h => by cases h)]
  have : (execOp a.eval ⟨dst, .panic y, ty, pos, aft, none⟩).run x.P w = .halt (.panic (.iface t v)) w := by
    simp only [execOp]; rw [e.ev hy]
    simp only [Instr.panic, goPanic, Sem.run_bind, Sem.run, Result.andThen]
  rw [this]
  show Qk x ks (.panic (pan t v)) a w
  rw [Qk_panic]
  exact h a w e s

/-- 'defer f()', f a function value. -/
theorem to_defer {y : Operand} {f : Nat} {c0 : List Value} {ts : Array TypeId} (hx : x.r = none) (hy : ev m y = some (.func (.func f) #[] c0.toArray))
    (h : TO x false ops rest ks ⟨n, m, { target := .fn (.func f) c0.toArray, args := #[] } :: ds⟩ H) :
    TO x false ops (⟨none, .defer ⟨.value y, #[], ts⟩, ty, pos, aft, none⟩ :: rest) ks ⟨n, m, ds⟩ H := by
  intro a w e s
  refine wpListIn_plain rfl fun K hK => ?_
  refine ⟨fun _ _ => trivial, ?_⟩
  rw [hx]
  have : ((⟨none, .defer ⟨.value y, #[], ts⟩, ty, pos, aft, none⟩ : Oper).semAt none a.eval).run x.P w = .ok (.defer { target := .fn (.func f) c0.toArray, args := #[] }) w := by
    rw [Oper.semAt_none]
    simp only [execOp, resolve, e.ev hy, Deferred.ofValue, Sem.run_bind, run_ok, Result.andThen]
    simp
  show Oper.uponIn _ _ _ _ _ _ _ ((Oper.semAt none a.eval _).run x.P w)
  rw [this]
  exact hK _ _ (h _ _ ⟨e.size, by show _ :: a.defers = _; rw [show a.defers = ds from e.ds], e.get⟩ s)

theorem to_eqiN {t t2 : TypeId} {y : Operand} (hy : ev m y = some .nilIface) {b1 b2 : Nat} {zz : List ZV} [ht : Ty x.P t ⟨.iface, b1, b2, zz⟩] (hd : Nat.blt dd n = true) (h : TO x d ops rest ks ⟨n, (dd, .bool true) :: m, ds⟩ H) :
    TO x d ops (⟨some dd, .binOp .eql t y (.const .nilIface) t2, ty, pos, aft, none⟩ :: rest) ks ⟨n, m, ds⟩ H :=
  to_bin hy rfl (fun w => by
    obtain ⟨ms, hu⟩ := ht.iface
    have e : (eqGuard .eql t y (.const .nilIface) .nilIface .nilIface).run x.P w = .ok () w := by
      simp [eqGuard, run_ok]
    have e2 : ∀ k, (Op.equalIn (k + 1) t .nilIface .nilIface).run x.P w = .ok true w := fun k => by
      simp only [Op.equalIn, Sem.run_bind, run_underlying hu, Result.andThen, run_ok]
    have e3 : (Op.equal t .nilIface .nilIface).run x.P w = .ok true w := e2 9999
    simp only [Sem.run_bind, e, Result.andThen, binOp, e3, run_ok]) hd h

theorem to_eqiF {t t2 u : TypeId} {v : Value} {y : Operand} (hy : ev m y = some (.iface u v)) {b1 b2 : Nat} {zz : List ZV} [ht : Ty x.P t ⟨.iface, b1, b2, zz⟩] (hd : Nat.blt dd n = true) (h : TO x d ops rest ks ⟨n, (dd, .bool false) :: m, ds⟩ H) :
    TO x d ops (⟨some dd, .binOp .eql t y (.const .nilIface) t2, ty, pos, aft, none⟩ :: rest) ks ⟨n, m, ds⟩ H :=
  to_bin hy rfl (fun w => by
    obtain ⟨ms, hu⟩ := ht.iface
    have e : (eqGuard .eql t y (.const .nilIface) (.iface u v) .nilIface).run x.P w = .ok () w := by
      simp [eqGuard, run_ok]
    have e2 : ∀ k, (Op.equalIn (k + 1) t (.iface u v) .nilIface).run x.P w = .ok false w := fun k => by
      simp only [Op.equalIn, Sem.run_bind, run_underlying hu, Result.andThen, run_ok]
    have e3 : (Op.equal t (.iface u v) .nilIface).run x.P w = .ok false w := e2 9999
    simp only [Sem.run_bind, e, Result.andThen, binOp, e3, run_ok]) hd h

theorem ta_desc {P : Program} {t : TypeId} {i : TI} (ht : Ty P t i) (hi : (match i.k with | .iface => false | _ => true) = true) : ∃ u, P.underlying t = some u ∧ ∀ ms, u ≠ .interface ms := by
  have hk := ht.tk
  unfold tkOk at hk
  split at hk <;> simp_all

theorem to_taT {t xt : TypeId} {i : TI} {v : Value} {y : Operand} (hy : ev m y = some (.iface t v)) [ht : Ty x.P t i] (hi : (match i.k with | .iface => false | _ => true) = true) (hd : Nat.blt dd n = true)
    (h : TO x d ops rest ks ⟨n, (dd, .tuple [v, .bool true].toArray) :: m, ds⟩ H) : TO x d ops (⟨some dd, .typeAssert y xt t true, ty, pos, aft, none⟩ :: rest) ks ⟨n, m, ds⟩ H :=
  to_pure _ (fun _ h => by cases h) (fun a w e _ => by
    obtain ⟨u, h1, h2⟩ := ta_desc ht hi
    simp only [execOp]; rw [e.ev hy]
    simp only [Instr.typeAssert, Sem.run_bind, run_underlying h1, Result.andThen]
    cases u <;> first | exact absurd rfl (h2 _) | simp [run_ok]) hd h

theorem to_taF {t u0 xt : TypeId} {i : TI} {v : Value} {zs : List Value} {y : Operand} (hy : ev m y = some (.iface u0 v)) (hne : Nat.beq u0 t = false) [ht : Ty x.P t i] [hz : ZVals i.zero zs] (hi : (match i.k with | .iface => false | _ => true) = true) (hag : i.k.agg = true) (hd : Nat.blt dd n = true)
    (h : TO x d ops rest ks ⟨n, (dd, .tuple [.agg zs.toArray, .bool false].toArray) :: m, ds⟩ H) : TO x d ops (⟨some dd, .typeAssert y xt t true, ty, pos, aft, none⟩ :: rest) ks ⟨n, m, ds⟩ H :=
  to_pure _ (fun _ h => by cases h) (fun a w e _ => by
    obtain ⟨u, h1, h2⟩ := ta_desc ht hi
    obtain ⟨z, g1, g2, g3⟩ := run_zeroValue (P := x.P) (w := w) (t := t) (vs := zs)
    have hz : z = .agg zs.toArray := by
      cases z <;> simp [zeroShape, hag] at g3
      rw [← g2]; rfl
    subst hz
    have hne' : u0 ≠ t := fun h => by subst h; simp at hne
    simp only [execOp]; rw [e.ev hy]
    simp only [Instr.typeAssert, Sem.run_bind, run_underlying h1, Result.andThen]
    cases u <;> first | exact absurd rfl (h2 _) | simp [run_ok, hne', Sem.run_bind, g1, Result.andThen]) hd h

/-- A call that may panic. -/
theorem to_callP {f : Nat} {g : Operand} {l : List Operand} {ts : Array TypeId} {f0 c0 av : List Value} {R : World → Ending → World → Prop} (hg : ev m g = some (.func (.func f) f0.toArray c0.toArray)) [FnOk x.P f] (hl : evs m l = some av)
    (hc : ∀ w, St x.w0 H w → Calls x.P f (f0 ++ (av ++ c0)).toArray w (R w)) (hd : Nat.blt dd n = true)
    (h : ∀ w, St x.w0 H w → ∀ e w', R w e w' → (∃ v H', e = .returned v ∧ St x.w0 H' w' ∧ TO x false ops rest ks ⟨n, (dd, v) :: m, ds⟩ H') ∨ (∃ ch, e = .panicked ch ∧ ∀ a, Env.ok ⟨n, m, ds⟩ a → x.Q (.panic ch) a w')) :
    TO x false ops (⟨some dd, .call ⟨.value g, l.toArray, ts⟩, ty, pos, aft, none⟩ :: rest) ks ⟨n, m, ds⟩ H := by
  intro a w e s
  refine wpListIn_plain rfl fun K hK => ?_
  refine ⟨fun _ _ => trivial, ?_⟩
  rw [Oper.semAt_eq _ _ _ (fun _ h => by cases h), exec_call (e.ev hg) (e.evs hl)]
  refine ⟨(fun h => by cases h), callsIn_WF ((hc w s).mono ?_)⟩
  intro en w' hR
  rcases h w s en w' hR with ⟨v, H', rfl, s', hn⟩ | ⟨ch, rfl, hp⟩
  · exact hK _ _ (hn _ _ (e.put hd v) s')
  · show Qk x ks (.panic ch) a w'
    rw [Qk_panic]
    exact hp a e

end

/-! ### What comes of something that gives up -/

inductive Out where
  | ok | un (k : Int) | no (s : ByteArray)

def Out.er : Out → Int
  | .ok => 0
  | .un _ => 5
  | .no _ => 4

/-- tu, tn: the two types with which one gives up. -/
def outE (tu tn : TypeId) : Out → Ending → Prop
  | .ok, e => e = .returned (.tuple #[])
  | .un k, e => e = .panicked (pan tu (.agg [.int .i64 k].toArray))
  | .no s, e => e = .panicked (pan tn (.agg [.string s].toArray))

def DoPost (tu tn B : Nat) (p : Out → World → Prop) (w : World) : Ending → World → Prop := fun e w' => ∃ o, outE tu tn o e ∧ Keep B w w' ∧ p o w'

theorem St.drop2 {w0 w : World} {a b : Seg} {H : List Seg} (s : St w0 (a :: b :: H) w) : St w0 (a :: H) w := (s.perm (List.Perm.swap ..)).tail

def Out.mode (tu tn : TypeId) : Out → FrameMode
  | .ok => .returning
  | .un k => .panicking (pan tu (.agg [.int .i64 k].toArray))
  | .no s => .panicking (pan tn (.agg [.string s].toArray))

/-! ### A deferred function that begins with recover -/

def QS (P : Program) (fn : Func) (R : Ending → FrameMode → World → Prop) (u' : FrameMode) : Exit → Act → World → Prop := fun e a' w' =>
  e = .normal ∧ a'.defers = [] ∧ ∃ r, (results fn a'.tmps).run P w' = .ok r w' ∧ R (.returned r) u' w'

theorem t_endQ {P : Program} {fn : Func} {R : Ending → FrameMode → World → Prop} {u' : FrameMode} {w0 : World} {E : Env} {H : List Seg} (hr : fn.results = #[]) (hds : E.ds = []) (hR : ∀ w', St w0 H w' → R (.returned (.tuple #[])) u' w') :
    TX ⟨P, none, w0, QS P fn R u'⟩ .normal [] E H :=
  tn_nil (fun a w' e s => ⟨rfl, e.ds.trans hds, _, run_results (l := []) (vs := []) hr rfl (fun i r v h => by simp at h), hR w' s⟩)

theorem wpOpsS_rec {P : Program} {Q : Exit → Act → List Frame → World → Prop} {d : Nat} {ts : Array TypeId} {ty : TypeId} {pos : String} {aft : Array Edge} {a : Act} {cs : List Frame} {w : World}
    (h : match recoverD cs with | some (v, cs') => Q .normal (a.put (some d) v) cs' w | none => Q .normal (a.put (some d) .nilIface) cs w) :
    wpOpsS P #[⟨some d, .call ⟨.builtin .recover, #[], ts⟩, ty, pos, aft, none⟩] Q [0] a cs w := by
  have hx : (execOp a.eval (⟨some d, .call ⟨.builtin .recover, #[], ts⟩, ty, pos, aft, none⟩ : Oper)).run P w = .ok .recover w := by
    simp only [execOp, resolve, Sem.run_bind, run_ok, Result.andThen, invoke, builtin]
  simp only [wpOpsS, List.getElem?_toArray, List.getElem?_cons_zero, Region.wanted, if_true, hx]
  cases hr : recoverD cs with
  | none => rw [hr] at h; exact h
  | some p => rw [hr] at h; exact h

theorem callsD_rec {P : Program} {f : Nat} {fn : Func} {id d : Nat} {ts : Array TypeId} {ty : TypeId} {pos : String} {aft : Array Edge} {c2 : Code} {av : List Value} {u u' : FrameMode} {v : Value} {w w0 : World} {R : Ending → FrameMode → World → Prop} {H : List Seg}
    (hf : P.funcs[f]? = some fn) (hb : fn.body = some (.seq (.region id #[⟨some d, .call ⟨.builtin .recover, #[], ts⟩, ty, pos, aft, none⟩] false) c2)) (hn : Nat.ble av.length fn.ntmps = true) (hd : Nat.blt d fn.ntmps = true)
    {m0 : List (Nat × Value)} (hm : argEnv 0 av = m0) (hs : St w0 H w)
    (hu : (u = .returning ∧ v = .nilIface ∧ u' = .returning) ∨ ∃ t z, u = .panicking (pan t z) ∧ v = .iface t z ∧ u' = .panicking [{ v := .iface t z, recovered := true, goexit := false }])
    (h : T ⟨P, none, w0, QS P fn R u'⟩ [] c2 ⟨fn.ntmps, (d, v) :: m0, []⟩ H) : CallsD P f av.toArray u w R := by
  refine callsD_of_wpS hf hb (fun c₀ cs hc => ?_)
  refine wpS_seq (wpS_region ?_)
  refine wpOpsS_rec ?_
  have hle : av.length ≤ fn.ntmps := Nat.le_of_ble_eq_true hn
  have he : Env.ok ⟨fn.ntmps, m0, []⟩ { tmps := av.toArray ++ Array.replicate (fn.ntmps - av.toArray.size) undef, defers := [] } := by
    refine ⟨by simp; omega, rfl, fun s v hs => ?_⟩
    subst hm
    obtain ⟨_, h2⟩ := argEnv_get av 0 s v hs
    rw [Nat.sub_zero] at h2
    have hlt : s < av.length := (List.getElem?_eq_some_iff.1 h2).1
    rw [Array.getElem?_append_left (by simpa using hlt)]
    simpa using h2
  have key : ∀ cs', (∃ c', cs' = { c₀ with mode := u' } :: c' ∧ c' = cs) → c2.wpS P (bodyPostS P fn c₀ cs R) (({ tmps := av.toArray ++ Array.replicate (fn.ntmps - av.toArray.size) undef, defers := [] } : Act).put (some d) v) cs' w := by
    rintro cs' ⟨_, rfl, rfl⟩
    refine wpS_of_wp ?_
    have h2 := h _ w (he.put hd v) hs
    rw [WF_none, wpIn_wide] at h2
    refine Go.wp_mono h2 ?_
    rintro e a' w' ⟨rfl, h3, r, h4, h5⟩
    exact ⟨h3, u', rfl, r, h4, h5⟩
  rcases hu with ⟨rfl, rfl, rfl⟩ | ⟨t, z, rfl, rfl, rfl⟩
  · have : recoverD (c₀ :: cs) = none := by simp [recoverD, hc]
    rw [this]
    exact key _ ⟨cs, by rw [← hc], rfl⟩
  · have : recoverD (c₀ :: cs) = some (.iface t z, { c₀ with mode := .panicking [{ v := .iface t z, recovered := true, goexit := false }] } :: cs) := by
      simp [recoverD, hc, pan]
    rw [this]
    exact key _ ⟨cs, rfl, rfl⟩

theorem calls_TD {P : Program} {f : Nat} {fn : Func} {c : Code} {av : List Value} {w : World} {R : Ending → World → Prop} {H : List Seg} (hf : P.funcs[f]? = some fn) (hb : fn.body = some c) (hn : Nat.ble av.length fn.ntmps = true)
    {m0 : List (Nat × Value)} (hm : argEnv 0 av = m0) (hs : St w H w) (h : T ⟨P, none, w, bodyPostD P fn R⟩ [] c ⟨fn.ntmps, m0, []⟩ H) : Calls P f av.toArray w R := by
  refine calls_of_wp_defers hf hb ?_
  rw [← wpIn_wide (n := 0), ← WF_none]
  have hle : av.length ≤ fn.ntmps := Nat.le_of_ble_eq_true hn
  refine h _ w ⟨by simp; omega, rfl, fun s v hs => ?_⟩ hs
  subst hm
  obtain ⟨_, h2⟩ := argEnv_get av 0 s v hs
  rw [Nat.sub_zero] at h2
  have hlt : s < av.length := (List.getElem?_eq_some_iff.1 h2).1
  rw [Array.getElem?_append_left (by simpa using hlt)]
  simpa using h2

/-- One deferred call on the way out, whatever the way. -/
theorem leave1 {P : Program} {fn : Func} {R : Ending → World → Prop} {f : Nat} {c0 : List Value} {a : Act} {u : FrameMode} {w : World} [hfn : FnOk P f] (ha : a.defers = [{ target := .fn (.func f) c0.toArray, args := #[] }]) (hu : u ≠ .run) {R1 : Ending → FrameMode → World → Prop}
    (hc : CallsD P f c0.toArray u w R1) (h : ∀ e u' w', R1 e u' w' → e = .returned (.tuple #[]) ∧ settle u' = .returning ∧ ∃ v, (results fn a.tmps).run P w' = .ok v w' ∧ R (.returned v) w') : Leaves P fn a.tmps R a.defers u w := by
  rw [ha]
  refine ⟨hu, _, _, f, c0.toArray, rfl, ?_, hc.mono fun e u' w' hr => ?_⟩
  · simp only [invoke]
    rw [hfn.run]
    simp
  · obtain ⟨rfl, h2, v, h3, h4⟩ := h e u' w' hr
    simp only [h2]
    exact ⟨v, h3, h4⟩


end Go.Sx



namespace Go.Sx
open Go Go.RowKit

/-! ## Calls that rewrite a row of the caller's own -/

/-- The call hands back v; the row a holds ys now (n' of them), all else is as it was, but for new blocks. -/
structure Rewr (a : Option Addr) (cap : Nat) (t : TypeId) (sz : Nat) (w w' : World) (n' : Nat) (ys : List (List Value)) : Prop where
  os : w'.os = w.os
  tape : w'.tape = w.tape
  output : w'.output = w.output
  size : w.heap.size ≤ w'.heap.size
  block : ∀ k, k < w.heap.size → (∀ ad, a = some ad → k ≠ ad.block) → w'.heap[k]? = w.heap[k]?
  row : RowOk (fun k => w'.heap[k]?) a n' cap t sz ys

theorem St.rewr {w0 w w' : World} {H : List Seg} {a : Option Addr} {n n' cap t sz : Nat} {xs ys : List (List Value)} (s : St w0 (.row a n cap t sz xs :: H) w) (h : Rewr a cap t sz w w' n' ys) : St w0 (.row a n' cap t sz ys :: H) w' := by
  have hap := List.pairwise_cons.1 s.apart
  refine ⟨h.os.trans s.os, h.tape.trans s.tape, h.output.trans s.output, Nat.le_trans s.ge h.size, ?_, ?_, ?_⟩
  · intro q hq
    rcases List.mem_cons.1 hq with rfl | hq
    · have := s.le (.row a n cap t sz xs) (List.mem_cons_self ..)
      cases a with
      | none => exact Nat.zero_le _
      | some ad => exact Nat.le_trans this h.size
    · exact Nat.le_trans (s.le q (List.mem_cons_of_mem _ hq)) h.size
  · intro q hq0
    rcases List.mem_cons.1 hq0 with rfl | hq2
    · exact h.row
    · have h5 := hap.1 q hq2
      refine Seg.ok_congr (fun k h1 h2 => h.block k (Nat.lt_of_lt_of_le h2 (s.le q (List.mem_cons_of_mem _ hq2))) ?_) (s.ok q (List.mem_cons_of_mem _ hq2))
      intro ad ha hk
      subst ha
      subst hk
      rcases h5 with h3 | h3
      · have h4 : ad.block + 1 ≤ q.lo := h3
        omega
      · have h4 : q.hi ≤ ad.block := h3
        omega
  · refine List.pairwise_cons.2 ⟨fun q hq => ?_, hap.2⟩
    have := hap.1 q hq
    cases a with
    | none => exact this
    | some ad => exact this

section
variable {x : Cx} {ops : Array Oper} {rest : List Oper} {ks : List KI} {n : Nat} {m : List (Nat × Value)} {ds : List Deferred} {H H2 : List Seg}
variable {ty : TypeId} {pos : String} {aft : Array Edge} {dd : Nat}

theorem to_callW {f : Nat} {g : Operand} {l : List Operand} {ts : Array TypeId} {f0 c0 av : List Value} {a : Option Addr} {n0 cap t sz : Nat} {xs : List (List Value)} {R : Nat → List (List Value) → Value → Prop}
    (hg : ev m g = some (.func (.func f) f0.toArray c0.toArray)) [FnOk x.P f] (hl : evs m l = some av) [hr : RowAt a H n0 cap t sz xs H2]
    (hc : ∀ w, St x.w0 H w → Calls x.P f (f0 ++ (av ++ c0)).toArray w (fun e w' => ∃ n' ys v, e = .returned v ∧ R n' ys v ∧ Rewr a cap t sz w w' n' ys)) (hd : Nat.blt dd n = true)
    (h : ∀ n' ys v, R n' ys v → TO x false ops rest ks ⟨n, (dd, v) :: m, ds⟩ (.row a n' cap t sz ys :: H2)) :
    TO x false ops (⟨some dd, .call ⟨.value g, l.toArray, ts⟩, ty, pos, aft, none⟩ :: rest) ks ⟨n, m, ds⟩ H := by
  intro a' w e s
  refine wpListIn_plain rfl fun K hK => ?_
  refine ⟨fun _ _ => trivial, ?_⟩
  rw [Oper.semAt_eq _ _ _ (fun _ h => by cases h), exec_call (e.ev hg) (e.evs hl)]
  refine ⟨(fun h => by cases h), callsIn_WF ((hc w s).mono ?_)⟩
  rintro _ w' ⟨n', ys, v, rfl, hR, hw⟩
  exact hK _ _ (h n' ys v hR _ _ (e.put hd v) ((s.perm hr.perm).rewr hw))
end

/-- The start of the walk of such a callee, at a row that is there. -/
theorem St.startW {w : World} {g n cap t sz : Nat} {xs : List (List Value)} (h : RowOk (fun k => w.heap[k]?) (some ⟨g, 0, none⟩) n cap t sz xs) :
    St w [.row (some ⟨g, 0, none⟩) n cap t sz xs, .snap 0 g w, .snap (g + 1) w.heap.size w] w := by
  have hg : g < w.heap.size := by
    obtain ⟨_, _, ⟨h3, _⟩ | ⟨g', sp, h3, _, _, h6⟩⟩ := h
    · cases h3
    · cases h3; exact (Array.getElem?_eq_some_iff.1 h6).1
  refine ⟨rfl, rfl, rfl, Nat.le_refl _, fun s hs => ?_, fun s hs => ?_, ?_⟩
  · simp at hs
    rcases hs with rfl | rfl | rfl
    · exact hg
    · exact Nat.le_of_lt hg
    · exact Nat.le_refl _
  · simp at hs
    rcases hs with rfl | rfl | rfl
    · exact h
    · exact fun _ _ _ => rfl
    · exact fun _ _ _ => rfl
  · simp [Seg.apart, Seg.lo, Seg.hi]

theorem rewr_of {w w' : World} {g n' cap t sz : Nat} {ys : List (List Value)} {H H2 : List Seg} (s : St w H w') [hr : RowAt (some ⟨g, 0, none⟩) H n' cap t sz ys H2] [h1 : SnapAt w H 0 g] (h2 : .snap (g + 1) w.heap.size w ∈ H) : Rewr (some ⟨g, 0, none⟩) cap t sz w w' n' ys := by
  refine ⟨s.os, s.tape, s.output, s.ge, fun k hk hne => ?_, (s.perm hr.perm).ok _ (List.mem_cons_self ..)⟩
  have hkg := hne _ rfl
  rcases Nat.lt_or_ge k g with h | h
  · exact s.ok _ h1.mem k (Nat.zero_le _) h
  · have hkg' : k ≠ g := hkg
    exact s.ok _ h2 k (by omega) hk

section
variable {x : Cx} {d : Bool} {ops : Array Oper} {rest : List Oper} {ks : List KI} {n : Nat} {m : List (Nat × Value)} {ds : List Deferred} {H H2 : List Seg}
variable {ty : TypeId} {pos : String} {aft : Array Edge} {dd : Nat}

/-- The address of a row's rest. -/
def sufA (g k c sz : Nat) : Addr := if c = k then ⟨g, 0, none⟩ else ⟨g, k * sz, none⟩

/-- 'x[l:]' of a row at the head of its block. -/
theorem to_slLW {t e b1 b2 sz bb : TypeId} {ek : TK} {ez : List ZV} {zz : List ZV} {y loO : Operand} {g l c k : Nat} (hy : ev m y = some (.slice (some ⟨g, 0, none⟩) l c)) (hl : ev m loO = some (.int .i64 (Int.ofNat k))) [ht : Ty x.P t ⟨.slice e, b1, b2, zz⟩] [he : Ty x.P e ⟨ek, sz, bb, ez⟩]
    (hk : k ≤ l) (hd : Nat.blt dd n = true)
    (h : TO x d ops rest ks ⟨n, (dd, .slice (some (sufA g k c sz)) (l - k) (c - k)) :: m, ds⟩ H) : TO x d ops (⟨some dd, .slice t y (some loO) none none, ty, pos, aft, none⟩ :: rest) ks ⟨n, m, ds⟩ H :=
  to_pure _ (fun _ h => by cases h) (fun a' w ea s => by
    simp only [execOp, Option.map_none, Option.map_some]; rw [ea.ev hy, ea.ev hl]
    rw [Sem.run_bind, run_slL (ei := ⟨ek, sz, bb, ez⟩) (e := e) (b1 := b1) (b2 := b2) (zz := zz) hk]
    simp only [Option.map_some, Addr.add_none, Nat.zero_add, sufA]
    by_cases hck : c = k
    · simp only [if_pos hck]; rfl
    · simp only [if_neg hck]; rfl) hd h

/-- 'clear(x[l:])', x a row of ints. -/
theorem to_clear {t e b1 b2 b3 : TypeId} {zz : List ZV} {y : Operand} {g k n0 cap : Nat} {xs : List (List Value)} (hy : ev m y = some (.slice (some (sufA g k cap 1)) (n0 - k) (cap - k))) [ht : Ty x.P t ⟨.slice e, b1, b2, zz⟩] [he : Ty x.P e ⟨.int .i64, 1, b3, [.int .i64]⟩]
    [hr : RowAt (some ⟨g, 0, none⟩) H n0 cap e 1 xs H2] (hk : k ≤ n0)
    (h : TO x false ops rest ks ⟨n, m, ds⟩ (.row (some ⟨g, 0, none⟩) k cap e 1 (xs.take k) :: H2)) :
    TO x false ops (⟨none, .call ⟨.builtin .clear, #[y], #[t]⟩, ty, pos, aft, none⟩ :: rest) ks ⟨n, m, ds⟩ H := by
  intro a w ea s
  refine wpListIn_plain rfl fun K hK => ?_
  refine ⟨fun _ _ => trivial, ?_⟩
  rw [Oper.semAt_eq _ _ _ (fun _ h => by cases h)]
  have s2 := s.perm hr.perm
  obtain ⟨h1, h2, h3⟩ := s2.ok _ (List.mem_cons_self ..)
  rcases h3 with ⟨h3, _⟩ | ⟨g', sp, h3, h4, h5, h6⟩
  · cases h3
  cases h3
  replace h6 : w.heap[g]? = _ := h6
  have hlx : xs.flatten.length = n0 := by rw [flatten_len h2, h1, Nat.mul_one]
  have htk : (xs.take k).flatten = xs.flatten.take k := by
    have e1 : xs.flatten = (xs.take k).flatten ++ (xs.drop k).flatten := by rw [← List.flatten_append, List.take_append_drop]
    have e2 : (xs.take k).flatten.length = k := by
      rw [flatten_len (sz := 1) (fun z hz => h2 z (List.mem_of_mem_take hz)), List.length_take]; omega
    rw [e1, List.take_append_of_le_length (Nat.le_of_eq e2.symm), List.take_of_length_le (Nat.le_of_eq e2)]
  have hrow : ∀ (w' : World) (sp' : List Value), sp'.length = (cap - k) * 1 → w'.heap[g]? = some (.cells ((xs.take k).flatten ++ sp').toArray e (0, 0)) → RowOk (fun j => w'.heap[j]?) (some ⟨g, 0, none⟩) k cap e 1 (xs.take k) := fun w' sp' hl hw =>
    ⟨by rw [List.length_take]; omega, fun z hz => h2 z (List.mem_of_mem_take hz), .inr ⟨g, sp', rfl, Nat.le_trans hk h4, hl, hw⟩⟩
  by_cases hz : n0 - k = 0
  · have hex : (execOp a.eval ⟨none, .call ⟨.builtin .clear, #[y], #[t]⟩, ty, pos, aft, none⟩).run x.P w = .ok (.value (.tuple #[])) w := by
      simp only [execOp, resolve, List.map_toArray, List.map_cons, List.map_nil, ea.ev hy, Sem.run_bind, run_ok, Result.andThen, invoke, builtin, Builtin.clear_, List.getElem?_toArray, List.getElem?_cons_zero, run_underlying ht.slice, hz]
    rw [hex]
    have hkn : k = n0 := by omega
    refine hK _ _ (h _ _ ea (s2.upd rfl rfl rfl rfl (fun _ _ => rfl) rfl rfl (hrow w sp (by rw [h5, hkn]) ?_)))
    rw [htk, List.take_of_length_le (by omega)]; exact h6
  · have hck : ¬ (cap = k) := by omega
    obtain ⟨v, g1, g2, g3⟩ := run_zeroValue (P := x.P) (w := w) (t := e) (vs := [.int .i64 0])
    have hzc : (Builtin.zeroCells v.cells (n0 - k)).toList = List.replicate (n0 - k) (Value.int .i64 0) := by
      rw [g2]
      simp only [Builtin.zeroCells]
      apply List.ext_getElem
      · simp
      · intro i hi1 hi2; simp [Nat.mod_one]
    have hsc : scals (List.replicate (n0 - k) (Value.int .i64 0)) = true := by
      generalize n0 - k = j
      induction j with
      | zero => rfl
      | succ j ih => simpa [List.replicate_succ, scals, scal] using ih
    obtain ⟨w', r1, r2, r3, r4, r5, r6, r7⟩ := run_storeCells (P := x.P) (w := w) (b := g) (t := e) (List.replicate (n0 - k) (Value.int .i64 0)) (k * 1) 0 (xs.flatten.take k) (xs.flatten.drop k) sp hsc
      (by rw [h6, List.take_append_drop]) (by rw [List.length_take]; omega) (by rw [List.length_drop, List.length_replicate]; omega)
    have hex : (execOp a.eval ⟨none, .call ⟨.builtin .clear, #[y], #[t]⟩, ty, pos, aft, none⟩).run x.P w = .ok (.value (.tuple #[])) w' := by
      have : (Builtin.clear_ #[t] ty #[.slice (some (sufA g k cap 1)) (n0 - k) (cap - k)]).run x.P w = .ok (.tuple #[]) w' := by
        obtain ⟨j, hj⟩ : ∃ j, n0 - k = j + 1 := ⟨n0 - k - 1, by omega⟩
        rw [hj] at hzc r1 ⊢
        simp only [Builtin.clear_, List.getElem?_toArray, List.getElem?_cons_zero, Sem.run_bind, run_underlying ht.slice, Result.andThen, g1, sufA, if_neg hck, hzc, r1, run_ok]
      simp only [execOp, resolve, List.map_toArray, List.map_cons, List.map_nil, ea.ev hy, Sem.run_bind, run_ok, Result.andThen, invoke, builtin]
      rw [this]
    rw [hex]
    refine hK _ _ (h _ _ ea (s2.upd r5 r6 r7 r3 (fun j hj => r4 j (by simp [Seg.lo, Seg.hi] at hj; omega)) rfl rfl (hrow w' (List.replicate (n0 - k) (Value.int .i64 0) ++ sp) (by rw [List.length_append, List.length_replicate, h5]; omega) ?_)))
    rw [htk, r2, List.append_assoc]

end
section
variable {x : Cx} {d : Bool} {ops : Array Oper} {rest : List Oper} {ks : List KI} {n : Nat} {m : List (Nat × Value)} {ds : List Deferred} {H : List Seg}
variable {ty : TypeId} {pos : String} {aft : Array Edge} {dd : Nat}
/-- 'make([]T, q)', q an int. -/
theorem to_mksi {t e b1 b2 sz bb : Nat} {q : Int} {ek : TK} {zz ez : List ZV} {zs : List Value} {l c : Operand} (hl : ev m l = some (.int .i64 q)) (hc : ev m c = some (.int .i64 q)) [ht : Ty x.P t ⟨.slice e, b1, b2, zz⟩] [he : Ty x.P e ⟨ek, sz, bb, ez⟩] [hz : ZVals ez zs]
    (h0 : 0 ≤ q) (hk : q ≤ 1048576) (hbb : bb ≤ 65536) (hd : Nat.blt dd n = true)
    (h : ∀ a, TO x false ops rest ks ⟨n, (dd, .slice a q.toNat q.toNat) :: m, ds⟩ (.row a q.toNat q.toNat e sz (List.replicate q.toNat zs) :: H)) :
    TO x false ops (⟨some dd, .makeSlice t l c, ty, pos, aft, none⟩ :: rest) ks ⟨n, m, ds⟩ H := by
  obtain ⟨k, rfl⟩ := Int.eq_ofNat_of_zero_le h0
  exact to_mks (k := k) (by rw [hl]; rfl) (by rw [hc]; rfl) (by omega) hbb hd h
end
/-- A row that is not empty lies at the head of a block. -/
theorem t_rowg {x : Cx} {ks : List KI} {c : Code} {E : Env} {H H2 : List Seg} {a : Option Addr} {n cap t sz : Nat} {xs : List (List Value)} [hr : RowAt a H n cap t sz xs H2] (hn : 1 ≤ n) (h : ∀ g, a = some ⟨g, 0, none⟩ → T x ks c E H) : T x ks c E H := fun a' w e s => by
  obtain ⟨_, _, ⟨_, h3, _⟩ | ⟨g, _, h3, _⟩⟩ := (s.perm hr.perm).ok _ (List.mem_cons_self ..)
  · omega
  · exact h g h3 a' w e s

theorem St.row_ok {w0 w : World} {H H2 : List Seg} {a : Option Addr} {n cap t sz : Nat} {xs : List (List Value)} (s : St w0 H w) [hr : RowAt a H n cap t sz xs H2] : RowOk (fun k => w.heap[k]?) a n cap t sz xs := (s.perm hr.perm).ok _ (List.mem_cons_self ..)

theorem St.own_ne {w0 w : World} {H H2 H3 : List Seg} {g b n cap t sz : Nat} {p : Obj → Prop} {xs : List (List Value)} (s : St w0 H w) [hr : RowAt (some ⟨g, 0, none⟩) H n cap t sz xs H2] [ho : OwnAt b H2 p H3] : b ≠ g := by
  have := (List.pairwise_cons.1 (s.perm hr.perm).apart).1 (.own b p) (ho.perm.mem_iff.2 (List.mem_cons_self ..))
  rcases this with h | h
  · have h2 : g + 1 ≤ b := h
    omega
  · have h2 : b + 1 ≤ g := h
    omega

end Go.Sx



namespace Go.Sx
open Go Go.RowKit

/-! ## Strings -/

section strs
variable {x : Cx} {d : Bool} {ops : Array Oper} {rest : List Oper} {ks : List KI} {n : Nat} {m : List (Nat × Value)} {ds : List Deferred} {H H2 : List Seg}
variable {ty : TypeId} {pos : String} {aft : Array Edge} {dd : Nat}

theorem run_binStr {P : Program} {w : World} {op : BinOp} {t : TypeId} {y z : Operand} {p q : ByteArray} {v : Value} (h : (binOp op t (.string p) (.string q)).run P w = .ok v w) :
    ((do eqGuard op t y z (.string p) (.string q); binOp op t (.string p) (.string q) : Sem Value)).run P w = .ok v w := by
  have e : (eqGuard op t y z (.string p) (.string q)).run P w = .ok () w := by
    unfold eqGuard
    split <;> rfl
  simp only [Sem.run_bind, e, Result.andThen]
  exact h

theorem bstr (op : BinOp) (hop : (op == .shl || op == .shr) = false) (t : TypeId) (p q : ByteArray) : binOp op t (.string p) (.string q) = Op.stringOp op p q := by
  cases op <;> first | rfl | (simp at hop)

theorem to_sadd {t t2 : TypeId} {y z : Operand} {p q : List UInt8} (hy : ev m y = some (.string ⟨p.toArray⟩)) (hz : ev m z = some (.string ⟨q.toArray⟩)) (hb : p.length + q.length ≤ 9223372036854775807)
    (hd : Nat.blt dd n = true) (h : TO x d ops rest ks ⟨n, (dd, .string ⟨(p ++ q).toArray⟩) :: m, ds⟩ H) : TO x d ops (⟨some dd, .binOp .add t y z t2, ty, pos, aft, none⟩ :: rest) ks ⟨n, m, ds⟩ H :=
  to_bin hy hz (fun w => run_binStr (by
    have h1 : ¬ (((ByteArray.size ⟨p.toArray⟩ + ByteArray.size ⟨q.toArray⟩ : Nat) : Int) > IntKind.i64.max) := by
      have e1 : ByteArray.size ⟨p.toArray⟩ = p.length := by simp [ByteArray.size]
      have e2 : ByteArray.size ⟨q.toArray⟩ = q.length := by simp [ByteArray.size]
      have e3 : IntKind.i64.max = 9223372036854775807 := by decide
      rw [e1, e2, e3]; omega
    have h2 : (⟨p.toArray⟩ ++ ⟨q.toArray⟩ : ByteArray) = ⟨(p ++ q).toArray⟩ := by
      apply ByteArray.ext
      simp [ByteArray.data_append]
    rw [bstr _ rfl]
    simp only [Op.stringOp, if_neg h1, h2]; rfl)) hd h

theorem bytes_eq (p q : List UInt8) : ((ByteArray.toList ⟨p.toArray⟩ == ByteArray.toList ⟨q.toArray⟩) : Bool) = decide (p = q) := by
  rw [ByteArray.toList_eq, ByteArray.toList_eq]
  by_cases h : p = q
  · simp [h]
  · simp [h]
theorem to_seq {t t2 : TypeId} {y z : Operand} {p q : List UInt8} (hy : ev m y = some (.string ⟨p.toArray⟩)) (hz : ev m z = some (.string ⟨q.toArray⟩))
    (hd : Nat.blt dd n = true) (h : TO x d ops rest ks ⟨n, (dd, .bool (decide (p = q))) :: m, ds⟩ H) : TO x d ops (⟨some dd, .binOp .eql t y z t2, ty, pos, aft, none⟩ :: rest) ks ⟨n, m, ds⟩ H :=
  to_bin hy hz (fun w => run_binStr (by
    rw [bstr _ rfl]
    simp only [Op.stringOp, bytes_eq]; rfl)) hd h
theorem to_sne {t t2 : TypeId} {y z : Operand} {p q : List UInt8} (hy : ev m y = some (.string ⟨p.toArray⟩)) (hz : ev m z = some (.string ⟨q.toArray⟩))
    (hd : Nat.blt dd n = true) (h : TO x d ops rest ks ⟨n, (dd, .bool (!decide (p = q))) :: m, ds⟩ H) : TO x d ops (⟨some dd, .binOp .neq t y z t2, ty, pos, aft, none⟩ :: rest) ks ⟨n, m, ds⟩ H :=
  to_bin hy hz (fun w => run_binStr (by
    rw [bstr _ rfl]
    simp only [Op.stringOp, bytes_eq]; rfl)) hd h

theorem to_lenL {t b1 b2 : TypeId} {zz : List ZV} {y : Operand} {l : List UInt8} (hy : ev m y = some (.string ⟨l.toArray⟩)) [ht : Ty x.P t ⟨.string, b1, b2, zz⟩] (hd : Nat.blt dd n = true) (h : TO x d ops rest ks ⟨n, (dd, .int .i64 (l.length : Int)) :: m, ds⟩ H) :
    TO x d ops (⟨some dd, .call ⟨.builtin .len, #[y], #[t]⟩, ty, pos, aft, none⟩ :: rest) ks ⟨n, m, ds⟩ H := by
  have e1 : ByteArray.size ⟨l.toArray⟩ = l.length := by simp [ByteArray.size]
  exact to_lenT hy hd (by rw [e1]; exact h)

/-- 's[i]' -/
theorem to_sidx {t b1 b2 : TypeId} {zz : List ZV} {y i : Operand} {l : List UInt8} {k : Nat} {c : UInt8} (hy : ev m y = some (.string ⟨l.toArray⟩)) (hi : ev m i = some (.int .i64 (Int.ofNat k))) [ht : Ty x.P t ⟨.string, b1, b2, zz⟩]
    (hk : l[k]? = some c) (hd : Nat.blt dd n = true) (h : TO x d ops rest ks ⟨n, (dd, .int .u8 ((c.toNat : Nat) : Int)) :: m, ds⟩ H) :
    TO x d ops (⟨some dd, .index t y i, ty, pos, aft, none⟩ :: rest) ks ⟨n, m, ds⟩ H :=
  to_pure _ (fun _ h => by cases h) (fun a w e _ => by
    have h1 : (ByteArray.mk l.toArray)[k]? = some c := by
      obtain ⟨hlt, hv⟩ := List.getElem?_eq_some_iff.1 hk
      have hsz : k < ByteArray.size ⟨l.toArray⟩ := by simpa [ByteArray.size] using hlt
      rw [getElem?_pos (ByteArray.mk l.toArray) k hsz]
      congr 1
    simp only [execOp]; rw [e.ev hy, e.ev hi]
    simp only [Instr.index, asIntOf, Sem.run_bind, run_ok, Result.andThen, run_underlying ht.string, Int.ofNat_eq_natCast, Int.natCast_nonneg, if_true, Int.toNat_natCast, h1]) hd h

/-! ### Conversions of integers -/

theorem to_cv {s t b1 b2 : TypeId} {zz : List ZV} {k k' : IntKind} {y : Operand} {q q' : Int} {si : TI} (hy : ev m y = some (.int k q)) [hs : Ty x.P s si] [ht : Ty x.P t ⟨.int k', b1, b2, zz⟩] (hq : k'.wrap q = q')
    (hd : Nat.blt dd n = true) (h : TO x d ops rest ks ⟨n, (dd, .int k' q') :: m, ds⟩ H) :
    TO x d ops (⟨some dd, .convert s t y, ty, pos, aft, none⟩ :: rest) ks ⟨n, m, ds⟩ H :=
  to_pure _ (fun _ h => by cases h) (fun a w e _ => by
    have hk := hs.tk
    have hu : ∃ u, x.P.underlying s = some u := by
      unfold tkOk at hk
      split at hk <;> simp_all
    obtain ⟨u, hu⟩ := hu
    simp only [execOp]; rw [e.ev hy]
    simp only [convert, Sem.run_bind, run_underlying hu, run_underlying ht.int, Result.andThen]
    have : (Conv.intToInt k' q).run x.P w = .ok (.int k' q') w := by simp only [Conv.intToInt, hq]; rfl
    cases u <;> simp only [this, run_ok]) hd h

/-- '[]byte{c}' made a string -/
theorem to_bts1 {s e t b1 b2 b3 b4 b5 b6 : TypeId} {zz zz2 zz3 : List ZV} {y : Operand} {a : Option Addr} {c n0 cap : Nat} {q : Int} (hy : ev m y = some (.slice a 1 c)) [hr : Rd x.w0 H a n0 cap 1 [[.int .u8 q]]]
    [hs : Ty x.P s ⟨.slice e, b1, b2, zz⟩] [he : Ty x.P e ⟨.int .u8, b3, b4, zz2⟩] [ht : Ty x.P t ⟨.string, b5, b6, zz3⟩] (hd : Nat.blt dd n = true)
    (h : TO x d ops rest ks ⟨n, (dd, .string ⟨#[UInt8.ofNat q.toNat]⟩) :: m, ds⟩ H) :
    TO x d ops (⟨some dd, .convert s t y, ty, pos, aft, none⟩ :: rest) ks ⟨n, m, ds⟩ H :=
  to_pure _ (fun _ h => by cases h) (fun a' w ea s' => by
    have hro := hr.rd w s'
    have hc := hr.cell s' (i := 0) (j := 0) (row := [.int .u8 q]) (v := .int .u8 q) rfl rfl
    rcases hro.here with ⟨h1, h2, _⟩ | ⟨ad, h1, h2, _⟩
    · have := hro.len; simp at this; omega
    · subst h1
      rw [ead_some] at hc
      have hc' : w.cell? ad = some (.int .u8 q) := by
        simp only [Nat.zero_mul, Nat.zero_add] at hc
        rw [show ad.add 0 = ad from by simp [Addr.add]] at hc
        exact hc
      simp only [execOp]; rw [ea.ev hy]
      have hl : (loadCells ad 1).run x.P w = .ok #[.int .u8 q] w := run_loadCells (vs := [.int .u8 q]) (fun j v hv => by
        have hj : j = 0 := by
          have := (List.getElem?_eq_some_iff.1 hv).1
          simp at this; exact this
        subst hj
        simp at hv; subst hv
        rw [show ad.add 0 = ad from by simp [Addr.add]]
        exact hc')
      simp only [convert, Sem.run_bind, run_underlying hs.slice, run_underlying ht.string, run_underlying he.int, Result.andThen, Conv.bytesToString, hl]
      rfl) hd h

/-! ### Ranges over strings -/

def isIt (l : List UInt8) (p : Nat) : Obj → Prop := fun o => o = .stringIter ⟨l.toArray⟩ p

theorem to_rgs {t b1 b2 : TypeId} {zz : List ZV} {y : Operand} {l : List UInt8} (hy : ev m y = some (.string ⟨l.toArray⟩)) [ht : Ty x.P t ⟨.string, b1, b2, zz⟩] (hd : Nat.blt dd n = true)
    (h : ∀ b, TO x false ops rest ks ⟨n, (dd, .pointer (some ⟨b, 0, none⟩)) :: m, ds⟩ (.own b (isIt l 0) :: H)) :
    TO x false ops (⟨some dd, .range t y, ty, pos, aft, none⟩ :: rest) ks ⟨n, m, ds⟩ H :=
  to_step (fun _ h => by cases h) (fun a w e s => by
    refine ⟨_, w.alloc (.stringIter ⟨l.toArray⟩ 0), ?_, _, s.alloc (p := isIt l 0) rfl, h w.heap.size⟩
    simp only [execOp]; rw [e.ev hy]
    simp only [Instr.range, Sem.run_bind, run_underlying ht.string, Result.andThen, run_newObj, run_ok]) hd

theorem run_setIt {P : Program} {w : World} {r p : Nat} {b : ByteArray} {o : Obj} (h : w.heap[r]? = some (.stringIter b p)) : ∃ w', (setObj r o).run P w = .ok () w' ∧ w'.heap[r]? = some o ∧ w'.heap.size = w.heap.size ∧ (∀ k, k ≠ r → w'.heap[k]? = w.heap[k]?) ∧ w'.os = w.os ∧ w'.tape = w.tape ∧ w'.output = w.output := by
  have hlt := (Array.getElem?_eq_some_iff.1 h).1
  refine ⟨{ w with heap := w.heap.setIfInBounds r o }, ?_, ?_, by simp, fun k hk => ?_, rfl, rfl, rfl⟩
  · simp [setObj, Sem.run, h]
  · simp [Array.getElem?_setIfInBounds_self_of_lt hlt]
  · exact Array.getElem?_setIfInBounds_ne (Ne.symm hk)

theorem to_nxs {y : Operand} {b p : Nat} {l : List UInt8} (hy : ev m y = some (.pointer (some ⟨b, 0, none⟩))) [ho : OwnAt b H (isIt l p) H2] (hp : p < l.length) (hd : Nat.blt dd n = true)
    (h : TO x false ops rest ks ⟨n, (dd, .tuple [.bool true, .int .i64 (p : Int), .int .i32 ((Utf8.decode ⟨l.toArray⟩ p).1 : Int)].toArray) :: m, ds⟩ (.own b (isIt l (p + (Utf8.decode ⟨l.toArray⟩ p).2)) :: H2)) :
    TO x false ops (⟨some dd, .next y true, ty, pos, aft, none⟩ :: rest) ks ⟨n, m, ds⟩ H :=
  to_step (fun _ h => by cases h) (fun a w e s => by
    have s2 := s.perm ho.perm
    obtain ⟨ob, hob, hpo⟩ := s.own_at (b := b)
    simp only [isIt] at hpo
    subst hpo
    have hg : (getObj b).run x.P w = .ok (.stringIter ⟨l.toArray⟩ p) w := by simp [getObj, Sem.run, hob]
    have hps : p < ByteArray.size ⟨l.toArray⟩ := by simpa [ByteArray.size] using hp
    obtain ⟨w', hset, h2, h3, h4, h5, h6, h7⟩ := run_setIt (P := x.P) (o := .stringIter ⟨l.toArray⟩ (p + (Utf8.decode ⟨l.toArray⟩ p).2)) hob
    refine ⟨_, w', ?_, _, s2.upd (s' := .own b (isIt l (p + (Utf8.decode ⟨l.toArray⟩ p).2))) h5 h6 h7 h3 (fun k hk => h4 k (by simp [Seg.lo, Seg.hi] at hk; omega)) rfl rfl ⟨_, h2, rfl⟩, h⟩
    simp only [execOp]; rw [e.ev hy]
    simp only [Instr.next, Sem.run_bind, run_ok, hg, Result.andThen, hps, if_true, hset]
    rfl) hd

theorem to_nxe {y : Operand} {b p : Nat} {l : List UInt8} (hy : ev m y = some (.pointer (some ⟨b, 0, none⟩))) [ho : OwnAt b H (isIt l p) H2] (hp : l.length ≤ p) (hd : Nat.blt dd n = true)
    (h : TO x d ops rest ks ⟨n, (dd, .tuple [.bool false].toArray) :: m, ds⟩ H) :
    TO x d ops (⟨some dd, .next y true, ty, pos, aft, none⟩ :: rest) ks ⟨n, m, ds⟩ H :=
  to_pure _ (fun _ h => by cases h) (fun a w e s => by
    obtain ⟨ob, hob, hpo⟩ := s.own_at (b := b)
    simp only [isIt] at hpo
    subst hpo
    have hg : (getObj b).run x.P w = .ok (.stringIter ⟨l.toArray⟩ p) w := by simp [getObj, Sem.run, hob]
    have hps : ¬ p < ByteArray.size ⟨l.toArray⟩ := by simp [ByteArray.size]; exact hp
    simp only [execOp]; rw [e.ev hy]
    simp only [Instr.next, Sem.run_bind, run_ok, hg, Result.andThen, hps, if_false]) hd h

theorem get_at {l : List UInt8} {p : Nat} {c : UInt8} (h : l[p]? = some c) : (ByteArray.mk l.toArray).get! p = c := by
  simp [ByteArray.get!, Array.getD_eq_getD_getElem?, h]
/-- A byte of ASCII is its own rune. -/
theorem dec_ascii {l : List UInt8} {p : Nat} {c : UInt8} (h : l[p]? = some c) (hc : c.toNat < 128) : Utf8.decode ⟨l.toArray⟩ p = (c.toNat, 1) := by
  simp only [Utf8.decode, Nat.add_zero, get_at h, if_pos hc]
theorem dec_more {l : List UInt8} {p : Nat} {c : UInt8} (h : l[p]? = some c) (hc : ¬ c.toNat < 128) : 128 ≤ (Utf8.decode ⟨l.toArray⟩ p).1 := by
  simp only [Utf8.decode, Nat.add_zero, get_at h, if_neg hc, Utf8.runeError]
  repeat' split
  all_goals (first | decide | (simp_all; done) | (simp_all; omega))

/-! ### Comparisons and differences of other kinds -/

theorem run_binK {P : Program} {w : World} {op : BinOp} {t : TypeId} {k : IntKind} {y z : Operand} {p q : Int} {v : Value} (h : (binOp op t (.int k p) (.int k q)).run P w = .ok v w) :
    ((do eqGuard op t y z (.int k p) (.int k q); binOp op t (.int k p) (.int k q) : Sem Value)).run P w = .ok v w := by
  have e : (eqGuard op t y z (.int k p) (.int k q)).run P w = .ok () w := by
    unfold eqGuard
    split <;> rfl
  simp only [Sem.run_bind, e, Result.andThen]
  exact h
theorem to_geqk {t t2 : TypeId} {k : IntKind} {y z : Operand} {p q : Int} (hy : ev m y = some (.int k p)) (hz : ev m z = some (.int k q))
    (hd : Nat.blt dd n = true) (h : TO x d ops rest ks ⟨n, (dd, .bool (decide (p ≥ q))) :: m, ds⟩ H) : TO x d ops (⟨some dd, .binOp .geq t y z t2, ty, pos, aft, none⟩ :: rest) ks ⟨n, m, ds⟩ H :=
  to_bin hy hz (fun w => run_binK (by simp only [binOp, Op.intCmp, ne_eq, not_true, if_false]; rfl)) hd h
theorem to_leqk {t t2 : TypeId} {k : IntKind} {y z : Operand} {p q : Int} (hy : ev m y = some (.int k p)) (hz : ev m z = some (.int k q))
    (hd : Nat.blt dd n = true) (h : TO x d ops rest ks ⟨n, (dd, .bool (decide (p ≤ q))) :: m, ds⟩ H) : TO x d ops (⟨some dd, .binOp .leq t y z t2, ty, pos, aft, none⟩ :: rest) ks ⟨n, m, ds⟩ H :=
  to_bin hy hz (fun w => run_binK (by simp only [binOp, Op.intCmp, ne_eq, not_true, if_false]; rfl)) hd h
theorem to_subk {t t2 : TypeId} {k : IntKind} {y z : Operand} {p q r : Int} (hy : ev m y = some (.int k p)) (hz : ev m z = some (.int k q)) (hb : k.wrap (p - q) = r)
    (hd : Nat.blt dd n = true) (h : TO x d ops rest ks ⟨n, (dd, .int k r) :: m, ds⟩ H) : TO x d ops (⟨some dd, .binOp .sub t y z t2, ty, pos, aft, none⟩ :: rest) ks ⟨n, m, ds⟩ H :=
  to_bin hy hz (fun w => run_binK (by simp only [binOp, Op.intArith, ne_eq, not_true, if_false, hb]; rfl)) hd h

/-- 'x[:h]', h an int -/
theorem to_slHi {t e b1 b2 : TypeId} {zz : List ZV} {ei : TI} {y hiO : Operand} {a : Option Addr} {l c : Nat} {q : Int} (hy : ev m y = some (.slice a l c)) (hh : ev m hiO = some (.int .i64 q)) [ht : Ty x.P t ⟨.slice e, b1, b2, zz⟩] [he : Ty x.P e ei] (h0 : 0 ≤ q) (hk : q.toNat ≤ c) (hd : Nat.blt dd n = true)
    (h : TO x d ops rest ks ⟨n, (dd, .slice a q.toNat c) :: m, ds⟩ H) : TO x d ops (⟨some dd, .slice t y none (some hiO) none, ty, pos, aft, none⟩ :: rest) ks ⟨n, m, ds⟩ H := by
  obtain ⟨k, rfl⟩ := Int.eq_ofNat_of_zero_le h0
  exact to_slH hy hh hk hd h

/-! ### A method called through an interface value -/

def methOk (P : Program) (t : TypeId) (name : String) (f : Nat) : Bool :=
  match P.info? t with
  | some ti => (match ti.methods.find? (·.name == name) with
    | some mm => mm.path.toList.isEmpty && (match mm.func with | some (g, b) => g == f && !b | none => false)
    | none => false) && (match P.underlying t with | some (.struct _) => true | _ => false)
  | none => false

class Meth (P : Program) (t : TypeId) (name : String) (f : outParam Nat) : Prop where
  ok : methOk P t name f = true

theorem Meth.run {P : Program} {t : TypeId} {name : String} {f : Nat} (h : Meth P t name f) (k : Nat) (v : Value) (w : World) : (Go.method (k + 1) t v name).run P w = .ok (f, v) w := by
  have h0 := h.ok
  unfold methOk at h0
  cases hi : P.info? t with
  | none => simp [hi] at h0
  | some ti =>
    simp only [hi, Bool.and_eq_true] at h0
    obtain ⟨h1, h2⟩ := h0
    cases hm : ti.methods.find? (·.name == name) with
    | none => simp [hm] at h1
    | some mm =>
      simp only [hm, Bool.and_eq_true, List.isEmpty_iff] at h1
      obtain ⟨hp, hf⟩ := h1
      cases hmf : mm.func with
      | none => simp [hmf] at hf
      | some gb =>
        obtain ⟨g, b⟩ := gb
        simp only [hmf, Bool.and_eq_true, beq_iff_eq, Bool.not_eq_true'] at hf
        obtain ⟨rfl, rfl⟩ := hf
        cases hu : P.underlying t with
        | none => simp [hu] at h2
        | some u =>
          have hti : (typeInfo t).run P w = .ok ti w := by simp [typeInfo, program, hi, Sem.run, Bind.bind, Sem.bind, pure]
          cases u <;> simp [hu] at h2
          simp only [Go.method, Sem.run_bind, hti, Result.andThen, hm, hp, Go.follow, run_ok, hmf, Go.receiverAt, run_underlying hu, Go.Place.get]

theorem exec_inv {a : Act} {y : Operand} {name : String} {ts : Array TypeId} {dst : Option Nat} {w : World} {P : Program} {t f : Nat} {v : Value} (hg : a.eval y = .iface t v) [hm : Meth P t name f] [hf : FnOk P f] :
    (execOp a.eval ⟨dst, .call ⟨.invoke y name, #[], ts⟩, ty, pos, aft, none⟩).run P w = .ok (.enter f #[v]) w := by
  obtain ⟨k, hk⟩ : ∃ k, P.types.size + Made.depth = k + 1 := ⟨P.types.size + 99, rfl⟩
  have h1 := hm.run k v w
  rw [← hk] at h1
  have h2 := hf.run #[v] w
  simp only [execOp, resolve, hg, Sem.run_bind, run_ok, Result.andThen, invoke, callMethod]
  simp only [List.map_toArray, List.map_nil, Array.append_empty, List.getElem?_toArray, List.getElem?_cons_zero, Sem.run_bind, show (program).run P w = .ok P w from rfl, Result.andThen, h1]
  simpa using h2

theorem to_invR {y : Operand} {name : String} {ts : Array TypeId} {t f : Nat} {v0 : Value} {R : Nat → World → Value → Prop} (hy : ev m y = some (.iface t v0)) [Meth x.P t name f] [FnOk x.P f]
    (hc : ∀ w, St x.w0 H w → Calls x.P f #[v0] w (Ret w R)) (hd : Nat.blt dd n = true)
    (h : ∀ v lo w1, x.w0.heap.size ≤ lo → R lo w1 v → TO x false ops rest ks ⟨n, (dd, v) :: m, ds⟩ (.snap lo w1.heap.size w1 :: H)) :
    TO x false ops (⟨some dd, .call ⟨.invoke y name, #[], ts⟩, ty, pos, aft, none⟩ :: rest) ks ⟨n, m, ds⟩ H := by
  intro a w e s
  refine wpListIn_plain rfl fun K hK => ?_
  refine ⟨fun _ _ => trivial, ?_⟩
  rw [Oper.semAt_eq _ _ _ (fun _ h => by cases h), exec_inv (e.ev hy)]
  refine ⟨(fun h => by cases h), callsIn_WF ((hc w s).mono ?_)⟩
  rintro _ w' ⟨v, rfl, hb, hR⟩
  exact hK _ _ (h v _ w' s.ge hR _ _ (e.put hd v) (s.snap hb))

end strs
end Go.Sx



namespace Go.Sx
open Go Go.RowKit

section more
variable {x : Cx} {d : Bool} {ops : Array Oper} {rest : List Oper} {ks : List KI} {n : Nat} {m : List (Nat × Value)} {ds : List Deferred} {H H2 : List Seg}
variable {ty : TypeId} {pos : String} {aft : Array Edge} {dd : Nat}

/-- What a temporary holds, otherwise said. -/
theorem to_fix {s : Nat} {b b' : Bool} (hv : lk m s = some (.bool b)) (hb : b = b') (h : TO x d ops rest ks ⟨n, (s, .bool b') :: m, ds⟩ H) : TO x d ops rest ks ⟨n, m, ds⟩ H := by
  subst hb
  have key : ∀ a, Env.ok ⟨n, m, ds⟩ a → Env.ok ⟨n, (s, .bool b) :: m, ds⟩ a := by
    intro a e
    refine ⟨e.size, e.ds, fun t u hu => ?_⟩
    simp only [lk] at hu
    cases hb : Nat.beq s t with
    | true =>
      rw [hb] at hu; cases hu
      have e' : s = t := Nat.eq_of_beq_eq_true hb
      subst e'; exact e.get _ _ hv
    | false => rw [hb] at hu; exact e.get _ _ hu
  cases d with
  | false => exact fun a w e s => h a w (key a e) s
  | true => exact fun a e => h a (key a e)

theorem to_bc {s : Nat} {b : Bool} (hv : lk m s = some (.bool b)) (ht : b = true → TO x d ops rest ks ⟨n, (s, .bool true) :: m, ds⟩ H) (hf : b = false → TO x d ops rest ks ⟨n, (s, .bool false) :: m, ds⟩ H) : TO x d ops rest ks ⟨n, m, ds⟩ H := by
  cases b with
  | true => exact to_fix hv rfl (ht rfl)
  | false => exact to_fix hv rfl (hf rfl)

/-- A call that panics. -/
theorem to_callF {f : Nat} {g : Operand} {l : List Operand} {ts : Array TypeId} {f0 c0 av : List Value} {ch : List PanicEntry} (hg : ev m g = some (.func (.func f) f0.toArray c0.toArray)) [FnOk x.P f] (hl : evs m l = some av)
    (hc : ∀ w, St x.w0 H w → Calls x.P f (f0 ++ (av ++ c0)).toArray w (fun e w' => e = .panicked ch ∧ Below w.heap.size w w')) (hd : Nat.blt dd n = true)
    (h : ∀ w', St x.w0 H w' → ∀ a, Env.ok ⟨n, m, ds⟩ a → x.Q (.panic ch) a w') :
    TO x false ops (⟨some dd, .call ⟨.value g, l.toArray, ts⟩, ty, pos, aft, none⟩ :: rest) ks ⟨n, m, ds⟩ H :=
  to_callP (R := fun w e w' => e = .panicked ch ∧ Below w.heap.size w w') hg hl hc hd (fun w s e w' hR => .inr ⟨ch, hR.1, fun a ea => h w' (s.below hR.2) a ea⟩)

theorem nx_cases (l : List UInt8) (p : Nat) : (∃ c, l[p]? = some c ∧ c.toNat < 128) ∨ (∃ c, l[p]? = some c ∧ ¬ c.toNat < 128) ∨ l.length ≤ p := by
  rcases Nat.lt_or_ge p l.length with h | h
  · refine (Nat.lt_or_ge (l[p]).toNat 128).elim (fun h2 => .inl ⟨_, List.getElem?_eq_getElem h, h2⟩) (fun h2 => .inr (.inl ⟨_, List.getElem?_eq_getElem h, by omega⟩))
  · exact .inr (.inr h)

theorem to_nxa {y : Operand} {b p : Nat} {l : List UInt8} {c : UInt8} (hy : ev m y = some (.pointer (some ⟨b, 0, none⟩))) [ho : OwnAt b H (isIt l p) H2] (hc : l[p]? = some c) (ha : c.toNat < 128) (hd : Nat.blt dd n = true)
    (h : TO x false ops rest ks ⟨n, (dd, .tuple [.bool true, .int .i64 (p : Int), .int .i32 ((c.toNat : Nat) : Int)].toArray) :: m, ds⟩ (.own b (isIt l (p + 1)) :: H2)) :
    TO x false ops (⟨some dd, .next y true, ty, pos, aft, none⟩ :: rest) ks ⟨n, m, ds⟩ H :=
  to_nxs hy (List.getElem?_eq_some_iff.1 hc).1 hd (by rw [dec_ascii hc ha]; exact h)

theorem to_nxm {y : Operand} {b p : Nat} {l : List UInt8} {c : UInt8} (hy : ev m y = some (.pointer (some ⟨b, 0, none⟩))) [ho : OwnAt b H (isIt l p) H2] (hc : l[p]? = some c) (ha : ¬ c.toNat < 128) (hd : Nat.blt dd n = true)
    (h : ∀ r q : Nat, 128 ≤ r → TO x false ops rest ks ⟨n, (dd, .tuple [.bool true, .int .i64 (p : Int), .int .i32 (r : Int)].toArray) :: m, ds⟩ (.own b (isIt l q) :: H2)) :
    TO x false ops (⟨some dd, .next y true, ty, pos, aft, none⟩ :: rest) ks ⟨n, m, ds⟩ H :=
  to_nxs hy (List.getElem?_eq_some_iff.1 hc).1 hd (h _ _ (dec_more hc ha))

theorem tx_nilrow {e : Exit} {E : Env} (t sz : Nat) (h : TX x e ks E (.row none 0 0 t sz [] :: H)) : TX x e ks E H := fun a w ea s => h a w ea (s.nilrow t sz)

/-- 'x[:h]', h an int that is known as k -/
theorem to_slHk {t e b1 b2 : TypeId} {zz : List ZV} {ei : TI} {y hiO : Operand} {a : Option Addr} {l c : Nat} {q : Int} (k : Nat) (hy : ev m y = some (.slice a l c)) (hh : ev m hiO = some (.int .i64 q)) [ht : Ty x.P t ⟨.slice e, b1, b2, zz⟩] [he : Ty x.P e ei] (hq : q = Int.ofNat k) (hk : k ≤ c) (hd : Nat.blt dd n = true)
    (h : TO x d ops rest ks ⟨n, (dd, .slice a k c) :: m, ds⟩ H) : TO x d ops (⟨some dd, .slice t y none (some hiO) none, ty, pos, aft, none⟩ :: rest) ks ⟨n, m, ds⟩ H := by
  subst hq
  exact to_slH hy hh hk hd h

/-- One block of those that lay there is the call's own to write. -/
theorem St.startO {w : World} {b : Nat} {cs : List Value} {t : TypeId} (h : w.heap[b]? = some (.cells cs.toArray t (0, 0))) : St w [.own b (isC cs t), .snap 0 b w, .snap (b + 1) w.heap.size w] w := by
  have hlt : b < w.heap.size := (Array.getElem?_eq_some_iff.1 h).1
  refine ⟨rfl, rfl, rfl, Nat.le_refl _, ?_, ?_, ?_⟩
  · intro s hs
    simp only [List.mem_cons, List.not_mem_nil, or_false] at hs
    rcases hs with rfl | rfl | rfl
    · exact hlt
    · exact Nat.le_of_lt hlt
    · exact Nat.le_refl _
  · intro s hs
    simp only [List.mem_cons, List.not_mem_nil, or_false] at hs
    rcases hs with rfl | rfl | rfl
    · exact ⟨_, h, rfl⟩
    · exact fun _ _ _ => rfl
    · exact fun _ _ _ => rfl
  · simp only [List.pairwise_cons, List.mem_cons, List.not_mem_nil, or_false, forall_eq_or_imp, forall_eq, Seg.apart, Seg.lo, Seg.hi]
    refine ⟨⟨.inr (Nat.le_refl _), .inl (Nat.le_refl _)⟩, .inl (Nat.le_succ _), ?_⟩
    simp

/-- A call that writes one block of the caller's own, and makes others. -/
theorem St.rewO {w0 w w' : World} {b : Nat} {p p' : Obj → Prop} {o : Obj} {H : List Seg} (s : St w0 (.own b p :: H) w) (hos : w'.os = w.os) (ht : w'.tape = w.tape) (hout : w'.output = w.output) (hsz : w.heap.size ≤ w'.heap.size)
    (hblk : ∀ k, k < w.heap.size → k ≠ b → w'.heap[k]? = w.heap[k]?) (ho : w'.heap[b]? = some o) (hp : p' o) : St w0 (.own b p' :: .snap w.heap.size w'.heap.size w' :: H) w' := by
  have hb := s.le _ (List.mem_cons_self ..)
  have hap := List.pairwise_cons.1 s.apart
  refine ⟨hos.trans s.os, ht.trans s.tape, hout.trans s.output, Nat.le_trans s.ge hsz, ?_, ?_, ?_⟩
  · intro t ht
    rcases List.mem_cons.1 ht with rfl | ht
    · exact Nat.le_trans hb hsz
    · rcases List.mem_cons.1 ht with rfl | ht
      · exact Nat.le_refl _
      · exact Nat.le_trans (s.le t (List.mem_cons_of_mem _ ht)) hsz
  · intro t ht
    rcases List.mem_cons.1 ht with rfl | ht
    · exact ⟨o, ho, hp⟩
    · rcases List.mem_cons.1 ht with rfl | ht
      · exact fun _ _ _ => rfl
      · have hle := s.le t (List.mem_cons_of_mem _ ht)
        refine Seg.ok_congr (fun k h1 h2 => hblk k (Nat.lt_of_lt_of_le h2 hle) ?_) (s.ok t (List.mem_cons_of_mem _ ht))
        rcases hap.1 t ht with h3 | h3
        · simp only [Seg.hi] at h3; omega
        · simp only [Seg.lo] at h3; omega
  · refine List.pairwise_cons.2 ⟨fun t ht => ?_, List.pairwise_cons.2 ⟨fun t ht => .inr ?_, hap.2⟩⟩
    · rcases List.mem_cons.1 ht with rfl | ht
      · exact .inl hb
      · exact hap.1 t ht
    · exact s.le t (List.mem_cons_of_mem _ ht)

/-- A row that a call has made becomes the caller's own. -/
theorem St.snaprow {w0 w w1 : World} {lo hi g n cap t sz : Nat} {xs : List (List Value)} {H : List Seg} (s : St w0 (.snap lo hi w1 :: H) w) (hr : RowOk (fun k => w1.heap[k]?) (some ⟨g, 0, none⟩) n cap t sz xs) (h1 : lo ≤ g) (h2 : g < hi) : St w0 (.row (some ⟨g, 0, none⟩) n cap t sz xs :: H) w := by
  have hap := List.pairwise_cons.1 s.apart
  refine ⟨s.os, s.tape, s.output, s.ge, ?_, ?_, ?_⟩
  · intro u hu
    rcases List.mem_cons.1 hu with rfl | hu
    · have := s.le _ (List.mem_cons_self ..)
      simp only [Seg.hi] at this ⊢; omega
    · exact s.le u (List.mem_cons_of_mem _ hu)
  · intro u hu
    rcases List.mem_cons.1 hu with rfl | hu
    · obtain ⟨a1, a2, ⟨a3, _⟩ | ⟨g', sp, a3, a4, a5, a6⟩⟩ := hr
      · cases a3
      · cases a3
        exact ⟨a1, a2, .inr ⟨g, sp, rfl, a4, a5, (s.ok _ (List.mem_cons_self ..) g h1 h2).trans a6⟩⟩
    · exact s.ok u (List.mem_cons_of_mem _ hu)
  · refine List.pairwise_cons.2 ⟨fun u hu => ?_, hap.2⟩
    rcases hap.1 u hu with h3 | h3
    · simp only [Seg.hi] at h3
      exact .inl (by simp only [Seg.hi]; omega)
    · simp only [Seg.lo] at h3
      exact .inr (by simp only [Seg.lo]; omega)

theorem to_snaprow {w1 : World} {lo hi g n' cap t sz : Nat} {xs : List (List Value)} {E : Env} (hr : RowOk (fun k => w1.heap[k]?) (some ⟨g, 0, none⟩) n' cap t sz xs) (h1 : lo ≤ g) (h2 : g < hi) (h : TO x false ops rest ks E (.row (some ⟨g, 0, none⟩) n' cap t sz xs :: H)) : TO x false ops rest ks E (.snap lo hi w1 :: H) :=
  fun a w e s => h a w e (s.snaprow hr h1 h2)

/-- A call's own new row, said of the world behind. -/
theorem St.new_row {w w' : World} {a : Option Addr} {n cap t sz : Nat} {xs : List (List Value)} {H : List Seg} (s : St w (.row a n cap t sz xs :: H) w') (h0 : .snap 0 w.heap.size w ∈ H) (hn : 1 ≤ n) : ∃ g, a = some ⟨g, 0, none⟩ ∧ w.heap.size ≤ g ∧ g < w'.heap.size ∧ RowOk (fun k => w'.heap[k]?) (some ⟨g, 0, none⟩) n cap t sz xs := by
  have hok := s.ok _ (List.mem_cons_self ..)
  have hok' : RowOk (fun k => w'.heap[k]?) a n cap t sz xs := hok
  obtain ⟨a1, a2, ⟨_, a3, _⟩ | ⟨g, sp, a3, a4, a5, a6⟩⟩ := hok
  · omega
  · subst a3
    refine ⟨g, rfl, ?_, s.le _ (List.mem_cons_self ..), hok'⟩
    have := (List.pairwise_cons.1 s.apart).1 _ h0
    simp only [Seg.apart, Seg.lo, Seg.hi] at this
    omega

end more
end Go.Sx



namespace Go.Sx
open Go Go.RowKit

/-! ### Mixed regions whose operations are taken in an order of our own -/

section mixed
variable {P : Program} {ops : Array Oper} {md : Region.Mode} {C : World → Prop} {S : List Nat}

def wpOrd (P : Program) (ops : Array Oper) (S : List Nat) (C : World → Prop) (Q : (World → Prop) → Act → Prop) : List (Nat × Oper) → (World → Prop) → Act → Prop
  | [], D, a => Q D a
  | (k, o) :: rest, D, a => if Region.wanted o (yielded ops a.tmps) then
      if S.contains k then ∀ w, D w → o.wpIn (WF none) 0 P a w (fun a' w' => a'.defers = a.defers ∧ ∃ D', Fine ops C k D' ∧ D' w' ∧ wpOrd P ops S C Q rest D' a') QF
      else ∃ v, quietM P C o a v ∧ wpOrd P ops S C Q rest D (a.put o.dst v)
    else wpOrd P ops S C Q rest D (a.put o.dst undef)

def ordFrom (md : Region.Mode) (ops : Array Oper) (S : List Nat) : List (Nat × Oper) → Array Bool → Bool
  | [], listed => (Region.ready md ops listed).isEmpty
  | (k, _) :: l, listed => (if S.contains k then Region.ready md ops listed == [k] else (Region.ready md ops listed).contains k && Region.free md ops listed k) && ordFrom md ops S l (listed.setIfInBounds k true)

def nthO : List Oper → Nat → Option Oper
  | [], _ => none
  | o :: _, 0 => some o
  | _ :: l, k + 1 => nthO l k
theorem nthO_eq : ∀ (l : List Oper) (k : Nat), nthO l k = l[k]?
  | [], k => by simp [nthO]
  | o :: l, 0 => by simp [nthO]
  | o :: l, k + 1 => by simp [nthO, nthO_eq l k]
/-- The operations in an order of our own. -/
def plan (l : List Oper) : List Nat → List (Nat × Oper)
  | [] => []
  | k :: L => match nthO l k with
    | some o => (k, o) :: plan l L
    | none => plan l L
theorem plan_at {l : List Oper} : ∀ {L : List Nat}, ∀ p ∈ plan l L, l.toArray[p.1]? = some p.2
  | [], p, hp => by simp [plan] at hp
  | k :: L, p, hp => by
    simp only [plan] at hp
    split at hp
    · rename_i o ho
      rcases List.mem_cons.1 hp with rfl | hp
      · rw [nthO_eq] at ho; simpa using ho
      · exact plan_at p hp
    · exact plan_at p hp

theorem mAny_ord {Q : (World → Prop) → Act → Prop} (hs : Region.noSelect ops = true) (hnd : noDefer ops = true) : ∀ (l : List (Nat × Oper)) (listed : Array Bool) (D : World → Prop) (a : Act), (∀ p ∈ l, ops[p.1]? = some p.2) →
    ordFrom md ops S l listed = true → wpOrd P ops S C Q l D a → mAny P md ops S C Q l.length listed D a
  | [], _, _, _, _, hB, h => ⟨by simpa [ordFrom] using hB, h⟩
  | (k, o) :: l, listed, D, a, hl, hB, h => by
    have h0 : ops[k]? = some o := hl (k, o) (List.mem_cons_self ..)
    simp only [ordFrom, Bool.and_eq_true] at hB
    obtain ⟨hr, hB'⟩ := hB
    have hst : mOp P ops S C D k (fun D' a' => wpOrd P ops S C Q l D' a') a := by unfold mOp; simp only [h0]; exact h
    have hnext := fun D' a' (h : wpOrd P ops S C Q l D' a') => mAny_ord (Q := Q) hs hnd l (listed.setIfInBounds k true) D' a' (fun p hp => hl p (List.mem_cons_of_mem _ hp)) hB' h
    cases hS : S.contains k with
    | true =>
      rw [hS] at hr
      have hr' : Region.ready md ops listed = [k] := by simpa using hr
      refine ⟨fun h => (by rw [hr'] at h; cases h), fun i hi => ?_⟩
      rw [hr'] at hi
      have : i = k := by simpa using hi
      subst this
      exact mOp_mono hnext hst
    | false =>
      rw [hS] at hr
      simp only [Bool.false_eq_true, if_false, Bool.and_eq_true] at hr
      obtain ⟨v, hy, hK⟩ := yieldsM_of_op h0 hS hst
      exact mAny_first (noDefer_spec hnd) h0 hS (Region.noSelect_spec hs) l.length listed D a (Region.free_spec h0 hr.2) (by simpa using hr.1) hy (hnext _ _ hK)

def ordB (l : List Oper) (S L : List Nat) : Bool := Region.noSelect l.toArray && noDefer l.toArray && Nat.beq (plan l L).length l.toArray.size && ordFrom .any l.toArray S (plan l L) (Array.replicate l.toArray.size false)

theorem wpIn_region_ord {id : Nat} {Q : Exit → Act → World → Prop} {a : Act} {w : World} {l : List Oper} (S L : List Nat) (C D : World → Prop) (hm : P.follows .mixedOrders = true) (hB : ordB l S L = true) (hg : Good C D)
    (hD : D { w with drawn := w.drawn + 1 }) (h : wpOrd P l.toArray S C (fun D a' => ∀ w', D w' → Q .normal a' w') (plan l L) D a) : (Code.region id l.toArray true).wpIn (WF none) 0 P Q a w := by
  simp only [ordB, Bool.and_eq_true] at hB
  refine wpIn_region_any hm (wpAnyIn_of_m (S := S) (noDefer_spec hB.1.1.2) (Q := fun D a' => ∀ w', D w' → Q .normal a' w') (fun D a w h hw => h w hw) _ _ D _ _ (.inl hg) hD ?_)
  have := mAny_ord (P := P) (C := C) (md := .any) (S := S) hB.1.1.1 hB.1.1.2 (plan l L) (Array.replicate l.toArray.size false) D a plan_at hB.2 h
  rw [Nat.eq_of_beq_eq_true hB.1.2] at this
  exact this
end mixed

def TP (x : Cx) (S : List Nat) (ops : Array Oper) (rest : List (Nat × Oper)) (ks : List KI) (E : Env) (Hb H : List Seg) : Prop :=
  ∀ a, E.ok a → (∃ w, St x.w0 Hb w) → wpOrd x.P ops S (St x.w0 Hb) (fun D a' => ∀ w', D w' → Qk x ks .normal a' w') rest (St x.w0 H) a

def MP (x : Cx) (S : List Nat) (k : Nat) (ops : Array Oper) (rest : List (Nat × Oper)) (ks : List KI) (ds : List Deferred) (Hb : List Seg) (a : Act) (w : World) : Prop :=
  a.defers = ds ∧ ∃ D', Fine ops (St x.w0 Hb) (k - 1) D' ∧ D' w ∧ wpOrd x.P ops S (St x.w0 Hb) (fun D a' => ∀ w', D w' → Qk x ks .normal a' w') rest D' a

section
variable {x : Cx} {S : List Nat} {k : Nat} {ops : Array Oper} {rest : List (Nat × Oper)} {ks : List KI} {E : Env} {Hb H : List Seg}

theorem t_regP {id : Nat} {l : List Oper} (S L : List Nat) (Hb : List Seg) (hr : x.r = none) (hm : x.P.follows .mixedOrders = true) (hB : ordB l S L = true) [SubH Hb H] (h : TP x S l.toArray (plan l L) ks E Hb H) : T x ks (.region id l.toArray true) E H := by
  intro a w e s
  rw [hr]
  exact wpIn_region_ord S L (St x.w0 Hb) (St x.w0 H) hm hB st_good s.drew (h a e ⟨w, s.sub⟩)

theorem tp_nil (h : TX x .normal ks E H) : TP x S ops [] ks E Hb H := fun a e _ w s => h a w e s

/-- A quiet operation: its rule, applied to it alone. -/
theorem tp_q {o : Oper} (E' : Env) (hS : S.contains k = false) (hq : TO x.nx true ops [o] [.inv (fun a _ => E'.ok a)] E Hb) (h : TP x S ops rest ks E' Hb H) : TP x S ops ((k, o) :: rest) ks E Hb H := by
  intro a e hne
  have h1 := hq a e
  have ⟨w, hw⟩ := hne
  simp only [wpQM] at h1
  simp only [wpOrd, hS, Bool.false_eq_true, if_false]
  split
  · rename_i hwt
    simp only [hwt, if_true] at h1
    obtain ⟨v, h2, h3⟩ := h1
    exact ⟨v, h2, h _ (h3 w hw) hne⟩
  · rename_i hwt
    simp only [hwt] at h1
    exact h _ (h1 w hw) hne

theorem tpq_end {E : Env} {x : Cx} {ops : Array Oper} {H : List Seg} : TO x true ops [] [.inv (fun a _ => E.ok a)] E H := fun _ e _ _ => e

/-- One that turns the world. -/
theorem tp_s {o : Oper} (hS : S.contains k = true) (hs : TO x.nx false ops [o] [.inv (MP x S (k + 1) ops rest ks E.ds Hb)] E H) (hnd : ∀ c, o.op ≠ .defer c) (hg : o.guard = none) : TP x S ops ((k, o) :: rest) ks E Hb H := by
  intro a e hne
  have hw : Region.wanted o (yielded ops a.tmps) = true := by unfold Region.wanted; rw [hg]
  simp only [wpOrd, hS, hw, if_true]
  intro w s
  have h1 := hs a w e s
  simp only [wpListIn, hw, if_true] at h1
  refine ⟨fun _ _ => trivial, ?_⟩
  have h2 := h1.2
  have hQ : Qk x.nx [.inv (MP x S (k + 1) ops rest ks E.ds Hb)] = Exit.then (MP x S (k + 1) ops rest ks E.ds Hb) QF := rfl
  rw [hQ] at h2
  have hL : LetsOut (Exit.then (MP x S (k + 1) ops rest ks E.ds Hb) QF) → LetsOut QF := fun ⟨_, _, h⟩ => ⟨a, w, h⟩
  have h2' : o.uponIn (WF none) 0 x.P a (MP x S (k + 1) ops rest ks E.ds Hb) (Exit.then (MP x S (k + 1) ops rest ks E.ds Hb) QF) ((o.semAt none a.eval).run x.P w) := h2
  have h3 : o.uponIn (WF none) 0 x.P a (MP x S (k + 1) ops rest ks E.ds Hb) QF ((o.semAt none a.eval).run x.P w) := by
    generalize (o.semAt none a.eval).run x.P w = r at h2'
    unfold Oper.uponIn at *
    split <;> simp only at h2'
    · exact h2'
    · exact h2'
    · exact h2'
    · exact ⟨h2'.1, h2'.2.mono fun e w' he => by
        cases e with
        | returned v => exact he
        | panicked c => exact he
        | outgrown => exact hL he⟩
    · exact h2'
    · exact ⟨h2'.1, h2'.2.mono fun e w' he => by
        cases e with
        | returned v => exact he
        | panicked c => exact he
        | outgrown => exact hL he⟩
    · exact h2'
  refine upon_mono (fun a' w' h' => ?_) h3
  obtain ⟨h4, D', h5, h6, h7⟩ := h'
  exact ⟨h4.trans e.ds.symm, D', h5, h6, h7⟩

theorem tp_se {ds : List Deferred} [SubH Hb H] (hds : E.ds = ds) (h : TP x S ops rest ks E Hb H) : TO x.nx false ops [] [.inv (MP x S k ops rest ks ds Hb)] E H := fun a w e s =>
  ⟨e.ds.trans hds, St x.w0 H, .inr st_good, s, h a e ⟨w, s.sub⟩⟩

theorem tp_se2 {ds : List Deferred} (hsub : ∀ w, St x.w0 H w → St x.w0 Hb w) (hds : E.ds = ds) (h : TP x S ops rest ks E Hb H) : TO x.nx false ops [] [.inv (MP x S k ops rest ks ds Hb)] E H := fun a w e s =>
  ⟨e.ds.trans hds, St x.w0 H, .inr ⟨fun _ _ h hb => h.below hb, hsub⟩, s, h a e ⟨w, hsub w s⟩⟩

/-- Behind the last operation of all. -/
theorem tp_sl {ds : List Deferred} (hl : lastB ops = true) (hk : Nat.beq k ops.size = true) (hds : E.ds = ds) (h : TX x .normal ks E H) : TO x.nx false ops [] [.inv (MP x S k ops [] ks ds Hb)] E H := fun a w e s =>
  ⟨e.ds.trans hds, St x.w0 H, .inl ⟨hl, by have := Nat.eq_of_beq_eq_true hk; have h0 : 0 < ops.size := (by unfold lastB at hl; rcases Nat.eq_zero_or_pos ops.size with h0 | h0; (rw [h0] at hl; rw [Array.getElem?_eq_none (by omega)] at hl; cases hl); exact h0); omega⟩, s, fun w' hw' => h a w' e hw'⟩

/-- A guarded operation, as without a guard. -/
theorem tp_gt {op : Op} {ty : TypeId} {pos : String} {aft : Array Edge} {dst : Option Nat} {j : Nat} {want : Bool} {s : Nat}
    (hs : (ops[j]?).bind (·.dst) = some s) (hv : lk E.m s = some (.bool want)) (h : TP x S ops ((k, ⟨dst, op, ty, pos, aft, none⟩) :: rest) ks E Hb H) : TP x S ops ((k, ⟨dst, op, ty, pos, aft, some (j, want)⟩) :: rest) ks E Hb H := by
  intro a e hne
  have hw : Region.wanted ⟨dst, op, ty, pos, aft, some (j, want)⟩ (yielded ops a.tmps) = true := by
    simp [Region.wanted, yielded, hs, e.get _ _ hv]
  have h1 := h a e hne
  simp only [wpOrd, Region.wanted, if_true] at h1
  simp only [wpOrd, hw, if_true]
  exact h1

theorem tp_gf {n : Nat} {m : List (Nat × Value)} {ds : List Deferred} {op : Op} {ty : TypeId} {pos : String} {aft : Array Edge} {dd : Nat} {j : Nat} {want : Bool} {s : Nat} {u : Value}
    (hs : (ops[j]?).bind (·.dst) = some s) (hv : lk m s = some u) (hu : (match u with | .bool b => b == want | _ => false) = false) (hd : Nat.blt dd n = true)
    (h : TP x S ops rest ks ⟨n, (dd, undef) :: m, ds⟩ Hb H) : TP x S ops ((k, ⟨some dd, op, ty, pos, aft, some (j, want)⟩) :: rest) ks ⟨n, m, ds⟩ Hb H := by
  intro a e hne
  have hw : Region.wanted ⟨some dd, op, ty, pos, aft, some (j, want)⟩ (yielded ops a.tmps) = false := by
    have := e.get _ _ hv
    simp only [Region.wanted, yielded, hs, Option.bind_some, this]
    cases u <;> simp_all
  simp only [wpOrd, hw]
  exact h _ (e.put hd undef) hne

theorem tp_gs {n : Nat} {m : List (Nat × Value)} {ds : List Deferred} {o : Oper} {j : Nat} {want b : Bool} {s : Nat}
    (_hg : o.guard = some (j, want)) (_hs : (ops[j]?).bind (·.dst) = some s) (hv : lk m s = some (.bool b))
    (ht : b = true → TP x S ops ((k, o) :: rest) ks ⟨n, (s, .bool true) :: m, ds⟩ Hb H) (hf : b = false → TP x S ops ((k, o) :: rest) ks ⟨n, (s, .bool false) :: m, ds⟩ Hb H) : TP x S ops ((k, o) :: rest) ks ⟨n, m, ds⟩ Hb H := by
  have key : ∀ a, Env.ok ⟨n, m, ds⟩ a → Env.ok ⟨n, (s, .bool b) :: m, ds⟩ a := by
    intro a e
    refine ⟨e.size, e.ds, fun t u hu => ?_⟩
    simp only [lk] at hu
    cases hb : Nat.beq s t with
    | true =>
      rw [hb] at hu; cases hu
      have e' : s = t := Nat.eq_of_beq_eq_true hb
      subst e'; exact e.get _ _ hv
    | false => rw [hb] at hu; exact e.get _ _ hu
  cases b with
  | true => exact fun a e hne => ht rfl a (key a e) hne
  | false => exact fun a e hne => hf rfl a (key a e) hne

end

end Go.Sx



namespace Go.Sx
open Go Go.RowKit

/-! ### Rows in a list that grows: it stands at the end of the segments -/

class TailH (A H : List Seg) : Prop where
  sub : ∃ R, H.Perm (A ++ R)
instance TailH.refl (A : List Seg) : TailH A A := ⟨[], by simp⟩
instance TailH.skip (A H : List Seg) (s : Seg) [h : TailH A H] : TailH A (s :: H) :=
  ⟨let ⟨R, h1⟩ := h.sub; ⟨s :: R, (h1.cons s).trans List.perm_middle.symm⟩⟩
instance (priority := low) SubH.tail (A H : List Seg) [h : TailH A H] : SubH A H := ⟨h.sub⟩

class RowIn (a : Option Addr) (H : List Seg) (n cap t sz : outParam Nat) (xs : outParam (List (List Value))) : Prop where
  mem : .row a n cap t sz xs ∈ H
instance RowIn.skip (a : Option Addr) (s : Seg) (H : List Seg) (n cap t sz : Nat) (xs : List (List Value)) [h : RowIn a H n cap t sz xs] : RowIn a (s :: H) n cap t sz xs := ⟨List.mem_cons_of_mem _ h.mem⟩
instance (priority := low) Rd.rowin {w0 : World} {H : List Seg} {a : Option Addr} {n cap t sz : Nat} {xs : List (List Value)} [h : RowIn a H n cap t sz xs] : Rd w0 H a n cap sz xs :=
  ⟨fun w s => RowOk.ro (s.ok _ h.mem)⟩
end Go.Sx



namespace Go.Sx
open Go Go.RowKit

/-! ### Parts of texts -/

theorem bytes_extract (l : List UInt8) (k q : Nat) : ByteArray.extract ⟨l.toArray⟩ k q = ⟨((l.drop k).take (q - k)).toArray⟩ := by
  apply ByteArray.ext
  rw [ByteArray.data_extract]
  simp [List.extract]
section
variable {x : Cx} {d : Bool} {ops : Array Oper} {rest : List Oper} {ks : List KI} {n : Nat} {m : List (Nat × Value)} {ds : List Deferred} {H : List Seg}
variable {ty : TypeId} {pos : String} {aft : Array Edge} {dd : Nat}
theorem to_ssM {t b1 b2 : TypeId} {zz : List ZV} {y loO hiO : Operand} {l : List UInt8} {k q : Nat} (hy : ev m y = some (.string ⟨l.toArray⟩)) (hl : ev m loO = some (.int .i64 (Int.ofNat k))) (hh : ev m hiO = some (.int .i64 (Int.ofNat q))) [ht : Ty x.P t ⟨.string, b1, b2, zz⟩]
    (hk : k ≤ q) (hq : q ≤ l.length) (hd : Nat.blt dd n = true) (h : TO x d ops rest ks ⟨n, (dd, .string ⟨((l.drop k).take (q - k)).toArray⟩) :: m, ds⟩ H) :
    TO x d ops (⟨some dd, .slice t y (some loO) (some hiO) none, ty, pos, aft, none⟩ :: rest) ks ⟨n, m, ds⟩ H :=
  to_pure _ (fun _ h => by cases h) (fun a' w ea s => by
    have hsz : ByteArray.size ⟨l.toArray⟩ = l.length := by simp [ByteArray.size]
    simp only [execOp, Option.map_none, Option.map_some]; rw [ea.ev hy, ea.ev hl, ea.ev hh]
    simp only [Instr.sliceAt, Sem.run_bind, run_underlying ht.string, Result.andThen, Instr.slice, Instr.sliceBounds, run_ok, hsz, run_bound q l.length _ hq, run_bound k q _ hk, Option.isSome_none, Bool.false_eq_true, if_false, bytes_extract]) hd h
theorem to_ssL {t b1 b2 : TypeId} {zz : List ZV} {y loO : Operand} {l : List UInt8} {k : Nat} (hy : ev m y = some (.string ⟨l.toArray⟩)) (hl : ev m loO = some (.int .i64 (Int.ofNat k))) [ht : Ty x.P t ⟨.string, b1, b2, zz⟩]
    (hk : k ≤ l.length) (hd : Nat.blt dd n = true) (h : TO x d ops rest ks ⟨n, (dd, .string ⟨(l.drop k).toArray⟩) :: m, ds⟩ H) :
    TO x d ops (⟨some dd, .slice t y (some loO) none none, ty, pos, aft, none⟩ :: rest) ks ⟨n, m, ds⟩ H :=
  to_pure _ (fun _ h => by cases h) (fun a' w ea s => by
    have hsz : ByteArray.size ⟨l.toArray⟩ = l.length := by simp [ByteArray.size]
    simp only [execOp, Option.map_none, Option.map_some]; rw [ea.ev hy, ea.ev hl]
    simp only [Instr.sliceAt, Sem.run_bind, run_underlying ht.string, Result.andThen, Instr.slice, Instr.sliceBounds, run_ok, hsz, run_bound k l.length _ hk, Option.isSome_none, Bool.false_eq_true, if_false, bytes_extract]
    rw [show (l.drop k).take (l.length - k) = l.drop k from List.take_of_length_le (by rw [List.length_drop]; exact Nat.le_refl _)]) hd h
theorem to_quoE {t t2 : TypeId} {y z : Operand} {p q r : Int} (hy : ev m y = some (.int .i64 p)) (hz : ev m z = some (.int .i64 q)) (hq : q ≠ 0) (he : IntKind.i64.wrap (p.tdiv q) = r)
    (hd : Nat.blt dd n = true) (h : TO x d ops rest ks ⟨n, (dd, .int .i64 r) :: m, ds⟩ H) : TO x d ops (⟨some dd, .binOp .quo t y z t2, ty, pos, aft, none⟩ :: rest) ks ⟨n, m, ds⟩ H := by
  subst he; exact to_quow hy hz hq hd h
theorem to_remE {t t2 : TypeId} {y z : Operand} {p q r : Int} (hy : ev m y = some (.int .i64 p)) (hz : ev m z = some (.int .i64 q)) (hq : q ≠ 0) (he : p.tmod q = r)
    (hd : Nat.blt dd n = true) (h : TO x d ops rest ks ⟨n, (dd, .int .i64 r) :: m, ds⟩ H) : TO x d ops (⟨some dd, .binOp .rem t y z t2, ty, pos, aft, none⟩ :: rest) ks ⟨n, m, ds⟩ H := by
  subst he; exact to_remw hy hz hq hd h
theorem to_lssk {t t2 : TypeId} {k : IntKind} {y z : Operand} {p q : Int} (hy : ev m y = some (.int k p)) (hz : ev m z = some (.int k q))
    (hd : Nat.blt dd n = true) (h : TO x d ops rest ks ⟨n, (dd, .bool (decide (p < q))) :: m, ds⟩ H) : TO x d ops (⟨some dd, .binOp .lss t y z t2, ty, pos, aft, none⟩ :: rest) ks ⟨n, m, ds⟩ H :=
  to_bin hy hz (fun w => run_binK (by simp only [binOp, Op.intCmp, ne_eq, not_true, if_false]; rfl)) hd h
theorem to_gtrk {t t2 : TypeId} {k : IntKind} {y z : Operand} {p q : Int} (hy : ev m y = some (.int k p)) (hz : ev m z = some (.int k q))
    (hd : Nat.blt dd n = true) (h : TO x d ops rest ks ⟨n, (dd, .bool (decide (p > q))) :: m, ds⟩ H) : TO x d ops (⟨some dd, .binOp .gtr t y z t2, ty, pos, aft, none⟩ :: rest) ks ⟨n, m, ds⟩ H :=
  to_bin hy hz (fun w => run_binK (by simp only [binOp, Op.intCmp, ne_eq, not_true, if_false]; rfl)) hd h
theorem to_eqlk {t t2 : TypeId} {k : IntKind} {y z : Operand} {p q : Int} (hy : ev m y = some (.int k p)) (hz : ev m z = some (.int k q))
    (hd : Nat.blt dd n = true) (h : TO x d ops rest ks ⟨n, (dd, .bool (decide (p = q))) :: m, ds⟩ H) : TO x d ops (⟨some dd, .binOp .eql t y z t2, ty, pos, aft, none⟩ :: rest) ks ⟨n, m, ds⟩ H :=
  to_bin hy hz (fun w => run_binK (by
    have e : (p == q) = decide (p = q) := by rw [Bool.eq_iff_iff]; simp
    simp only [binOp, Op.intCmp, ne_eq, not_true, if_false, e]; rfl)) hd h
end
end Go.Sx



namespace Go.Sx
open Go Go.RowKit

/-! ### Texts made bytes, and back -/

abbrev byV (b : UInt8) : Value := .int .u8 ((b.toNat : Nat) : Int)
/-- The bytes of a text, in a block of their own. -/
def isBy (l : List UInt8) (e : TypeId) : Obj → Prop := fun o => ∃ r : List Value, o = .cells (l.map byV ++ r).toArray e ((l.map byV ++ r).length, (l.map byV ++ r).length + 1)

theorem St.newB {w0 w w' : World} {H : List Seg} {p : Obj → Prop} {o : Obj} (h : St w0 H w) (hb : Below w.heap.size w w') (hsz : w'.heap.size = w.heap.size + 1) (ho : w'.heap[w.heap.size]? = some o) (hp : p o) : St w0 (.own w.heap.size p :: H) w' := by
  have h' := h.below hb
  refine ⟨h'.os, h'.tape, h'.output, h'.ge, ?_, ?_, ?_⟩
  · intro s hs
    rcases List.mem_cons.1 hs with rfl | hs
    · simp [Seg.hi, hsz]
    · exact h'.le s hs
  · intro s hs
    rcases List.mem_cons.1 hs with rfl | hs
    · exact ⟨o, ho, hp⟩
    · exact h'.ok s hs
  · exact List.pairwise_cons.2 ⟨fun s hs => .inr (h.le s hs), h'.apart⟩

section
variable {x : Cx} {d : Bool} {ops : Array Oper} {rest : List Oper} {ks : List KI} {n : Nat} {m : List (Nat × Value)} {ds : List Deferred} {H H2 : List Seg}
variable {ty : TypeId} {pos : String} {aft : Array Edge} {dd : Nat}
theorem to_sby {s t e b1 b2 b3 b4 b5 b6 : TypeId} {zz zz2 zz3 : List ZV} {y : Operand} {l : List UInt8} (hy : ev m y = some (.string ⟨l.toArray⟩)) [hs : Ty x.P s ⟨.string, b1, b2, zz⟩] [ht : Ty x.P t ⟨.slice e, b3, b4, zz2⟩] [he : Ty x.P e ⟨.int .u8, b5, b6, zz3⟩] (hd : Nat.blt dd n = true)
    (h : ∀ g c, TO x false ops rest ks ⟨n, (dd, .slice (some ⟨g, 0, none⟩) l.length c) :: m, ds⟩ (.own g (isBy l e) :: H)) :
    TO x false ops (⟨some dd, .convert s t y, ty, pos, aft, none⟩ :: rest) ks ⟨n, m, ds⟩ H :=
  to_step (fun _ h => by cases h) (fun a w ea st => by
    have hsz : ByteArray.size ⟨l.toArray⟩ = l.length := by simp [ByteArray.size]
    have hrun := Lib.run_convert_string_bytes (P := x.P) w s t e ⟨l.toArray⟩ hs.string ht.slice he.int
    rw [hsz] at hrun
    have hbl : Below w.heap.size w (Lib.bytesWorld w e ⟨l.toArray⟩) := ⟨rfl, rfl, rfl, by rw [Lib.bytesWorld_size]; omega, fun k hk => Lib.bytesWorld_at_old w e _ k hk⟩
    refine ⟨_, _, ?_, _, st.newB hbl (Lib.bytesWorld_size _ _ _) (Lib.bytesWorld_at_new _ _ _) (p := isBy l e) ⟨List.replicate (grownCap w l.length 0 e - l.length) (.int .u8 0), ?_⟩, h w.heap.size (grownCap w l.length 0 e)⟩
    · simp only [execOp]; rw [ea.ev hy, Sem.run_bind, hrun]; rfl
    · simp [Lib.bytesCells, hsz]) hd
theorem to_stB {t b2 e : TypeId} {zz : List ZV} {y z : Operand} {g k : Nat} {l : List UInt8} {c : UInt8} (hy : ev m y = some (.pointer (some (ead (some ⟨g, 0, none⟩) 1 k 0)))) {q : Int} (hz : ev m z = some (.int .u8 q)) (hq : q = ((c.toNat : Nat) : Int)) [ho : OwnAt g H (isBy l e) H2] [ht : Ty x.P t ⟨.int .u8, 1, b2, zz⟩]
    (hk : k < l.length) (h : TO x false ops rest ks ⟨n, m, ds⟩ (.own g (isBy (l.set k c) e) :: H2)) :
    TO x false ops (⟨none, .store t y z, ty, pos, aft, none⟩ :: rest) ks ⟨n, m, ds⟩ H :=
  to_step0 (fun _ h => by cases h) (fun a w ea s => by
    subst hq
    have s2 := s.perm ho.perm
    obtain ⟨ob, hob, r, hpo⟩ := s.own_at (b := g)
    subst hpo
    have hN : k < (l.map byV ++ r).length := by simp; omega
    have hcell : w.cell? ⟨g, k, none⟩ = some (byV l[k]) := by
      simp [World.cell?, hob]
      rw [List.getElem?_append_left (by simpa using hk)]; simp [hk]
    have hfz : w.frozen? ⟨g, k, none⟩ = false := by simp [World.frozen?, hob]; omega
    have hrun : (Go.store (⟨g, k, none⟩ : Addr) (byV c)).run x.P w = .ok () (w.setCell ⟨g, k, none⟩ (byV c)) := by
      simp [Go.store, Sem.run, hcell, hfz]
    have hset : (w.setCell ⟨g, k, none⟩ (byV c)).heap[g]? = some (.cells ((l.set k c).map byV ++ r).toArray e (((l.set k c).map byV ++ r).length, ((l.set k c).map byV ++ r).length + 1)) := by
      simp only [World.setCell, Array.getElem?_modify, if_true, hob, Option.map_some, Option.isSome_none, Bool.false_eq_true, if_false]
      congr 2
      · apply Array.toList_inj.1
        simp [Array.toList_setIfInBounds, List.set_append_left, hk, List.map_set]
      · simp
    refine ⟨_, ?_, _, s2.upd (w' := w.setCell ⟨g, k, none⟩ (byV c)) rfl rfl rfl (by simp [World.setCell]) (fun j hj => Below.heap_setCell _ _ _ _ (show j ≠ g from by simp [Seg.lo, Seg.hi] at hj; omega)) (s' := .own g (isBy (l.set k c) e)) rfl rfl ⟨_, hset, r, rfl⟩, h⟩
    have hadd : ead (some (⟨g, 0, none⟩ : Addr)) 1 k 0 = ⟨g, k, none⟩ := by rw [ead_some, add_block _ _ rfl]; simp
    simp only [execOp]; rw [ea.ev hy, ea.ev hz, hadd]
    simp only [Instr.storeAt, Instr.sureAddr, storeVar, Sem.run_bind, run_ok, Result.andThen, ht.sizeOf]
    have hc : (Value.int .u8 ((c.toNat : Nat) : Int)).cells = #[byV c] := rfl
    have h0 : (⟨g, k, none⟩ : Addr).add 0 = ⟨g, k, none⟩ := by simp [Addr.add]
    simp only [hc]
    rw [if_neg (by simp)]
    simp only [storeCells, Sem.run_bind, h0, hrun, Result.andThen]
    rfl)
theorem fold_push : ∀ (l l0 : List UInt8), (l.map fun b => ((b.toNat : Nat) : Int)).foldl (fun r q => r.push (UInt8.ofNat q.toNat)) (⟨l0.toArray⟩ : ByteArray) = ⟨(l0 ++ l).toArray⟩
  | [], l0 => by simp
  | b :: l, l0 => by
    have e : (⟨l0.toArray⟩ : ByteArray).push (UInt8.ofNat (((b.toNat : Nat) : Int)).toNat) = ⟨(l0 ++ [b]).toArray⟩ := by
      apply ByteArray.ext
      simp [ByteArray.push]
    rw [List.map_cons, List.foldl_cons, e, fold_push l (l0 ++ [b])]
    simp
theorem to_btb {s t e b1 b2 b3 b4 b5 b6 : TypeId} {zz zz2 zz3 : List ZV} {y : Operand} {g c nn : Nat} {l : List UInt8} (hy : ev m y = some (.slice (some ⟨g, 0, none⟩) nn c)) (hnn : nn = l.length) [ho : OwnAt g H (isBy l e) H2] [hs : Ty x.P s ⟨.slice e, b1, b2, zz⟩] [he : Ty x.P e ⟨.int .u8, b3, b4, zz2⟩] [ht : Ty x.P t ⟨.string, b5, b6, zz3⟩] (hd : Nat.blt dd n = true)
    (h : TO x d ops rest ks ⟨n, (dd, .string ⟨l.toArray⟩) :: m, ds⟩ H) : TO x d ops (⟨some dd, .convert s t y, ty, pos, aft, none⟩ :: rest) ks ⟨n, m, ds⟩ H :=
  to_pure _ (fun _ h => by cases h) (fun a' w ea s' => by
    subst hnn
    obtain ⟨ob, hob, r, hpo⟩ := s'.own_at (b := g)
    subst hpo
    have hl : (loadCells (⟨g, 0, none⟩ : Addr) l.length).run x.P w = .ok ((l.map fun b => ((b.toNat : Nat) : Int)).map (Value.int .u8)).toArray w := by
      have := run_loadCells (P := x.P) (w := w) (a := ⟨g, 0, none⟩) (vs := l.map byV) (fun j v hv => by
        have hj := (List.getElem?_eq_some_iff.1 hv).1
        rw [add_block _ _ rfl]
        simp only [World.cell?, hob]
        simp only [Nat.zero_add, List.getElem?_toArray]
        rw [List.getElem?_append_left hj]; exact hv)
      rw [List.length_map] at this
      rw [this, List.map_map]; rfl
    have h2 := run_bytesToString (P := x.P) w ⟨g, 0, none⟩ l.length c _ hl
    have h3 := fold_push l []
    rw [show (ByteArray.empty : ByteArray) = ⟨([] : List UInt8).toArray⟩ from rfl, h3, List.nil_append] at h2
    simp only [execOp]; rw [ea.ev hy, Sem.run_bind, run_convert_bytes_string (P := x.P) w s t e _ _ _ hs.slice he.int ht.string, h2]
    rfl) hd h
/-- The address of an element, where only the slice is known. -/
theorem to_ixs {t e b1 b2 : TypeId} {zz : List ZV} {ei : TI} {y i : Operand} {ad : Addr} {l c0 sz k : Nat} (hy : ev m y = some (.slice (some ad) l c0)) (hi : ev m i = some (.int .i64 (Int.ofNat k)))
    [ht : Ty x.P t ⟨.slice e, b1, b2, zz⟩] [he : Ty x.P e ei] (hsz : ei.size = sz) (hk : k < l) (hd : Nat.blt dd n = true)
    (h : TO x d ops rest ks ⟨n, (dd, .pointer (some (ead (some ad) sz k 0))) :: m, ds⟩ H) :
    TO x d ops (⟨some dd, .indexAddr t y i, ty, pos, aft, none⟩ :: rest) ks ⟨n, m, ds⟩ H :=
  to_pure _ (fun _ h => by cases h) (fun a' w e' s => by
    have hk' : (0 : Int) ≤ (k : Int) ∧ (k : Int) < (l : Int) := ⟨Int.natCast_nonneg k, Int.ofNat_lt.2 hk⟩
    simp only [execOp]; rw [e'.ev hy, e'.ev hi]
    simp only [Instr.indexAt, asIntOf, Sem.run_bind, run_ok, Result.andThen, run_underlying ht.slice, if_pos hk', he.sizeOf, hsz, ead_some, Int.ofNat_eq_natCast, Int.toNat_natCast, Nat.add_zero]) hd h
end
end Go.Sx

