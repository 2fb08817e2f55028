/- PayReads: for every input the law returns true, and each argument reads behind the call as it read before. Conditions: the package-level variables that the row lists hold what the program's text lays (tied by the card). -/
import Derived.Test.YtpnjgmioohofcabGreatDoorOwnB
import Derived.Test.YtpnjgmioohofcabGreatDoorOwnF
import Derived.ChangeMaps5
import Derived.LaidOnce
import Derived.SevenTiedAt
import Derived.Test.YtpnjgmioohofcabGreatDoorTie
import Derived.Test.YtpnjgmioohofcabGreatDoorCards
set_option linter.unusedVariables false
set_option linter.unusedSimpArgs false

namespace Go.Sx
open Go Go.RowKit

/-! ### Mixed regions whose operations are taken in an order of our own -/

section mixed
variable {P : Program} {ops : Array Oper} {md : Region.Mode} {C : World → Prop} {S : List Nat}

def wpOrd (P : Program) (ops : Array Oper) (S : List Nat) (C : World → Prop) (Q : (World → Prop) → Act → Prop) : List (Nat × Oper) → (World → Prop) → Act → Prop
  | [], D, a => Q D a
  | (k, o) :: rest, D, a => if Region.wanted o (yielded ops a.tmps) then
      if S.contains k then ∀ w, D w → o.wpIn (WF none) 0 P a w (fun a' w' => a'.defers = a.defers ∧ ∃ D', Fine ops C k D' ∧ D' w' ∧ wpOrd P ops S C Q rest D' a') QF
      else ∃ v, quietM P C o a v ∧ wpOrd P ops S C Q rest D (a.put o.dst v)
    else wpOrd P ops S C Q rest D (a.put o.dst undef)

def ordFrom (md : Region.Mode) (ops : Array Oper) (S : List Nat) : List (Nat × Oper) → Array Bool → Bool
  | [], listed => (Region.ready md ops listed).isEmpty
  | (k, _) :: l, listed => (if S.contains k then Region.ready md ops listed == [k] else (Region.ready md ops listed).contains k && Region.free md ops listed k) && ordFrom md ops S l (listed.setIfInBounds k true)

def nthO : List Oper → Nat → Option Oper
  | [], _ => none
  | o :: _, 0 => some o
  | _ :: l, k + 1 => nthO l k
theorem nthO_eq : ∀ (l : List Oper) (k : Nat), nthO l k = l[k]?
  | [], k => by simp [nthO]
  | o :: l, 0 => by simp [nthO]
  | o :: l, k + 1 => by simp [nthO, nthO_eq l k]
/-- The operations in an order of our own. -/
def plan (l : List Oper) : List Nat → List (Nat × Oper)
  | [] => []
  | k :: L => match nthO l k with
    | some o => (k, o) :: plan l L
    | none => plan l L
theorem plan_at {l : List Oper} : ∀ {L : List Nat}, ∀ p ∈ plan l L, l.toArray[p.1]? = some p.2
  | [], p, hp => by simp [plan] at hp
  | k :: L, p, hp => by
    simp only [plan] at hp
    split at hp
    · rename_i o ho
      rcases List.mem_cons.1 hp with rfl | hp
      · rw [nthO_eq] at ho; simpa using ho
      · exact plan_at p hp
    · exact plan_at p hp

theorem mAny_ord {Q : (World → Prop) → Act → Prop} (hs : Region.noSelect ops = true) (hnd : noDefer ops = true) : ∀ (l : List (Nat × Oper)) (listed : Array Bool) (D : World → Prop) (a : Act), (∀ p ∈ l, ops[p.1]? = some p.2) →
    ordFrom md ops S l listed = true → wpOrd P ops S C Q l D a → mAny P md ops S C Q l.length listed D a
  | [], _, _, _, _, hB, h => ⟨by simpa [ordFrom] using hB, h⟩
  | (k, o) :: l, listed, D, a, hl, hB, h => by
    have h0 : ops[k]? = some o := hl (k, o) (List.mem_cons_self ..)
    simp only [ordFrom, Bool.and_eq_true] at hB
    obtain ⟨hr, hB'⟩ := hB
    have hst : mOp P ops S C D k (fun D' a' => wpOrd P ops S C Q l D' a') a := by unfold mOp; simp only [h0]; exact h
    have hnext := fun D' a' (h : wpOrd P ops S C Q l D' a') => mAny_ord (Q := Q) hs hnd l (listed.setIfInBounds k true) D' a' (fun p hp => hl p (List.mem_cons_of_mem _ hp)) hB' h
    cases hS : S.contains k with
    | true =>
      rw [hS] at hr
      have hr' : Region.ready md ops listed = [k] := by simpa using hr
      refine ⟨fun h => (by rw [hr'] at h; cases h), fun i hi => ?_⟩
      rw [hr'] at hi
      have : i = k := by simpa using hi
      subst this
      exact mOp_mono hnext hst
    | false =>
      rw [hS] at hr
      simp only [Bool.false_eq_true, if_false, Bool.and_eq_true] at hr
      obtain ⟨v, hy, hK⟩ := yieldsM_of_op h0 hS hst
      exact mAny_first (noDefer_spec hnd) h0 hS (Region.noSelect_spec hs) l.length listed D a (Region.free_spec h0 hr.2) (by simpa using hr.1) hy (hnext _ _ hK)

def ordB (l : List Oper) (S L : List Nat) : Bool := Region.noSelect l.toArray && noDefer l.toArray && Nat.beq (plan l L).length l.toArray.size && ordFrom .any l.toArray S (plan l L) (Array.replicate l.toArray.size false)

theorem wpIn_region_ord {id : Nat} {Q : Exit → Act → World → Prop} {a : Act} {w : World} {l : List Oper} (S L : List Nat) (C D : World → Prop) (hm : P.follows .mixedOrders = true) (hB : ordB l S L = true) (hg : Good C D)
    (hD : D { w with drawn := w.drawn + 1 }) (h : wpOrd P l.toArray S C (fun D a' => ∀ w', D w' → Q .normal a' w') (plan l L) D a) : (Code.region id l.toArray true).wpIn (WF none) 0 P Q a w := by
  simp only [ordB, Bool.and_eq_true] at hB
  refine wpIn_region_any hm (wpAnyIn_of_m (S := S) (noDefer_spec hB.1.1.2) (Q := fun D a' => ∀ w', D w' → Q .normal a' w') (fun D a w h hw => h w hw) _ _ D _ _ (.inl hg) hD ?_)
  have := mAny_ord (P := P) (C := C) (md := .any) (S := S) hB.1.1.1 hB.1.1.2 (plan l L) (Array.replicate l.toArray.size false) D a plan_at hB.2 h
  rw [Nat.eq_of_beq_eq_true hB.1.2] at this
  exact this
end mixed

def TP (x : Cx) (S : List Nat) (ops : Array Oper) (rest : List (Nat × Oper)) (ks : List KI) (E : Env) (Hb H : List Seg) : Prop :=
  ∀ a, E.ok a → (∃ w, St x.w0 Hb w) → wpOrd x.P ops S (St x.w0 Hb) (fun D a' => ∀ w', D w' → Qk x ks .normal a' w') rest (St x.w0 H) a

def MP (x : Cx) (S : List Nat) (k : Nat) (ops : Array Oper) (rest : List (Nat × Oper)) (ks : List KI) (ds : List Deferred) (Hb : List Seg) (a : Act) (w : World) : Prop :=
  a.defers = ds ∧ ∃ D', Fine ops (St x.w0 Hb) (k - 1) D' ∧ D' w ∧ wpOrd x.P ops S (St x.w0 Hb) (fun D a' => ∀ w', D w' → Qk x ks .normal a' w') rest D' a

section
variable {x : Cx} {S : List Nat} {k : Nat} {ops : Array Oper} {rest : List (Nat × Oper)} {ks : List KI} {E : Env} {Hb H : List Seg}

theorem t_regP {id : Nat} {l : List Oper} (S L : List Nat) (Hb : List Seg) (hr : x.r = none) (hm : x.P.follows .mixedOrders = true) (hB : ordB l S L = true) [SubH Hb H] (h : TP x S l.toArray (plan l L) ks E Hb H) : T x ks (.region id l.toArray true) E H := by
  intro a w e s
  rw [hr]
  exact wpIn_region_ord S L (St x.w0 Hb) (St x.w0 H) hm hB st_good s.drew (h a e ⟨w, s.sub⟩)

theorem tp_nil (h : TX x .normal ks E H) : TP x S ops [] ks E Hb H := fun a e _ w s => h a w e s

/-- A quiet operation: its rule, applied to it alone. -/
theorem tp_q {o : Oper} (E' : Env) (hS : S.contains k = false) (hq : TO x.nx true ops [o] [.inv (fun a _ => E'.ok a)] E Hb) (h : TP x S ops rest ks E' Hb H) : TP x S ops ((k, o) :: rest) ks E Hb H := by
  intro a e hne
  have h1 := hq a e
  have ⟨w, hw⟩ := hne
  simp only [wpQM] at h1
  simp only [wpOrd, hS, Bool.false_eq_true, if_false]
  split
  · rename_i hwt
    simp only [hwt, if_true] at h1
    obtain ⟨v, h2, h3⟩ := h1
    exact ⟨v, h2, h _ (h3 w hw) hne⟩
  · rename_i hwt
    simp only [hwt] at h1
    exact h _ (h1 w hw) hne

theorem tpq_end {E : Env} {x : Cx} {ops : Array Oper} {H : List Seg} : TO x true ops [] [.inv (fun a _ => E.ok a)] E H := fun _ e _ _ => e

/-- One that turns the world. -/
theorem tp_s {o : Oper} (hS : S.contains k = true) (hs : TO x.nx false ops [o] [.inv (MP x S (k + 1) ops rest ks E.ds Hb)] E H) (hnd : ∀ c, o.op ≠ .defer c) (hg : o.guard = none) : TP x S ops ((k, o) :: rest) ks E Hb H := by
  intro a e hne
  have hw : Region.wanted o (yielded ops a.tmps) = true := by unfold Region.wanted; rw [hg]
  simp only [wpOrd, hS, hw, if_true]
  intro w s
  have h1 := hs a w e s
  simp only [wpListIn, hw, if_true] at h1
  refine ⟨fun _ _ => trivial, ?_⟩
  have h2 := h1.2
  have hQ : Qk x.nx [.inv (MP x S (k + 1) ops rest ks E.ds Hb)] = Exit.then (MP x S (k + 1) ops rest ks E.ds Hb) QF := rfl
  rw [hQ] at h2
  have hL : LetsOut (Exit.then (MP x S (k + 1) ops rest ks E.ds Hb) QF) → LetsOut QF := fun ⟨_, _, h⟩ => ⟨a, w, h⟩
  have h2' : o.uponIn (WF none) 0 x.P a (MP x S (k + 1) ops rest ks E.ds Hb) (Exit.then (MP x S (k + 1) ops rest ks E.ds Hb) QF) ((o.semAt none a.eval).run x.P w) := h2
  have h3 : o.uponIn (WF none) 0 x.P a (MP x S (k + 1) ops rest ks E.ds Hb) QF ((o.semAt none a.eval).run x.P w) := by
    generalize (o.semAt none a.eval).run x.P w = r at h2'
    unfold Oper.uponIn at *
    split <;> simp only at h2'
    · exact h2'
    · exact h2'
    · exact h2'
    · exact ⟨h2'.1, h2'.2.mono fun e w' he => by
        cases e with
        | returned v => exact he
        | panicked c => exact he
        | outgrown => exact hL he⟩
    · exact h2'
    · exact ⟨h2'.1, h2'.2.mono fun e w' he => by
        cases e with
        | returned v => exact he
        | panicked c => exact he
        | outgrown => exact hL he⟩
    · exact h2'
  refine upon_mono (fun a' w' h' => ?_) h3
  obtain ⟨h4, D', h5, h6, h7⟩ := h'
  exact ⟨h4.trans e.ds.symm, D', h5, h6, h7⟩

theorem tp_se {ds : List Deferred} [SubH Hb H] (hds : E.ds = ds) (h : TP x S ops rest ks E Hb H) : TO x.nx false ops [] [.inv (MP x S k ops rest ks ds Hb)] E H := fun a w e s =>
  ⟨e.ds.trans hds, St x.w0 H, .inr st_good, s, h a e ⟨w, s.sub⟩⟩

theorem tp_se2 {ds : List Deferred} (hsub : ∀ w, St x.w0 H w → St x.w0 Hb w) (hds : E.ds = ds) (h : TP x S ops rest ks E Hb H) : TO x.nx false ops [] [.inv (MP x S k ops rest ks ds Hb)] E H := fun a w e s =>
  ⟨e.ds.trans hds, St x.w0 H, .inr ⟨fun _ _ h hb => h.below hb, hsub⟩, s, h a e ⟨w, hsub w s⟩⟩

/-- Behind the last operation of all. -/
theorem tp_sl {ds : List Deferred} (hl : lastB ops = true) (hk : Nat.beq k ops.size = true) (hds : E.ds = ds) (h : TX x .normal ks E H) : TO x.nx false ops [] [.inv (MP x S k ops [] ks ds Hb)] E H := fun a w e s =>
  ⟨e.ds.trans hds, St x.w0 H, .inl ⟨hl, by have := Nat.eq_of_beq_eq_true hk; have h0 : 0 < ops.size := (by unfold lastB at hl; rcases Nat.eq_zero_or_pos ops.size with h0 | h0; (rw [h0] at hl; rw [Array.getElem?_eq_none (by omega)] at hl; cases hl); exact h0); omega⟩, s, fun w' hw' => h a w' e hw'⟩

/-- A guarded operation, as without a guard. -/
theorem tp_gt {op : Op} {ty : TypeId} {pos : String} {aft : Array Edge} {dst : Option Nat} {j : Nat} {want : Bool} {s : Nat}
    (hs : (ops[j]?).bind (·.dst) = some s) (hv : lk E.m s = some (.bool want)) (h : TP x S ops ((k, ⟨dst, op, ty, pos, aft, none⟩) :: rest) ks E Hb H) : TP x S ops ((k, ⟨dst, op, ty, pos, aft, some (j, want)⟩) :: rest) ks E Hb H := by
  intro a e hne
  have hw : Region.wanted ⟨dst, op, ty, pos, aft, some (j, want)⟩ (yielded ops a.tmps) = true := by
    simp [Region.wanted, yielded, hs, e.get _ _ hv]
  have h1 := h a e hne
  simp only [wpOrd, Region.wanted, if_true] at h1
  simp only [wpOrd, hw, if_true]
  exact h1

theorem tp_gf {n : Nat} {m : List (Nat × Value)} {ds : List Deferred} {op : Op} {ty : TypeId} {pos : String} {aft : Array Edge} {dd : Nat} {j : Nat} {want : Bool} {s : Nat} {u : Value}
    (hs : (ops[j]?).bind (·.dst) = some s) (hv : lk m s = some u) (hu : (match u with | .bool b => b == want | _ => false) = false) (hd : Nat.blt dd n = true)
    (h : TP x S ops rest ks ⟨n, (dd, undef) :: m, ds⟩ Hb H) : TP x S ops ((k, ⟨some dd, op, ty, pos, aft, some (j, want)⟩) :: rest) ks ⟨n, m, ds⟩ Hb H := by
  intro a e hne
  have hw : Region.wanted ⟨some dd, op, ty, pos, aft, some (j, want)⟩ (yielded ops a.tmps) = false := by
    have := e.get _ _ hv
    simp only [Region.wanted, yielded, hs, Option.bind_some, this]
    cases u <;> simp_all
  simp only [wpOrd, hw]
  exact h _ (e.put hd undef) hne

theorem tp_gs {n : Nat} {m : List (Nat × Value)} {ds : List Deferred} {o : Oper} {j : Nat} {want b : Bool} {s : Nat}
    (_hg : o.guard = some (j, want)) (_hs : (ops[j]?).bind (·.dst) = some s) (hv : lk m s = some (.bool b))
    (ht : b = true → TP x S ops ((k, o) :: rest) ks ⟨n, (s, .bool true) :: m, ds⟩ Hb H) (hf : b = false → TP x S ops ((k, o) :: rest) ks ⟨n, (s, .bool false) :: m, ds⟩ Hb H) : TP x S ops ((k, o) :: rest) ks ⟨n, m, ds⟩ Hb H := by
  have key : ∀ a, Env.ok ⟨n, m, ds⟩ a → Env.ok ⟨n, (s, .bool b) :: m, ds⟩ a := by
    intro a e
    refine ⟨e.size, e.ds, fun t u hu => ?_⟩
    simp only [lk] at hu
    cases hb : Nat.beq s t with
    | true =>
      rw [hb] at hu; cases hu
      have e' : s = t := Nat.eq_of_beq_eq_true hb
      subst e'; exact e.get _ _ hv
    | false => rw [hb] at hu; exact e.get _ _ hu
  cases b with
  | true => exact fun a e hne => ht rfl a (key a e) hne
  | false => exact fun a e hne => hf rfl a (key a e) hne

end

end Go.Sx



namespace Go.Sx
open Go Go.RowKit

/-! ### Rows in a list that grows: it stands at the end of the segments -/

class TailH (A H : List Seg) : Prop where
  sub : ∃ R, H.Perm (A ++ R)
instance TailH.refl (A : List Seg) : TailH A A := ⟨[], by simp⟩
instance TailH.skip (A H : List Seg) (s : Seg) [h : TailH A H] : TailH A (s :: H) :=
  ⟨let ⟨R, h1⟩ := h.sub; ⟨s :: R, (h1.cons s).trans List.perm_middle.symm⟩⟩
instance (priority := low) SubH.tail (A H : List Seg) [h : TailH A H] : SubH A H := ⟨h.sub⟩

class RowIn (a : Option Addr) (H : List Seg) (n cap t sz : outParam Nat) (xs : outParam (List (List Value))) : Prop where
  mem : .row a n cap t sz xs ∈ H
instance RowIn.skip (a : Option Addr) (s : Seg) (H : List Seg) (n cap t sz : Nat) (xs : List (List Value)) [h : RowIn a H n cap t sz xs] : RowIn a (s :: H) n cap t sz xs := ⟨List.mem_cons_of_mem _ h.mem⟩
instance (priority := low) Rd.rowin {w0 : World} {H : List Seg} {a : Option Addr} {n cap t sz : Nat} {xs : List (List Value)} [h : RowIn a H n cap t sz xs] : Rd w0 H a n cap sz xs :=
  ⟨fun w s => RowOk.ro (s.ok _ h.mem)⟩
end Go.Sx



namespace Go.Sx
open Go Go.RowKit

/-! ### Parts of texts -/

theorem bytes_extract (l : List UInt8) (k q : Nat) : ByteArray.extract ⟨l.toArray⟩ k q = ⟨((l.drop k).take (q - k)).toArray⟩ := by
  apply ByteArray.ext
  rw [ByteArray.data_extract]
  simp [List.extract]
section
variable {x : Cx} {d : Bool} {ops : Array Oper} {rest : List Oper} {ks : List KI} {n : Nat} {m : List (Nat × Value)} {ds : List Deferred} {H : List Seg}
variable {ty : TypeId} {pos : String} {aft : Array Edge} {dd : Nat}
theorem to_ssM {t b1 b2 : TypeId} {zz : List ZV} {y loO hiO : Operand} {l : List UInt8} {k q : Nat} (hy : ev m y = some (.string ⟨l.toArray⟩)) (hl : ev m loO = some (.int .i64 (Int.ofNat k))) (hh : ev m hiO = some (.int .i64 (Int.ofNat q))) [ht : Ty x.P t ⟨.string, b1, b2, zz⟩]
    (hk : k ≤ q) (hq : q ≤ l.length) (hd : Nat.blt dd n = true) (h : TO x d ops rest ks ⟨n, (dd, .string ⟨((l.drop k).take (q - k)).toArray⟩) :: m, ds⟩ H) :
    TO x d ops (⟨some dd, .slice t y (some loO) (some hiO) none, ty, pos, aft, none⟩ :: rest) ks ⟨n, m, ds⟩ H :=
  to_pure _ (fun _ h => by cases h) (fun a' w ea s => by
    have hsz : ByteArray.size ⟨l.toArray⟩ = l.length := by simp [ByteArray.size]
    simp only [execOp, Option.map_none, Option.map_some]; rw [ea.ev hy, ea.ev hl, ea.ev hh]
    simp only [Instr.sliceAt, Sem.run_bind, run_underlying ht.string, Result.andThen, Instr.slice, Instr.sliceBounds, run_ok, hsz, run_bound q l.length _ hq, run_bound k q _ hk, Option.isSome_none, Bool.false_eq_true, if_false, bytes_extract]) hd h
theorem to_ssL {t b1 b2 : TypeId} {zz : List ZV} {y loO : Operand} {l : List UInt8} {k : Nat} (hy : ev m y = some (.string ⟨l.toArray⟩)) (hl : ev m loO = some (.int .i64 (Int.ofNat k))) [ht : Ty x.P t ⟨.string, b1, b2, zz⟩]
    (hk : k ≤ l.length) (hd : Nat.blt dd n = true) (h : TO x d ops rest ks ⟨n, (dd, .string ⟨(l.drop k).toArray⟩) :: m, ds⟩ H) :
    TO x d ops (⟨some dd, .slice t y (some loO) none none, ty, pos, aft, none⟩ :: rest) ks ⟨n, m, ds⟩ H :=
  to_pure _ (fun _ h => by cases h) (fun a' w ea s => by
    have hsz : ByteArray.size ⟨l.toArray⟩ = l.length := by simp [ByteArray.size]
    simp only [execOp, Option.map_none, Option.map_some]; rw [ea.ev hy, ea.ev hl]
    simp only [Instr.sliceAt, Sem.run_bind, run_underlying ht.string, Result.andThen, Instr.slice, Instr.sliceBounds, run_ok, hsz, run_bound k l.length _ hk, Option.isSome_none, Bool.false_eq_true, if_false, bytes_extract]
    rw [show (l.drop k).take (l.length - k) = l.drop k from List.take_of_length_le (by rw [List.length_drop]; exact Nat.le_refl _)]) hd h
theorem to_quoE {t t2 : TypeId} {y z : Operand} {p q r : Int} (hy : ev m y = some (.int .i64 p)) (hz : ev m z = some (.int .i64 q)) (hq : q ≠ 0) (he : IntKind.i64.wrap (p.tdiv q) = r)
    (hd : Nat.blt dd n = true) (h : TO x d ops rest ks ⟨n, (dd, .int .i64 r) :: m, ds⟩ H) : TO x d ops (⟨some dd, .binOp .quo t y z t2, ty, pos, aft, none⟩ :: rest) ks ⟨n, m, ds⟩ H := by
  subst he; exact to_quow hy hz hq hd h
theorem to_remE {t t2 : TypeId} {y z : Operand} {p q r : Int} (hy : ev m y = some (.int .i64 p)) (hz : ev m z = some (.int .i64 q)) (hq : q ≠ 0) (he : p.tmod q = r)
    (hd : Nat.blt dd n = true) (h : TO x d ops rest ks ⟨n, (dd, .int .i64 r) :: m, ds⟩ H) : TO x d ops (⟨some dd, .binOp .rem t y z t2, ty, pos, aft, none⟩ :: rest) ks ⟨n, m, ds⟩ H := by
  subst he; exact to_remw hy hz hq hd h
theorem to_lssk {t t2 : TypeId} {k : IntKind} {y z : Operand} {p q : Int} (hy : ev m y = some (.int k p)) (hz : ev m z = some (.int k q))
    (hd : Nat.blt dd n = true) (h : TO x d ops rest ks ⟨n, (dd, .bool (decide (p < q))) :: m, ds⟩ H) : TO x d ops (⟨some dd, .binOp .lss t y z t2, ty, pos, aft, none⟩ :: rest) ks ⟨n, m, ds⟩ H :=
  to_bin hy hz (fun w => run_binK (by simp only [binOp, Op.intCmp, ne_eq, not_true, if_false]; rfl)) hd h
theorem to_gtrk {t t2 : TypeId} {k : IntKind} {y z : Operand} {p q : Int} (hy : ev m y = some (.int k p)) (hz : ev m z = some (.int k q))
    (hd : Nat.blt dd n = true) (h : TO x d ops rest ks ⟨n, (dd, .bool (decide (p > q))) :: m, ds⟩ H) : TO x d ops (⟨some dd, .binOp .gtr t y z t2, ty, pos, aft, none⟩ :: rest) ks ⟨n, m, ds⟩ H :=
  to_bin hy hz (fun w => run_binK (by simp only [binOp, Op.intCmp, ne_eq, not_true, if_false]; rfl)) hd h
theorem to_eqlk {t t2 : TypeId} {k : IntKind} {y z : Operand} {p q : Int} (hy : ev m y = some (.int k p)) (hz : ev m z = some (.int k q))
    (hd : Nat.blt dd n = true) (h : TO x d ops rest ks ⟨n, (dd, .bool (decide (p = q))) :: m, ds⟩ H) : TO x d ops (⟨some dd, .binOp .eql t y z t2, ty, pos, aft, none⟩ :: rest) ks ⟨n, m, ds⟩ H :=
  to_bin hy hz (fun w => run_binK (by
    have e : (p == q) = decide (p = q) := by rw [Bool.eq_iff_iff]; simp
    simp only [binOp, Op.intCmp, ne_eq, not_true, if_false, e]; rfl)) hd h
end
end Go.Sx


namespace Go.Proofs
open Go Go.Sx Go.RowKit

theorem ieq_refl : ∀ {vs : List Value}, isI vs → ieq vs vs = true
  | [], _ => rfl
  | v :: vs, h => by
    obtain ⟨i, rfl⟩ := h v (List.mem_cons_self ..)
    have ih := ieq_refl (vs := vs) (fun u hu => h u (List.mem_cons_of_mem _ hu))
    simp only [ieq, ih, Bool.and_true]; simp
theorem isI_mon (m : Mon) : isI (monC m) := allI_isI rfl
theorem isI_span (s : Int × Int) : isI (spanC s) := allI_isI rfl
theorem far_t {m : Mon} (h : isMon m = true) : payFar m = (monN m, 0) := by simp [payFar, h]
theorem far_f {m : Mon} (h : isMon m = false) : payFar m = (0, 2) := by simp [payFar, h]
theorem mny_t {n : Int} (h : isSum n = true) : payMoney n = (monOf n, 0) := by simp [payMoney, h]
theorem mny_f {n : Int} (h : isSum n = false) : payMoney n = (⟨0, 0, 0, 0⟩, 2) := by simp [payMoney, h]
theorem c_far_t {m : Mon} (h : isMon m = true) (w : World) : Calls Tryz.prog 37 #[monV m] w (RetV w (.tuple #[.int .i64 (monN m), .int .i64 0])) := by
  have := pay_Farthings m w
  rw [far_t h] at this; exact this
theorem c_far_f {m : Mon} (h : isMon m = false) (w : World) : Calls Tryz.prog 37 #[monV m] w (RetV w (.tuple #[.int .i64 0, .int .i64 2])) := by
  have := pay_Farthings m w
  rw [far_f h] at this; exact this
theorem c_mny_t {n : Int} (h : isSum n = true) (w : World) : Calls Tryz.prog 38 #[.int .i64 n] w (RetV w (.tuple #[monV (monOf n), .int .i64 0])) := by
  have := pay_Money n w
  rw [mny_t h] at this; exact this
theorem c_mny_f {n : Int} (h : isSum n = false) (w : World) : Calls Tryz.prog 38 #[.int .i64 n] w (RetV w (.tuple #[monV ⟨0, 0, 0, 0⟩, .int .i64 2])) := by
  have := pay_Money n w
  rw [mny_f h] at this; exact this
theorem bool_tf (b : Bool) : b = true ∨ b = false := by cases b <;> simp

end Go.Proofs


namespace Go.Proofs
open Go Go.Sx Go.RowKit

/-! # What is printed is read as it was -/

def rtAll : Bool := (List.range 1000).all fun n => numB (decB (n : Int)) == some (n : Int) && (decB (n : Int)).all isDg && ((decB (n : Int)).length == if n < 10 then 1 else if n < 100 then 2 else 3)
theorem rtAll_t : rtAll = true := by kernel_rfl
theorem dec_rt {n : Int} (h : 0 ≤ n ∧ n ≤ 999) : numB (decB n) = some n ∧ (decB n).all isDg = true ∧ (decB n).length = if n < 10 then 1 else if n < 100 then 2 else 3 := by
  obtain ⟨k, rfl⟩ := Int.eq_ofNat_of_zero_le h.1
  have h1 := List.all_eq_true.1 rtAll_t k (List.mem_range.2 (by omega))
  simp only [Bool.and_eq_true, beq_iff_eq] at h1
  refine ⟨h1.1.1, h1.1.2, ?_⟩
  rw [h1.2]
  split <;> split <;> (try split) <;> (try split) <;> first | rfl | omega
theorem dg_ne {c : UInt8} (h : isDg c = true) : c ≠ 32 ∧ c ≠ 10 := by
  simp only [isDg, Bool.and_eq_true, decide_eq_true_eq] at h
  constructor <;> (rintro rfl; revert h; decide)

theorem split_ne (c : UInt8) (s : Bs) : ∃ w ws, splitL c s = w :: ws := by
  have := (splitL_len c s).1
  cases hq : splitL c s with
  | nil => rw [hq] at this; simp at this
  | cons w ws => exact ⟨w, ws, rfl⟩
/-- A part that lacks the byte, and the byte behind it. -/
theorem split_app {c : UInt8} : ∀ {w : Bs}, (∀ x ∈ w, x ≠ c) → ∀ s, splitL c (w ++ c :: s) = w :: splitL c s
  | [], _, s => by simp [splitL]
  | x :: w, h, s => by
    have ih := split_app (w := w) (fun y hy => h y (List.mem_cons_of_mem _ hy)) s
    have hx := h x (List.mem_cons_self ..)
    simp only [List.cons_append, splitL, if_neg hx, ih]
theorem split_none {c : UInt8} : ∀ {w : Bs}, (∀ x ∈ w, x ≠ c) → splitL c w = [w]
  | [], _ => rfl
  | x :: w, h => by
    have ih := split_none (w := w) (fun y hy => h y (List.mem_cons_of_mem _ hy))
    have hx := h x (List.mem_cons_self ..)
    simp only [splitL, if_neg hx, ih]
theorem split_end {c : UInt8} : ∀ {a : Bs} {w : Bs}, (∀ x ∈ w, x ≠ c) → splitL c (a ++ c :: w) = splitL c a ++ [w]
  | [], w, h => by simp [splitL, split_none h]
  | x :: a, w, h => by
    have ih := split_end (a := a) h
    simp only [List.cons_append, splitL]
    by_cases hx : x = c
    · rw [if_pos hx, if_pos hx, ih]; rfl
    · rw [if_neg hx, if_neg hx, ih]
      obtain ⟨u, us, hu⟩ := split_ne c a
      rw [hu]; rfl
theorem dec_no {n : Int} (h : 0 ≤ n ∧ n ≤ 999) : (∀ x ∈ decB n, x ≠ 32) ∧ ∀ x ∈ decB n, x ≠ 10 :=
  ⟨fun x hx => (dg_ne (List.all_eq_true.1 (dec_rt h).2.1 x hx)).1, fun x hx => (dg_ne (List.all_eq_true.1 (dec_rt h).2.1 x hx)).2⟩
theorem row_split {word : Bs} {ns : List Int} (hw : ∀ x ∈ word, x ≠ 32) (hn : ∀ n ∈ ns, 0 ≤ n ∧ n ≤ 999) : ∀ k, k ≤ ns.length → splitL 32 (rowW word ns k) = word :: (ns.take k).map decB
  | 0, _ => by simp [rowW, split_none hw]
  | k + 1, hk => by
    obtain ⟨y, hy⟩ := some_get (xs := ns) (k := k) (by omega)
    rw [rowW_succ hy, List.singleton_append, split_end (dec_no (hn y (List.mem_of_getElem? hy))).1, row_split hw hn k (by omega), take_snoc hy, List.map_append]
    rfl
theorem row_no {word : Bs} {ns : List Int} (hw : ∀ x ∈ word, x ≠ 10) (hn : ∀ n ∈ ns, 0 ≤ n ∧ n ≤ 999) : ∀ k, k ≤ ns.length → ∀ x ∈ rowW word ns k, x ≠ 10
  | 0, _, x, hx => hw x hx
  | k + 1, hk, x, hx => by
    obtain ⟨y, hy⟩ := some_get (xs := ns) (k := k) (by omega)
    rw [rowW_succ hy] at hx
    rcases List.mem_append.1 hx with h | h
    · exact row_no hw hn k (by omega) x h
    · rcases List.mem_append.1 h with h | h
      · simp only [List.mem_singleton] at h; subst h; decide
      · exact (dec_no (hn y (List.mem_of_getElem? hy))).2 x h
theorem nums_rt : ∀ {ns : List Int}, (∀ n ∈ ns, 0 ≤ n ∧ n ≤ 999) → numsB (ns.map decB) = some ns
  | [], _ => rfl
  | n :: ns, h => by
    rw [List.map_cons, numsB, (dec_rt (h n (List.mem_cons_self ..))).1, nums_rt (fun m hm => h m (List.mem_cons_of_mem _ hm))]
theorem row_rt {word : Bs} {ns : List Int} (hw : ∀ x ∈ word, x ≠ 32) (hn : ∀ n ∈ ns, 0 ≤ n ∧ n ≤ 999) : rowN (rowB word ns) = some ns := by
  rw [rowN, rowB, row_split hw hn _ (Nat.le_refl _), List.drop_succ_cons, List.drop_zero, List.take_length, nums_rt hn]
theorem lines_split {ws : List Bs} (hw : ∀ w ∈ ws, ∀ x ∈ w, x ≠ 10) : ∀ k, k ≤ ws.length → ∀ s, splitL 10 (linesT ws k ++ s) = ws.take k ++ splitL 10 s
  | 0, _, s => by simp [linesT]
  | k + 1, hk, s => by
    obtain ⟨w, h⟩ := some_get (xs := ws) (k := k) (by omega)
    have e : linesT ws k ++ (w ++ [10]) ++ s = linesT ws k ++ (w ++ 10 :: s) := by simp
    rw [linesT_succ h, e, lines_split hw k (by omega), split_app (hw w (List.mem_of_getElem? h)), take_snoc h]
    simp
/-- The last line's text. -/
def endB (ws : List Bs) : Bs := [101, 110, 100, 32] ++ decB (chkR ws ws.length % 263 / 100) ++ decB (chkR ws ws.length % 263 / 10 % 10) ++ decB (chkR ws ws.length % 263 % 10)
theorem seal_eq (ws : List Bs) : sealB ws 263 = linesT ws ws.length ++ (endB ws ++ [10]) := by simp [sealB, endB]
theorem end_no (ws : List Bs) (x : UInt8) (hx : x ∈ endB ws) : x ≠ 10 := by
  have h1 := Int.emod_nonneg (chkR ws ws.length) (show (263 : Int) ≠ 0 by decide)
  have h2 := Int.emod_lt_of_pos (chkR ws ws.length) (show (0 : Int) < 263 by decide)
  simp only [endB, List.mem_append] at hx
  rcases hx with ((hx | hx) | hx) | hx
  · simp only [List.mem_cons, List.not_mem_nil, or_false] at hx
    rcases hx with rfl | rfl | rfl | rfl <;> decide
  · exact (dec_no (n := chkR ws ws.length % 263 / 100) (by omega)).2 x hx
  · exact (dec_no (n := chkR ws ws.length % 263 / 10 % 10) (by omega)).2 x hx
  · exact (dec_no (n := chkR ws ws.length % 263 % 10) (by omega)).2 x hx
theorem seal_split {ws : List Bs} (hw : ∀ w ∈ ws, ∀ x ∈ w, x ≠ 10) : splitL 10 (sealB ws 263) = ws ++ [endB ws, []] := by
  rw [seal_eq, lines_split hw _ (Nat.le_refl _), List.take_length, show endB ws ++ [10] = endB ws ++ 10 :: [] from rfl, split_app (end_no ws)]
  rfl
theorem rows_no {b : Bk} (hn : numsOk b) : ∀ w ∈ rowsB b, ∀ x ∈ w, x ≠ 10 := by
  intro w hw
  rcases List.mem_cons.1 hw with rfl | hw
  · exact row_no (by decide) hn.1 _ (Nat.le_refl _)
  · obtain ⟨l, hl, rfl⟩ := List.mem_map.1 hw
    exact row_no (by decide) (hn.2.1 l hl) _ (Nat.le_refl _)
theorem bk_rt {b : Bk} (hn : numsOk b) (tl : List Bs) : ∀ k, k ≤ b.lines.length → bkK (rowsB b ++ tl) (k + 1) = some { b with lines := b.lines.take k }
  | 0, _ => by
    have h1 : (rowsB b ++ tl)[0]? = some (hdB b) := rfl
    rw [bkK_succ (b := bk0) rfl h1]
    simp only [stepB, hdB]
    rw [row_rt (by decide) hn.1]
    simp [hdOf]
  | k + 1, hk => by
    obtain ⟨l, hl⟩ := some_get (xs := b.lines) (k := k) (by omega)
    have h1 : (rowsB b ++ tl)[k + 1]? = some (lnB l) := by
      rw [List.getElem?_append_left (by rw [rowsB_len]; omega)]
      exact rowsB_ln hl
    rw [bkK_succ (bk_rt hn tl k (by omega)) h1]
    simp only [stepB, lnB]
    rw [row_rt (by decide) (hn.2.1 l (List.mem_of_getElem? hl))]
    simp [lnOf, take_snoc hl]
theorem parse_rt {b : Bk} (hn : numsOk b) (h1 : 1 ≤ b.lines.length) : parseB (textB b) = some b := by
  have hs : splitL 10 (textB b) = rowsB b ++ [endB (rowsB b), []] := seal_split (rows_no hn)
  have hl : (rowsB b ++ [endB (rowsB b), []]).length = b.lines.length + 3 := by simp [rowsB_len]
  rw [parseB, hs, hl, if_pos (by omega), show b.lines.length + 3 - 2 = b.lines.length + 1 from by omega, bk_rt hn _ _ (Nat.le_refl _), List.take_length]
  simp
/-! ### How long it is -/
theorem dec_le {n : Int} (h : 0 ≤ n ∧ n ≤ 999) : (decB n).length ≤ 3 ∧ (n ≤ 99 → (decB n).length ≤ 2) ∧ (n ≤ 9 → (decB n).length ≤ 1) := by
  rw [(dec_rt h).2.2]
  refine ⟨?_, fun h => ?_, fun h => ?_⟩ <;> (split <;> (try split) <;> omega)
theorem hd_le {b : Bk} (hb : isBk b = true) : (hdB b).length ≤ 24 := by
  have hbb := isBk_b hb
  have e1 := (dec_le (n := b.hands) (by omega)).2.2 (by omega)
  have e2 := (dec_le (n := b.unit) (by omega)).2.1 (by omega)
  have e3 := (dec_le (n := b.sheet) (by omega)).1
  have e4 := (dec_le (n := b.error) (by omega)).1
  have e5 := (dec_le (n := b.morning) (by omega)).1
  have e6 := (dec_le (n := b.post) (by omega)).1
  simp only [hdB, rowB, rowW, hdN, wPay, List.length_append, List.length_cons, List.length_nil, List.getD_cons_zero, List.getD_cons_succ]
  omega
theorem ln_le {h : Int} {l : Lin} (hh : h ≤ 3) (hl : isLin h l = true) : (lnB l).length ≤ 33 := by
  have hb := isLin_b hl
  have hm := isMon_b hb.2.2.2.2.2.2
  have e1 := (dec_le (n := l.hand) (by omega)).2.2 (by omega)
  have e2 := (dec_le (n := l.sheets) (by omega)).2.1 (by omega)
  have e3 := (dec_le (n := l.lo) (by omega)).2.1 (by omega)
  have e4 := (dec_le (n := l.hi) (by omega)).2.1 (by omega)
  have e5 := (dec_le (n := l.mor) (by omega)).2.1 (by omega)
  have e6 := (dec_le (n := l.pos) (by omega)).2.1 (by omega)
  have e7 := (dec_le (n := l.paid.p) (by omega)).1
  have e8 := (dec_le (n := l.paid.s) (by omega)).2.1 (by omega)
  have e9 := (dec_le (n := l.paid.d) (by omega)).2.1 (by omega)
  have e10 := (dec_le (n := l.paid.f) (by omega)).2.2 (by omega)
  simp only [lnB, rowB, rowW, lnN, wLine, List.length_append, List.length_cons, List.length_nil, List.getD_cons_zero, List.getD_cons_succ]
  omega
theorem lines_le {ws : List Bs} {m : Nat} (hw : ∀ w ∈ ws, w.length ≤ m) : ∀ k, k ≤ ws.length → (linesT ws k).length ≤ (m + 1) * k
  | 0, _ => by simp [linesT]
  | k + 1, hk => by
    obtain ⟨w, h⟩ := some_get (xs := ws) (k := k) (by omega)
    have ih := lines_le hw k (by omega)
    have := hw w (List.mem_of_getElem? h)
    rw [linesT_succ h, Nat.mul_succ]
    simp only [List.length_append, List.length_cons, List.length_nil]; omega
theorem text_le {b : Bk} (hb : isBk b = true) : (textB b).length ≤ 230 := by
  have hbb := isBk_b hb
  have h1 : ∀ w ∈ rowsB b, w.length ≤ 33 := by
    intro w hw
    rcases List.mem_cons.1 hw with rfl | hw
    · have := hd_le hb; omega
    · obtain ⟨l, hl, rfl⟩ := List.mem_map.1 hw
      exact ln_le (by omega) (isBk_l hb hl)
  have h2 := lines_le h1 _ (Nat.le_refl _)
  rw [rowsB_len] at h2
  have h3 := Int.emod_nonneg (chkR (rowsB b) (rowsB b).length) (show (263 : Int) ≠ 0 by decide)
  have h4 := Int.emod_lt_of_pos (chkR (rowsB b) (rowsB b).length) (show (0 : Int) < 263 by decide)
  have e1 := (dec_le (n := chkR (rowsB b) (rowsB b).length % 263 / 100) (by omega)).2.2 (by omega)
  have e2 := (dec_le (n := chkR (rowsB b) (rowsB b).length % 263 / 10 % 10) (by omega)).2.2 (by omega)
  have e3 := (dec_le (n := chkR (rowsB b) (rowsB b).length % 263 % 10) (by omega)).2.2 (by omega)
  rw [textB, seal_eq, rowsB_len]
  rw [rowsB_len] at e1 e2 e3
  simp only [endB, List.length_append, List.length_cons, List.length_nil, rowsB_len]
  omega
theorem read_rt {b : Bk} (hb : isBk b = true) : payRead (textB b) = (b, 0) := by
  have h1 := text_le hb
  have hbb := isBk_b hb
  rw [payRead, if_neg (by omega), parse_rt (numsOk_of hb) (by omega)]
  simp [hb]
end Go.Proofs


namespace Go.Proofs
open Go Go.Sx Go.RowKit

set_option maxRecDepth 20000 in
theorem pay_Print_t (b : Bk) (a : Option Addr) (c : Nat) (w : World) (hr : Ro w 0 w.heap.size a b.lines.length c 10 (b.lines.map linC)) (hg : Gl w) (hb : isBk b = true) : Calls Tryz.prog 32 #[bkV b a c] w (RetV w (.tuple #[strV (textB b), .int .i64 0])) := by
  refine calls_T0 (av := [_]) Tryz.func32 rfl rfl rfl ?_
  refine t_seq ?_
  refine t_reg ?_
  refine to_box rfl rfl (fun b1 => ?_)
  refine to_as rfl rfl ?_
  refine to_as rfl rfl ?_
  refine to_nil ?_
  refine tn_code ?_
  refine t_seq ?_
  refine t_seq ?_
  refine t_reg ?_
  first | refine to_lda rfl rfl rfl ?_ | refine to_ldea rfl (by assumption) rfl rfl ?_
  refine to_call0 rfl rfl (fun w s => pay_isBook b a c w (rdw s)) rfl ?_
  refine to_fix (s := 5) (b' := true) rfl (hb) ?_
  refine to_not rfl rfl ?_
  refine to_nil ?_
  refine tn_code ?_
  refine t_ifF rfl ?_
  refine t_skip ?_
  refine tn_code ?_
  refine t_seq ?_
  refine t_reg ?_
  first | refine to_lda rfl rfl rfl ?_ | refine to_ldea rfl (by assumption) rfl rfl ?_
  refine to_call0 rfl rfl (fun w s => pay_text b a c w (rdw s) (numsOk_of hb) (gl_up hg (belowH_of s))) rfl ?_
  refine to_as rfl rfl ?_
  refine to_as rfl rfl ?_
  refine to_nil ?_
  refine tn_code ?_
  refine t_ret2 rfl rfl (res_tmp rfl) (res_tmp rfl) (fun w' s => ?_)
  rfl

set_option maxRecDepth 20000 in
theorem pay_Print_f (b : Bk) (a : Option Addr) (c : Nat) (w : World) (hr : Ro w 0 w.heap.size a b.lines.length c 10 (b.lines.map linC)) (hg : Gl w) (hb : isBk b = false) : Calls Tryz.prog 32 #[bkV b a c] w (RetV w (.tuple #[strV [], .int .i64 2])) := by
  refine calls_T0 (av := [_]) Tryz.func32 rfl rfl rfl ?_
  refine t_seq ?_
  refine t_reg ?_
  refine to_box rfl rfl (fun b1 => ?_)
  refine to_as rfl rfl ?_
  refine to_as rfl rfl ?_
  refine to_nil ?_
  refine tn_code ?_
  refine t_seq ?_
  refine t_seq ?_
  refine t_reg ?_
  first | refine to_lda rfl rfl rfl ?_ | refine to_ldea rfl (by assumption) rfl rfl ?_
  refine to_call0 rfl rfl (fun w s => pay_isBook b a c w (rdw s)) rfl ?_
  refine to_fix (s := 5) (b' := false) rfl (hb) ?_
  refine to_not rfl rfl ?_
  refine to_nil ?_
  refine tn_code ?_
  refine t_ifT rfl ?_
  refine t_seq ?_
  refine t_reg ?_
  refine to_as rfl rfl ?_
  refine to_as rfl rfl ?_
  refine to_nil ?_
  refine tn_code ?_
  refine t_ret2 rfl rfl (res_tmp rfl) (res_tmp rfl) (fun w' s => ?_)
  rfl

theorem c_read_t {b : Bk} {w : World} (hb : isBk b = true) (hg : Gl w) : Calls Tryz.prog 33 #[strV (textB b)] w (Ret w (RBk b 0)) := by
  have := pay_Read (textB b) w hg
  rw [read_rt hb] at this; exact this
theorem isI_lin (l : Lin) : isI (linC l) := allI_isI rfl

set_option maxRecDepth 20000 in
theorem ref_SameBooks (b : Bk) (a : Option Addr) (c : Nat) (a2 : Option Addr) (c2 : Nat) (w : World) (hr : Ro w 0 w.heap.size a b.lines.length c 10 (b.lines.map linC)) (hr2 : Ro w 0 w.heap.size a2 b.lines.length c2 10 (b.lines.map linC)) (hb : isBk b = true) : Calls Tryz.prog 35 #[bkV b a c, bkV b a2 c2] w (RetV w (.bool true)) := by
  have hbb := isBk_b hb
  refine calls_T0 (av := [_, _]) Tryz.func35 rfl rfl rfl ?_
  refine t_seq ?_
  refine t_reg ?_
  refine to_box rfl rfl (fun b2 => ?_)
  refine to_box rfl rfl (fun b3 => ?_)
  refine to_as rfl rfl ?_
  refine to_nil ?_
  refine tn_code ?_
  refine t_seq ?_
  refine t_seq ?_
  refine t_reg ?_
  first | refine to_fa rfl rfl rfl (by simp only [Nat.reduceAdd]; rfl) rfl ?_ | refine to_fae rfl rfl rfl (by simp only [Nat.reduceAdd]; rfl) rfl ?_
  first | refine to_lds rfl rfl rfl ?_ | refine to_ldes rfl (by assumption) rfl rfl ?_
  first | refine to_fa rfl rfl rfl (by simp only [Nat.reduceAdd]; rfl) rfl ?_ | refine to_fae rfl rfl rfl (by simp only [Nat.reduceAdd]; rfl) rfl ?_
  first | refine to_lds rfl rfl rfl ?_ | refine to_ldes rfl (by assumption) rfl rfl ?_
  refine to_neq rfl rfl rfl ?_
  refine to_fix (s := 10) (b' := false) rfl (by simp) ?_
  refine to_mv rfl rfl ?_
  refine to_gt rfl rfl ?_
  first | refine to_fa rfl rfl rfl (by simp only [Nat.reduceAdd]; rfl) rfl ?_ | refine to_fae rfl rfl rfl (by simp only [Nat.reduceAdd]; rfl) rfl ?_
  refine to_gt rfl rfl ?_
  first | refine to_lds rfl rfl rfl ?_ | refine to_ldes rfl (by assumption) rfl rfl ?_
  refine to_gt rfl rfl ?_
  first | refine to_fa rfl rfl rfl (by simp only [Nat.reduceAdd]; rfl) rfl ?_ | refine to_fae rfl rfl rfl (by simp only [Nat.reduceAdd]; rfl) rfl ?_
  refine to_gt rfl rfl ?_
  first | refine to_lds rfl rfl rfl ?_ | refine to_ldes rfl (by assumption) rfl rfl ?_
  refine to_gt rfl rfl ?_
  refine to_neq rfl rfl rfl ?_
  refine to_fix (s := 16) (b' := false) rfl (by simp) ?_
  refine to_pkF rfl rfl rfl ?_
  refine to_mv rfl rfl ?_
  refine to_gt rfl rfl ?_
  first | refine to_fa rfl rfl rfl (by simp only [Nat.reduceAdd]; rfl) rfl ?_ | refine to_fae rfl rfl rfl (by simp only [Nat.reduceAdd]; rfl) rfl ?_
  refine to_gt rfl rfl ?_
  first | refine to_lds rfl rfl rfl ?_ | refine to_ldes rfl (by assumption) rfl rfl ?_
  refine to_gt rfl rfl ?_
  first | refine to_fa rfl rfl rfl (by simp only [Nat.reduceAdd]; rfl) rfl ?_ | refine to_fae rfl rfl rfl (by simp only [Nat.reduceAdd]; rfl) rfl ?_
  refine to_gt rfl rfl ?_
  first | refine to_lds rfl rfl rfl ?_ | refine to_ldes rfl (by assumption) rfl rfl ?_
  refine to_gt rfl rfl ?_
  refine to_neq rfl rfl rfl ?_
  refine to_fix (s := 23) (b' := false) rfl (by simp) ?_
  refine to_pkF rfl rfl rfl ?_
  refine to_mv rfl rfl ?_
  refine to_gt rfl rfl ?_
  first | refine to_fa rfl rfl rfl (by simp only [Nat.reduceAdd]; rfl) rfl ?_ | refine to_fae rfl rfl rfl (by simp only [Nat.reduceAdd]; rfl) rfl ?_
  refine to_gt rfl rfl ?_
  first | refine to_lds rfl rfl rfl ?_ | refine to_ldes rfl (by assumption) rfl rfl ?_
  refine to_gt rfl rfl ?_
  first | refine to_fa rfl rfl rfl (by simp only [Nat.reduceAdd]; rfl) rfl ?_ | refine to_fae rfl rfl rfl (by simp only [Nat.reduceAdd]; rfl) rfl ?_
  refine to_gt rfl rfl ?_
  first | refine to_lds rfl rfl rfl ?_ | refine to_ldes rfl (by assumption) rfl rfl ?_
  refine to_gt rfl rfl ?_
  refine to_neq rfl rfl rfl ?_
  refine to_fix (s := 30) (b' := false) rfl (by simp) ?_
  refine to_pkF rfl rfl rfl ?_
  refine to_mv rfl rfl ?_
  refine to_gt rfl rfl ?_
  first | refine to_fa rfl rfl rfl (by simp only [Nat.reduceAdd]; rfl) rfl ?_ | refine to_fae rfl rfl rfl (by simp only [Nat.reduceAdd]; rfl) rfl ?_
  refine to_gt rfl rfl ?_
  first | refine to_lds rfl rfl rfl ?_ | refine to_ldes rfl (by assumption) rfl rfl ?_
  refine to_gt rfl rfl ?_
  first | refine to_fa rfl rfl rfl (by simp only [Nat.reduceAdd]; rfl) rfl ?_ | refine to_fae rfl rfl rfl (by simp only [Nat.reduceAdd]; rfl) rfl ?_
  refine to_gt rfl rfl ?_
  first | refine to_lds rfl rfl rfl ?_ | refine to_ldes rfl (by assumption) rfl rfl ?_
  refine to_gt rfl rfl ?_
  refine to_neq rfl rfl rfl ?_
  refine to_fix (s := 37) (b' := false) rfl (by simp) ?_
  refine to_pkF rfl rfl rfl ?_
  refine to_mv rfl rfl ?_
  refine to_gt rfl rfl ?_
  first | refine to_fa rfl rfl rfl (by simp only [Nat.reduceAdd]; rfl) rfl ?_ | refine to_fae rfl rfl rfl (by simp only [Nat.reduceAdd]; rfl) rfl ?_
  refine to_gt rfl rfl ?_
  first | refine to_lds rfl rfl rfl ?_ | refine to_ldes rfl (by assumption) rfl rfl ?_
  refine to_gt rfl rfl ?_
  first | refine to_fa rfl rfl rfl (by simp only [Nat.reduceAdd]; rfl) rfl ?_ | refine to_fae rfl rfl rfl (by simp only [Nat.reduceAdd]; rfl) rfl ?_
  refine to_gt rfl rfl ?_
  first | refine to_lds rfl rfl rfl ?_ | refine to_ldes rfl (by assumption) rfl rfl ?_
  refine to_gt rfl rfl ?_
  refine to_neq rfl rfl rfl ?_
  refine to_fix (s := 44) (b' := false) rfl (by simp) ?_
  refine to_pkF rfl rfl rfl ?_
  refine to_mv rfl rfl ?_
  refine to_gt rfl rfl ?_
  first | refine to_fa rfl rfl rfl (by simp only [Nat.reduceAdd]; rfl) rfl ?_ | refine to_fae rfl rfl rfl (by simp only [Nat.reduceAdd]; rfl) rfl ?_
  refine to_gt rfl rfl ?_
  first | refine to_lds rfl rfl rfl ?_ | refine to_ldes rfl (by assumption) rfl rfl ?_
  refine to_gt rfl rfl ?_
  refine to_lenS rfl rfl ?_
  refine to_gt rfl rfl ?_
  first | refine to_fa rfl rfl rfl (by simp only [Nat.reduceAdd]; rfl) rfl ?_ | refine to_fae rfl rfl rfl (by simp only [Nat.reduceAdd]; rfl) rfl ?_
  refine to_gt rfl rfl ?_
  first | refine to_lds rfl rfl rfl ?_ | refine to_ldes rfl (by assumption) rfl rfl ?_
  refine to_gt rfl rfl ?_
  refine to_lenS rfl rfl ?_
  refine to_gt rfl rfl ?_
  refine to_neq rfl rfl rfl ?_
  refine to_fix (s := 53) (b' := false) rfl (by simp) ?_
  refine to_pkF rfl rfl rfl ?_
  refine to_nil ?_
  refine tn_code ?_
  refine t_ifF rfl ?_
  refine t_skip ?_
  refine tn_code ?_
  refine t_seq ?_
  refine t_seq ?_
  refine t_reg ?_
  refine to_as rfl rfl ?_
  refine to_nil ?_
  refine tn_code ?_
  refine t_blk ?_
  refine t_loop2 (ι := Nat) (fun k => k ≤ b.lines.length) (fun k => [(2, (.pointer (some ⟨b2, 0, none⟩))), (3, (.pointer (some ⟨b3, 0, none⟩))), (5, (.int .i64 (k : Int)))]) (fun k => [.own b3 (isC (bkC b a2 c2) 24), .own b2 (isC (bkC b a c) 24), .snap 0 w.heap.size w]) (fun k => b.lines.length - k) (0) [.own b3 (isC (bkC b a2 c2) 24), .own b2 (isC (bkC b a c) 24), .snap 0 w.heap.size w] (rfl) (Nat.zero_le _) (⟨rfl, rfl, rfl, trivial⟩) ?_
  rintro k hk
  show T _ _ _ ⟨_, [(2, (.pointer (some ⟨b2, 0, none⟩))), (3, (.pointer (some ⟨b3, 0, none⟩))), (5, (.int .i64 (k : Int)))], _⟩ [.own b3 (isC (bkC b a2 c2) 24), .own b2 (isC (bkC b a c) 24), .snap 0 w.heap.size w]
  refine t_seq ?_
  refine t_seq ?_
  refine t_reg ?_
  refine to_mv rfl rfl ?_
  first | refine to_fa rfl rfl rfl (by simp only [Nat.reduceAdd]; rfl) rfl ?_ | refine to_fae rfl rfl rfl (by simp only [Nat.reduceAdd]; rfl) rfl ?_
  first | refine to_lds rfl rfl rfl ?_ | refine to_ldes rfl (by assumption) rfl rfl ?_
  refine to_lenS rfl rfl ?_
  refine to_lss rfl rfl rfl ?_
  refine to_nil ?_
  refine tn_code ?_
  refine t_if rfl (fun h1 => ?_) (fun h1 => ?_)
  · try simp only [decide_eq_true_eq, decide_eq_false_iff_not, Bool.not_eq_true', Bool.not_eq_false', Int.not_lt, Int.not_le, ne_eq, Decidable.not_not] at h1
    try have h1b := inB_iff.1 h1
    obtain ⟨l, hl⟩ := some_get (xs := b.lines) (k := k) (by omega)
    have hx := map_get (f := linC) hl
    refine t_skip ?_
    refine tn_code ?_
    refine t_seq ?_
    refine t_blk ?_
    refine t_seq ?_
    refine t_regD rfl (by kernel_rfl) (by kernel_rfl) ?_
    first | refine to_fa rfl rfl rfl (by simp only [Nat.reduceAdd]; rfl) rfl ?_ | refine to_fae rfl rfl rfl (by simp only [Nat.reduceAdd]; rfl) rfl ?_
    first | refine to_lds rfl rfl rfl ?_ | refine to_ldes rfl (by assumption) rfl rfl ?_
    refine to_mv rfl rfl ?_
    first | refine to_ix rfl rfl rfl (by first | omega | decide) (by first | omega | decide) rfl ?_ | refine to_ixi rfl rfl rfl (by omega) (by omega) (by omega) rfl ?_
    first | refine to_lda rfl rfl rfl ?_ | refine to_ldea rfl (by assumption) rfl rfl ?_
    first | refine to_fa rfl rfl rfl (by simp only [Nat.reduceAdd]; rfl) rfl ?_ | refine to_fae rfl rfl rfl (by simp only [Nat.reduceAdd]; rfl) rfl ?_
    first | refine to_lds rfl rfl rfl ?_ | refine to_ldes rfl (by assumption) rfl rfl ?_
    refine to_mv rfl rfl ?_
    first | refine to_ix rfl rfl rfl (by first | omega | decide) (by first | omega | decide) rfl ?_ | refine to_ixi rfl rfl rfl (by omega) (by omega) (by omega) rfl ?_
    first | refine to_lda rfl rfl rfl ?_ | refine to_ldea rfl (by assumption) rfl rfl ?_
    refine to_nes rfl rfl rfl rfl rfl rfl rfl ?_
    refine to_fix (s := 72) (b' := false) rfl (by rw [ieq_refl (isI_lin _)]; rfl) ?_
    refine to_nil ?_
    refine tn_code ?_
    refine t_ifF rfl ?_
    refine t_skip ?_
    refine tn_blk ?_
    refine tn_code ?_
    refine t_reg ?_
    refine to_mv rfl rfl ?_
    refine to_add rfl rfl (by omega) rfl ?_
    refine to_as rfl rfl ?_
    refine to_nil ?_
    exact tn_loop2 (k + 1) [.own b3 (isC (bkC b a2 c2) 24), .own b2 (isC (bkC b a c) 24), .snap 0 w.heap.size w] (rfl) (by omega) (by omega) (⟨rfl, rfl, rfl, trivial⟩)
  · try simp only [decide_eq_true_eq, decide_eq_false_iff_not, Bool.not_eq_true', Bool.not_eq_false', Int.not_lt, Int.not_le, ne_eq, Decidable.not_not] at h1
    try have h1b := inB_iff.1 h1
    refine t_exit ?_
    refine tx_code ?_
    refine tx_inv ?_
    refine tx_blk ?_
    refine tn_code ?_
    refine t_seq ?_
    refine t_reg ?_
    refine to_as rfl rfl ?_
    refine to_nil ?_
    refine tn_code ?_
    refine t_ret1 rfl rfl (res_tmp rfl) (fun w' s => ?_)
    rfl

end Go.Proofs


namespace Go.Proofs
open Go Go.Sx Go.RowKit

theorem neg_quo {v : Int} (h : 1 ≤ v ∧ v ≤ 999) : (-v).tdiv 10 = -(v / 10) := by
  rw [Int.neg_tdiv, Int.tdiv_eq_ediv_of_nonneg (by omega)]
theorem neg_rem {v : Int} (h : 1 ≤ v ∧ v ≤ 999) : (-v).tmod 10 = -(v % 10) := by
  rw [Int.neg_tmod, Int.tmod_eq_emod_of_nonneg (by omega)]
theorem wrap_small {v : Int} (h : -1000 ≤ v ∧ v ≤ 1000) : IntKind.i64.wrap v = v := by
  have hall : (List.range 2001).all (fun k => IntKind.i64.wrap ((k : Int) - 1000) == (k : Int) - 1000) = true := by kernel_rfl
  obtain ⟨k, hk⟩ := Int.eq_ofNat_of_zero_le (show 0 ≤ v + 1000 by omega)
  have h1 := List.all_eq_true.1 hall k (List.mem_range.2 (by omega))
  have h2 : (k : Int) - 1000 = v := by omega
  simpa [h2] using h1

set_option maxRecDepth 20000 in
theorem dec_neg (v : Int) (w : World) (h : 1 ≤ v ∧ v ≤ 999) (hrec : 10 ≤ v → ∀ w, Calls Tryz.prog 102 #[.int .i64 (-(v / 10))] w (RetV w (strV (45 :: decB (v / 10))))) : Calls Tryz.prog 102 #[(.int .i64 (-v))] w (RetV w (strV (45 :: decB v))) := by
  have hdl := decB_len (v / 10)
  refine calls_T0 (av := [_]) Tryz.func102 rfl rfl rfl ?_
  refine t_seq ?_
  refine t_reg ?_
  refine to_as rfl rfl ?_
  refine to_nil ?_
  refine tn_code ?_
  refine t_seq ?_
  refine t_seq ?_
  refine t_reg ?_
  refine to_mv rfl rfl ?_
  refine to_gtr rfl rfl rfl ?_
  refine to_mv rfl rfl ?_
  refine to_gs rfl rfl rfl (fun h1 => ?_) (fun h1 => ?_)
  · try simp only [decide_eq_true_eq, decide_eq_false_iff_not, Bool.not_eq_true', Bool.not_eq_false', Int.not_lt, Int.not_le, ne_eq, Decidable.not_not] at h1
    try have h1b := inB_iff.1 h1
    refine to_gt rfl rfl ?_
    refine to_mv rfl rfl ?_
    refine to_gt rfl rfl ?_
    refine to_lss rfl rfl rfl ?_
    refine to_pkT rfl rfl rfl ?_
    refine to_nil ?_
    refine tn_code ?_
    refine t_if rfl (fun h2 => ?_) (fun h2 => ?_)
    · try simp only [decide_eq_true_eq, decide_eq_false_iff_not, Bool.not_eq_true', Bool.not_eq_false', Int.not_lt, Int.not_le, ne_eq, Decidable.not_not] at h2
      try have h2b := inB_iff.1 h2
      refine t_seq ?_
      refine t_reg ?_
      refine to_mv rfl rfl ?_
      refine to_sub rfl rfl (by omega) rfl ?_
      refine to_cv rfl (by first | exact wrap_id (by omega) | exact IntWalk.u8_in _ (by omega) | exact IntWalk.i32_in _ (by omega)) rfl ?_
      refine to_bsl rfl rfl rfl rfl (fun a12 => ?_)
      refine to_bts1 rfl rfl ?_
      refine to_sadd rfl rfl (by first | omega | (simp only [List.length_append, List.length_cons, List.length_nil]; omega)) rfl ?_
      refine to_as rfl rfl ?_
      refine to_nil ?_
      refine tn_code ?_
      refine t_ret1 rfl rfl (res_tmp rfl) (fun w' s => ?_)
      first | (rw [decB_one (n := v) (by omega), Int.sub_neg, dg1_eq (n := v) (by omega)]; done) | (rw [decB_one (n := v) (by omega), Int.sub_neg, dg1_eq (n := v) (by omega)]; rfl) | (rw [decB_step (n := v) (by omega), Int.sub_neg, dg1_eq (n := v % 10) (by omega)]; done) | (rw [decB_step (n := v) (by omega), Int.sub_neg, dg1_eq (n := v % 10) (by omega)]; rfl)
    · try simp only [decide_eq_true_eq, decide_eq_false_iff_not, Bool.not_eq_true', Bool.not_eq_false', Int.not_lt, Int.not_le, ne_eq, Decidable.not_not] at h2
      try have h2b := inB_iff.1 h2
      refine t_skip ?_
      refine tn_code ?_
      refine t_seq ?_
      refine t_seq ?_
      refine t_reg ?_
      refine to_mv rfl rfl ?_
      refine to_lss rfl rfl rfl ?_
      refine to_fix (s := 16) (b' := true) rfl (decide_eq_true (by omega)) ?_
      refine to_nil ?_
      refine tn_code ?_
      refine t_ifT rfl ?_
      refine t_seq ?_
      refine t_regM [7, 8] [.snap 0 w.heap.size w] rfl (by kernel_rfl) (by kernel_rfl) ?_
      refine tm_q ?e1 rfl ?q1 ?r1
      case q1 =>
        refine to_mv rfl rfl ?_
        exact tmq_end
      refine tm_q ?e2 rfl ?q2 ?r2
      case q2 =>
        refine to_quoE rfl rfl (by decide) ((congrArg _ (neg_quo h)).trans (wrap_small (by omega))) rfl ?_
        exact tmq_end
      refine tm_q ?e3 rfl ?q3 ?r3
      case q3 =>
        refine to_call0 rfl rfl (fun w s => hrec (by omega) w) rfl ?_
        exact tmq_end
      refine tm_q ?e4 rfl ?q4 ?r4
      case q4 =>
        refine to_mv rfl rfl ?_
        exact tmq_end
      refine tm_q ?e5 rfl ?q5 ?r5
      case q5 =>
        refine to_remE rfl rfl (by decide) (neg_rem h) rfl ?_
        exact tmq_end
      refine tm_q ?e6 rfl ?q6 ?r6
      case q6 =>
        refine to_sub rfl rfl (by omega) rfl ?_
        exact tmq_end
      refine tm_q ?e7 rfl ?q7 ?r7
      case q7 =>
        refine to_cv rfl (by first | exact wrap_id (by omega) | exact IntWalk.u8_in _ (by omega) | exact IntWalk.i32_in _ (by omega)) rfl ?_
        exact tmq_end
      refine tm_s rfl ?_ (fun _ h => by cases h) rfl
      refine to_bsl rfl rfl rfl rfl (fun a24 => ?_)
      refine tm_se rfl ?_
      refine tm_s rfl ?_ (fun _ h => by cases h) rfl
      refine to_bts1 rfl rfl ?_
      refine tm_se rfl ?_
      refine tm_q ?e8 rfl ?q8 ?r8
      case q8 =>
        refine to_sadd rfl rfl (by first | omega | (simp only [List.length_append, List.length_cons, List.length_nil]; omega)) rfl ?_
        exact tmq_end
      refine tm_q ?e9 rfl ?q9 ?r9
      case q9 =>
        refine to_as rfl rfl ?_
        exact tmq_end
      refine tm_nil ?_
      refine tn_code ?_
      refine t_ret1 rfl rfl (res_tmp rfl) (fun w' s => ?_)
      first | (rw [decB_one (n := v) (by omega), Int.sub_neg, dg1_eq (n := v) (by omega)]; done) | (rw [decB_one (n := v) (by omega), Int.sub_neg, dg1_eq (n := v) (by omega)]; rfl) | (rw [decB_step (n := v) (by omega), Int.sub_neg, dg1_eq (n := v % 10) (by omega)]; done) | (rw [decB_step (n := v) (by omega), Int.sub_neg, dg1_eq (n := v % 10) (by omega)]; rfl)
  · try simp only [decide_eq_true_eq, decide_eq_false_iff_not, Bool.not_eq_true', Bool.not_eq_false', Int.not_lt, Int.not_le, ne_eq, Decidable.not_not] at h1
    try have h1b := inB_iff.1 h1
    refine to_gf rfl rfl rfl rfl ?_
    refine to_gf rfl rfl rfl rfl ?_
    refine to_pkF rfl rfl rfl ?_
    refine to_nil ?_
    refine tn_code ?_
    refine t_ifF rfl ?_
    refine t_skip ?_
    refine tn_code ?_
    refine t_seq ?_
    refine t_seq ?_
    refine t_reg ?_
    refine to_mv rfl rfl ?_
    refine to_lss rfl rfl rfl ?_
    refine to_fix (s := 16) (b' := true) rfl (decide_eq_true (by omega)) ?_
    refine to_nil ?_
    refine tn_code ?_
    refine t_ifT rfl ?_
    refine t_seq ?_
    refine t_regM [7, 8] [.snap 0 w.heap.size w] rfl (by kernel_rfl) (by kernel_rfl) ?_
    refine tm_q ?e10 rfl ?q10 ?r10
    case q10 =>
      refine to_mv rfl rfl ?_
      exact tmq_end
    refine tm_q ?e11 rfl ?q11 ?r11
    case q11 =>
      refine to_quoE rfl rfl (by decide) ((congrArg _ (neg_quo h)).trans (wrap_small (by omega))) rfl ?_
      exact tmq_end
    refine tm_q ?e12 rfl ?q12 ?r12
    case q12 =>
      refine to_call0 rfl rfl (fun w s => hrec (by omega) w) rfl ?_
      exact tmq_end
    refine tm_q ?e13 rfl ?q13 ?r13
    case q13 =>
      refine to_mv rfl rfl ?_
      exact tmq_end
    refine tm_q ?e14 rfl ?q14 ?r14
    case q14 =>
      refine to_remE rfl rfl (by decide) (neg_rem h) rfl ?_
      exact tmq_end
    refine tm_q ?e15 rfl ?q15 ?r15
    case q15 =>
      refine to_sub rfl rfl (by omega) rfl ?_
      exact tmq_end
    refine tm_q ?e16 rfl ?q16 ?r16
    case q16 =>
      refine to_cv rfl (by first | exact wrap_id (by omega) | exact IntWalk.u8_in _ (by omega) | exact IntWalk.i32_in _ (by omega)) rfl ?_
      exact tmq_end
    refine tm_s rfl ?_ (fun _ h => by cases h) rfl
    refine to_bsl rfl rfl rfl rfl (fun a24 => ?_)
    refine tm_se rfl ?_
    refine tm_s rfl ?_ (fun _ h => by cases h) rfl
    refine to_bts1 rfl rfl ?_
    refine tm_se rfl ?_
    refine tm_q ?e17 rfl ?q17 ?r17
    case q17 =>
      refine to_sadd rfl rfl (by first | omega | (simp only [List.length_append, List.length_cons, List.length_nil]; omega)) rfl ?_
      exact tmq_end
    refine tm_q ?e18 rfl ?q18 ?r18
    case q18 =>
      refine to_as rfl rfl ?_
      exact tmq_end
    refine tm_nil ?_
    refine tn_code ?_
    refine t_ret1 rfl rfl (res_tmp rfl) (fun w' s => ?_)
    first | (rw [decB_one (n := v) (by omega), Int.sub_neg, dg1_eq (n := v) (by omega)]; done) | (rw [decB_one (n := v) (by omega), Int.sub_neg, dg1_eq (n := v) (by omega)]; rfl) | (rw [decB_step (n := v) (by omega), Int.sub_neg, dg1_eq (n := v % 10) (by omega)]; done) | (rw [decB_step (n := v) (by omega), Int.sub_neg, dg1_eq (n := v % 10) (by omega)]; rfl)

theorem T_DecNeg (v : Int) (w : World) (h : 1 ≤ v ∧ v ≤ 999) : Calls Tryz.prog 102 #[.int .i64 (-v)] w (RetV w (strV (45 :: decB v))) :=
  dec_neg v w h (fun h1 w => dec_neg (v / 10) w (by omega) (fun h2 w => dec_neg (v / 10 / 10) w (by omega) (fun h3 => by omega)))
/-- A number of the reference's. -/
def NumQ (l : Bs) : Nat → World → Value → Prop := fun _ _ u => ∃ (n : Int) (bb : Bool), u = .tuple #[.int .i64 n, .bool bb] ∧ (-999 ≤ n ∧ n ≤ 999) ∧ ((numB l = some n ∧ bb = true) ∨ (numB l = none ∧ (bb = false ∨ n < 0)))
theorem numQ_no {l : Bs} {lo : Nat} {w : World} (h : numB l = none) : NumQ l lo w (.tuple #[.int .i64 0, .bool false]) := ⟨0, false, rfl, by omega, .inr ⟨h, .inl rfl⟩⟩
theorem numB_sign (s : Bs) : numB (45 :: s) = none := numB_bad (p := 0) (c := 45) rfl (by decide)

set_option maxRecDepth 20000 in
theorem num_nil  (w : World)  : Calls Tryz.prog 111 #[strV [], (.int .i64 3)] w (Ret w (NumQ [])) := by
  refine calls_T (av := [_, _]) Tryz.func111 rfl rfl rfl ?_
  refine t_seq ?_
  refine t_reg ?_
  refine to_as rfl rfl ?_
  refine to_as rfl rfl ?_
  refine to_nil ?_
  refine tn_code ?_
  refine t_seq ?_
  refine t_reg ?_
  refine to_mv rfl rfl ?_
  refine to_as rfl rfl ?_
  refine to_as rfl rfl ?_
  refine to_nil ?_
  refine tn_code ?_
  refine t_seq ?_
  refine t_seq ?_
  refine t_reg ?_
  refine to_mv rfl rfl ?_
  refine to_lenL rfl rfl ?_
  refine to_gtr rfl rfl rfl ?_
  refine to_fix (s := 13) (b' := false) rfl (rfl) ?_
  refine to_mv rfl rfl ?_
  refine to_gf rfl rfl rfl rfl ?_
  refine to_gf rfl rfl rfl rfl ?_
  refine to_gf rfl rfl rfl rfl ?_
  refine to_pkF rfl rfl rfl ?_
  refine to_nil ?_
  refine tn_code ?_
  refine t_ifF rfl ?_
  refine t_skip ?_
  refine tn_code ?_
  refine t_seq ?_
  refine t_seq ?_
  refine t_reg ?_
  refine to_mv rfl rfl ?_
  refine to_lenL rfl rfl ?_
  refine to_lss rfl rfl rfl ?_
  refine to_fix (s := 23) (b' := true) rfl (rfl) ?_
  refine to_mv rfl rfl ?_
  refine to_gf rfl rfl rfl rfl ?_
  refine to_gf rfl rfl rfl rfl ?_
  refine to_gf rfl rfl rfl rfl ?_
  refine to_gf rfl rfl rfl rfl ?_
  refine to_pkT rfl rfl rfl ?_
  refine to_nil ?_
  refine tn_code ?_
  refine t_ifT rfl ?_
  refine t_seq ?_
  refine t_reg ?_
  refine to_as rfl rfl ?_
  refine to_as rfl rfl ?_
  refine to_nil ?_
  refine tn_code ?_
  refine t_ret2 rfl rfl (res_tmp rfl) (res_tmp rfl) (fun w' s => ?_)
  exact numQ_no rfl

set_option maxRecDepth 20000 in
theorem num_p (c0 : UInt8) (tl : Bs) (w : World) (h0 : c0 ≠ 45) (hl : tl.length ≤ 1000) : Calls Tryz.prog 111 #[strV (c0 :: tl), (.int .i64 3)] w (Ret w (NumQ (c0 :: tl))) := by
  have hc0 : (c0 :: tl)[0]? = some c0 := rfl
  have hls : (c0 :: tl).length = tl.length + 1 := rfl
  have hne : ¬ ((c0.toNat : Nat) : Int) = 45 := fun e => h0 (UInt8.toNat_inj.1 (show c0.toNat = (45 : UInt8).toNat from ((show (c0.toNat : Nat) = 45 by omega).trans rfl)))
  refine calls_T (av := [_, _]) Tryz.func111 rfl rfl rfl ?_
  refine t_seq ?_
  refine t_reg ?_
  refine to_as rfl rfl ?_
  refine to_as rfl rfl ?_
  refine to_nil ?_
  refine tn_code ?_
  refine t_seq ?_
  refine t_reg ?_
  refine to_mv rfl rfl ?_
  refine to_as rfl rfl ?_
  refine to_as rfl rfl ?_
  refine to_nil ?_
  refine tn_code ?_
  refine t_seq ?_
  refine t_seq ?_
  refine t_reg ?_
  refine to_mv rfl rfl ?_
  refine to_lenL rfl rfl ?_
  refine to_gtr rfl rfl rfl ?_
  refine to_fix (s := 13) (b' := true) rfl (decide_eq_true (by omega)) ?_
  refine to_mv rfl rfl ?_
  refine to_gt rfl rfl ?_
  refine to_mv rfl rfl ?_
  refine to_gt rfl rfl ?_
  refine to_sidx rfl rfl (by assumption) rfl ?_
  refine to_gt rfl rfl ?_
  refine to_eqlk rfl rfl rfl ?_
  refine to_fix (s := 17) (b' := false) rfl (decide_eq_false hne) ?_
  refine to_pkT rfl rfl rfl ?_
  refine to_nil ?_
  refine tn_code ?_
  refine t_ifF rfl ?_
  refine t_skip ?_
  refine tn_code ?_
  refine t_seq ?_
  refine t_seq ?_
  refine t_reg ?_
  refine to_mv rfl rfl ?_
  refine to_lenL rfl rfl ?_
  refine to_lss rfl rfl rfl ?_
  refine to_fix (s := 23) (b' := false) rfl (decide_eq_false (by omega)) ?_
  refine to_mv rfl rfl ?_
  refine to_gt rfl rfl ?_
  refine to_mv rfl rfl ?_
  refine to_gt rfl rfl ?_
  refine to_lenL rfl rfl ?_
  refine to_gt rfl rfl ?_
  refine to_mv rfl rfl ?_
  refine to_gt rfl rfl ?_
  refine to_gtr rfl rfl rfl ?_
  refine to_pkF rfl rfl rfl ?_
  refine to_nil ?_
  refine tn_code ?_
  refine t_if rfl (fun h1 => ?_) (fun h1 => ?_)
  · try simp only [decide_eq_true_eq, decide_eq_false_iff_not, Bool.not_eq_true', Bool.not_eq_false', Int.not_lt, Int.not_le, ne_eq, Decidable.not_not] at h1
    try have h1b := inB_iff.1 h1
    refine t_seq ?_
    refine t_reg ?_
    refine to_as rfl rfl ?_
    refine to_as rfl rfl ?_
    refine to_nil ?_
    refine tn_code ?_
    refine t_ret2 rfl rfl (res_tmp rfl) (res_tmp rfl) (fun w' s => ?_)
    first | exact numQ_no (numB_long (by omega)) | exact numQ_no (numB_bad hc (dg_f (by omega))) | (refine ⟨_, _, rfl, by omega, ?_⟩; rw [Int.one_mul]; by_cases h9 : decB (valK (c0 :: tl) (c0 :: tl).length) = (c0 :: tl); exact .inl ⟨numB_t (by simp) (by omega) hdg h9, decide_eq_true h9⟩; exact .inr ⟨numB_ne h9, .inl (decide_eq_false h9)⟩)
  · try simp only [decide_eq_true_eq, decide_eq_false_iff_not, Bool.not_eq_true', Bool.not_eq_false', Int.not_lt, Int.not_le, ne_eq, Decidable.not_not] at h1
    try have h1b := inB_iff.1 h1
    refine t_skip ?_
    refine tn_code ?_
    refine t_seq ?_
    refine t_reg ?_
    refine to_as rfl rfl ?_
    refine to_nil ?_
    refine tn_code ?_
    refine t_seq ?_
    refine t_seq ?_
    refine t_reg ?_
    refine to_as rfl rfl ?_
    refine to_nil ?_
    refine tn_code ?_
    refine t_blk ?_
    refine t_loop2 (ι := Nat) (fun k => k ≤ (c0 :: tl).length ∧ ∀ j, j < k → ∀ c, (c0 :: tl)[j]? = some c → isDg c = true) (fun k => [(0, strV (c0 :: tl)), (1, (.int .i64 3)), (6, (.int .i64 1)), (7, strV (c0 :: tl)), (8, (.int .i64 (valK (c0 :: tl) k))), (9, (.int .i64 (k : Int)))]) (fun k => [.snap 0 w.heap.size w]) (fun k => (c0 :: tl).length - k) (0) [.snap 0 w.heap.size w] (rfl) (⟨Nat.zero_le _, fun j hj => absurd hj (Nat.not_lt_zero _)⟩) (⟨rfl, rfl, rfl, rfl, rfl, rfl, trivial⟩) ?_
    rintro k ⟨hk, hdg⟩
    show T _ _ _ ⟨_, [(0, strV (c0 :: tl)), (1, (.int .i64 3)), (6, (.int .i64 1)), (7, strV (c0 :: tl)), (8, (.int .i64 (valK (c0 :: tl) k))), (9, (.int .i64 (k : Int)))], _⟩ [.snap 0 w.heap.size w]
    refine t_seq ?_
    refine t_seq ?_
    refine t_reg ?_
    refine to_mv rfl rfl ?_
    refine to_mv rfl rfl ?_
    refine to_lenL rfl rfl ?_
    refine to_lss rfl rfl rfl ?_
    refine to_nil ?_
    refine tn_code ?_
    refine t_if rfl (fun h2 => ?_) (fun h2 => ?_)
    · try simp only [decide_eq_true_eq, decide_eq_false_iff_not, Bool.not_eq_true', Bool.not_eq_false', Int.not_lt, Int.not_le, ne_eq, Decidable.not_not] at h2
      try have h2b := inB_iff.1 h2
      obtain ⟨ch, hc⟩ := some_get (xs := (c0 :: tl)) (k := k) (by omega)
      have hcb := u8_le ch
      have hvb := valK_b hdg hk (by omega)
      refine t_skip ?_
      refine tn_code ?_
      refine t_seq ?_
      refine t_blk ?_
      refine t_seq ?_
      refine t_seq ?_
      refine t_reg ?_
      refine to_mv rfl rfl ?_
      refine to_mv rfl rfl ?_
      refine to_sidx rfl rfl (by assumption) rfl ?_
      refine to_lssk rfl rfl rfl ?_
      refine to_mv rfl rfl ?_
      refine to_gs rfl rfl rfl (fun h3 => ?_) (fun h3 => ?_)
      · try simp only [decide_eq_true_eq, decide_eq_false_iff_not, Bool.not_eq_true', Bool.not_eq_false', Int.not_lt, Int.not_le, ne_eq, Decidable.not_not] at h3
        try have h3b := inB_iff.1 h3
        refine to_gf rfl rfl rfl rfl ?_
        refine to_gf rfl rfl rfl rfl ?_
        refine to_gf rfl rfl rfl rfl ?_
        refine to_gf rfl rfl rfl rfl ?_
        refine to_pkT rfl rfl rfl ?_
        refine to_nil ?_
        refine tn_code ?_
        refine t_ifT rfl ?_
        refine t_seq ?_
        refine t_reg ?_
        refine to_as rfl rfl ?_
        refine to_as rfl rfl ?_
        refine to_nil ?_
        refine tn_code ?_
        refine t_ret2 rfl rfl (res_tmp rfl) (res_tmp rfl) (fun w' s => ?_)
        first | exact numQ_no (numB_long (by omega)) | exact numQ_no (numB_bad hc (dg_f (by omega))) | (refine ⟨_, _, rfl, by omega, ?_⟩; rw [Int.one_mul]; by_cases h9 : decB (valK (c0 :: tl) (c0 :: tl).length) = (c0 :: tl); exact .inl ⟨numB_t (by simp) (by omega) hdg h9, decide_eq_true h9⟩; exact .inr ⟨numB_ne h9, .inl (decide_eq_false h9)⟩)
      · try simp only [decide_eq_true_eq, decide_eq_false_iff_not, Bool.not_eq_true', Bool.not_eq_false', Int.not_lt, Int.not_le, ne_eq, Decidable.not_not] at h3
        try have h3b := inB_iff.1 h3
        refine to_gt rfl rfl ?_
        refine to_mv rfl rfl ?_
        refine to_gt rfl rfl ?_
        refine to_mv rfl rfl ?_
        refine to_gt rfl rfl ?_
        refine to_sidx rfl rfl (by assumption) rfl ?_
        refine to_gt rfl rfl ?_
        refine to_gtrk rfl rfl rfl ?_
        refine to_pkF rfl rfl rfl ?_
        refine to_nil ?_
        refine tn_code ?_
        refine t_if rfl (fun h4 => ?_) (fun h4 => ?_)
        · try simp only [decide_eq_true_eq, decide_eq_false_iff_not, Bool.not_eq_true', Bool.not_eq_false', Int.not_lt, Int.not_le, ne_eq, Decidable.not_not] at h4
          try have h4b := inB_iff.1 h4
          refine t_seq ?_
          refine t_reg ?_
          refine to_as rfl rfl ?_
          refine to_as rfl rfl ?_
          refine to_nil ?_
          refine tn_code ?_
          refine t_ret2 rfl rfl (res_tmp rfl) (res_tmp rfl) (fun w' s => ?_)
          first | exact numQ_no (numB_long (by omega)) | exact numQ_no (numB_bad hc (dg_f (by omega))) | (refine ⟨_, _, rfl, by omega, ?_⟩; rw [Int.one_mul]; by_cases h9 : decB (valK (c0 :: tl) (c0 :: tl).length) = (c0 :: tl); exact .inl ⟨numB_t (by simp) (by omega) hdg h9, decide_eq_true h9⟩; exact .inr ⟨numB_ne h9, .inl (decide_eq_false h9)⟩)
        · try simp only [decide_eq_true_eq, decide_eq_false_iff_not, Bool.not_eq_true', Bool.not_eq_false', Int.not_lt, Int.not_le, ne_eq, Decidable.not_not] at h4
          try have h4b := inB_iff.1 h4
          refine t_skip ?_
          refine tn_code ?_
          have hdc := dg_t (c := ch) (by omega)
          have hdg2 : ∀ j, j < k + 1 → ∀ c, (c0 :: tl)[j]? = some c → isDg c = true := by
            intro j hj cc hcc
            rcases Nat.lt_succ_iff_lt_or_eq.1 hj with h' | rfl
            · exact hdg j h' cc hcc
            · rw [hc] at hcc; cases hcc; exact hdc
          have hvb2 := valK_b hdg2 (by omega) (by omega)
          rw [valK_succ hc] at hvb2
          refine t_reg ?_
          refine to_mv rfl rfl ?_
          refine to_mul rfl rfl (by first | omega | exact mul_ok (by omega) (by omega) (by omega) (by omega)) rfl ?_
          refine to_mv rfl rfl ?_
          refine to_mv rfl rfl ?_
          refine to_sidx rfl rfl (by assumption) rfl ?_
          refine to_subk rfl rfl (by first | exact IntWalk.i32_in _ (by omega) | exact IntWalk.u8_in _ (by omega)) rfl ?_
          refine to_cv rfl (by first | exact wrap_id (by omega) | exact IntWalk.u8_in _ (by omega) | exact IntWalk.i32_in _ (by omega)) rfl ?_
          refine to_add rfl rfl (by omega) rfl ?_
          refine to_as rfl rfl ?_
          refine to_nil ?_
          refine tn_blk ?_
          refine tn_code ?_
          refine t_reg ?_
          refine to_mv rfl rfl ?_
          refine to_add rfl rfl (by omega) rfl ?_
          refine to_as rfl rfl ?_
          refine to_nil ?_
          exact tn_loop2 (k + 1) [.snap 0 w.heap.size w] (rfl) (⟨by omega, hdg2⟩) (by omega) (⟨rfl, rfl, rfl, rfl, congrArg (fun z => some (Value.int .i64 z)) (by rw [valK_succ hc]), rfl, trivial⟩)
    · try simp only [decide_eq_true_eq, decide_eq_false_iff_not, Bool.not_eq_true', Bool.not_eq_false', Int.not_lt, Int.not_le, ne_eq, Decidable.not_not] at h2
      try have h2b := inB_iff.1 h2
      have hk2 : k = (c0 :: tl).length := by omega
      subst hk2
      have hvb := valK_b hdg hk (by omega)
      refine t_exit ?_
      refine tx_code ?_
      refine tx_inv ?_
      refine tx_blk ?_
      refine tn_code ?_
      refine t_seq ?_
      refine t_reg ?_
      refine to_mv rfl rfl ?_
      refine to_mv rfl rfl ?_
      refine to_mul rfl rfl (by first | omega | exact mul_ok (by omega) (by omega) (by omega) (by omega)) rfl ?_
      refine to_mv rfl rfl ?_
      refine to_mv rfl rfl ?_
      refine to_mul rfl rfl (by first | omega | exact mul_ok (by omega) (by omega) (by omega) (by omega)) rfl ?_
      refine to_call0 rfl rfl (fun w s => T_Decimal (1 * valK (c0 :: tl) (c0 :: tl).length) w (by omega)) rfl ?_
      refine to_mv rfl rfl ?_
      refine to_seq rfl rfl rfl ?_
      refine to_as rfl rfl ?_
      refine to_as rfl rfl ?_
      refine to_nil ?_
      refine tn_code ?_
      refine t_ret2 rfl rfl (res_tmp rfl) (res_tmp rfl) (fun w' s => ?_)
      first | exact numQ_no (numB_long (by omega)) | exact numQ_no (numB_bad hc (dg_f (by omega))) | (refine ⟨_, _, rfl, by omega, ?_⟩; rw [Int.one_mul]; by_cases h9 : decB (valK (c0 :: tl) (c0 :: tl).length) = (c0 :: tl); exact .inl ⟨numB_t (by simp) (by omega) hdg h9, decide_eq_true h9⟩; exact .inr ⟨numB_ne h9, .inl (decide_eq_false h9)⟩)

theorem dec_any (v : Int) (w : World) (h : 0 ≤ v ∧ v ≤ 999) : Calls Tryz.prog 102 #[.int .i64 (-1 * v)] w (RetV w (strV (if v = 0 then decB 0 else 45 :: decB v))) := by
  by_cases hv : v = 0
  · subst hv; exact T_Decimal 0 w (by omega)
  · rw [if_neg hv, show -1 * v = -v from by omega]
    exact T_DecNeg v w (by omega)

set_option maxRecDepth 20000 in
theorem num_m (tl : Bs) (w : World) (hl : tl.length ≤ 1000) : Calls Tryz.prog 111 #[strV (45 :: tl), (.int .i64 3)] w (Ret w (NumQ (45 :: tl))) := by
  have hc0 : ((45 : UInt8) :: tl)[0]? = some 45 := rfl
  have hls : ((45 : UInt8) :: tl).length = tl.length + 1 := rfl
  have hdl : (List.drop 1 ((45 : UInt8) :: tl)).length = tl.length := rfl
  refine calls_T (av := [_, _]) Tryz.func111 rfl rfl rfl ?_
  refine t_seq ?_
  refine t_reg ?_
  refine to_as rfl rfl ?_
  refine to_as rfl rfl ?_
  refine to_nil ?_
  refine tn_code ?_
  refine t_seq ?_
  refine t_reg ?_
  refine to_mv rfl rfl ?_
  refine to_as rfl rfl ?_
  refine to_as rfl rfl ?_
  refine to_nil ?_
  refine tn_code ?_
  refine t_seq ?_
  refine t_seq ?_
  refine t_reg ?_
  refine to_mv rfl rfl ?_
  refine to_lenL rfl rfl ?_
  refine to_gtr rfl rfl rfl ?_
  refine to_fix (s := 13) (b' := true) rfl (decide_eq_true (by omega)) ?_
  refine to_mv rfl rfl ?_
  refine to_gt rfl rfl ?_
  refine to_mv rfl rfl ?_
  refine to_gt rfl rfl ?_
  refine to_sidx rfl rfl (by assumption) rfl ?_
  refine to_gt rfl rfl ?_
  refine to_eqlk rfl rfl rfl ?_
  refine to_fix (s := 17) (b' := true) rfl (rfl) ?_
  refine to_pkT rfl rfl rfl ?_
  refine to_nil ?_
  refine tn_code ?_
  refine t_ifT rfl ?_
  refine t_regD rfl (by kernel_rfl) (by kernel_rfl) ?_
  refine to_mv rfl rfl ?_
  refine to_ssL (k := 1) rfl rfl (by omega) rfl ?_
  refine to_as rfl rfl ?_
  refine to_as rfl rfl ?_
  refine to_nil ?_
  refine tn_code ?_
  refine t_seq ?_
  refine t_seq ?_
  refine t_reg ?_
  refine to_mv rfl rfl ?_
  refine to_lenL rfl rfl ?_
  refine to_lss rfl rfl rfl ?_
  refine to_mv rfl rfl ?_
  refine to_gs rfl rfl rfl (fun h1 => ?_) (fun h1 => ?_)
  · try simp only [decide_eq_true_eq, decide_eq_false_iff_not, Bool.not_eq_true', Bool.not_eq_false', Int.not_lt, Int.not_le, ne_eq, Decidable.not_not] at h1
    try have h1b := inB_iff.1 h1
    refine to_gf rfl rfl rfl rfl ?_
    refine to_gf rfl rfl rfl rfl ?_
    refine to_gf rfl rfl rfl rfl ?_
    refine to_gf rfl rfl rfl rfl ?_
    refine to_pkT rfl rfl rfl ?_
    refine to_nil ?_
    refine tn_code ?_
    refine t_ifT rfl ?_
    refine t_seq ?_
    refine t_reg ?_
    refine to_as rfl rfl ?_
    refine to_as rfl rfl ?_
    refine to_nil ?_
    refine tn_code ?_
    refine t_ret2 rfl rfl (res_tmp rfl) (res_tmp rfl) (fun w' s => ?_)
    first | exact numQ_no (numB_sign tl) | (refine ⟨_, _, rfl, by omega, .inr ⟨numB_sign tl, ?_⟩⟩; by_cases h9 : valK tl tl.length = 0; exact .inl (by rw [h9]; simp [decB, dg1]); exact .inr (by omega))
  · try simp only [decide_eq_true_eq, decide_eq_false_iff_not, Bool.not_eq_true', Bool.not_eq_false', Int.not_lt, Int.not_le, ne_eq, Decidable.not_not] at h1
    try have h1b := inB_iff.1 h1
    refine to_gt rfl rfl ?_
    refine to_mv rfl rfl ?_
    refine to_gt rfl rfl ?_
    refine to_lenL rfl rfl ?_
    refine to_gt rfl rfl ?_
    refine to_mv rfl rfl ?_
    refine to_gt rfl rfl ?_
    refine to_gtr rfl rfl rfl ?_
    refine to_pkF rfl rfl rfl ?_
    refine to_nil ?_
    refine tn_code ?_
    refine t_if rfl (fun h2 => ?_) (fun h2 => ?_)
    · try simp only [decide_eq_true_eq, decide_eq_false_iff_not, Bool.not_eq_true', Bool.not_eq_false', Int.not_lt, Int.not_le, ne_eq, Decidable.not_not] at h2
      try have h2b := inB_iff.1 h2
      refine t_seq ?_
      refine t_reg ?_
      refine to_as rfl rfl ?_
      refine to_as rfl rfl ?_
      refine to_nil ?_
      refine tn_code ?_
      refine t_ret2 rfl rfl (res_tmp rfl) (res_tmp rfl) (fun w' s => ?_)
      first | exact numQ_no (numB_sign tl) | (refine ⟨_, _, rfl, by omega, .inr ⟨numB_sign tl, ?_⟩⟩; by_cases h9 : valK tl tl.length = 0; exact .inl (by rw [h9]; simp [decB, dg1]); exact .inr (by omega))
    · try simp only [decide_eq_true_eq, decide_eq_false_iff_not, Bool.not_eq_true', Bool.not_eq_false', Int.not_lt, Int.not_le, ne_eq, Decidable.not_not] at h2
      try have h2b := inB_iff.1 h2
      refine t_skip ?_
      refine tn_code ?_
      refine t_seq ?_
      refine t_reg ?_
      refine to_as rfl rfl ?_
      refine to_nil ?_
      refine tn_code ?_
      refine t_seq ?_
      refine t_seq ?_
      refine t_reg ?_
      refine to_as rfl rfl ?_
      refine to_nil ?_
      refine tn_code ?_
      refine t_blk ?_
      refine t_loop2 (ι := Nat) (fun k => k ≤ tl.length ∧ ∀ j, j < k → ∀ c, tl[j]? = some c → isDg c = true) (fun k => [(0, strV (45 :: tl)), (1, (.int .i64 3)), (6, (.int .i64 (-1))), (7, strV tl), (8, (.int .i64 (valK tl k))), (9, (.int .i64 (k : Int)))]) (fun k => [.snap 0 w.heap.size w]) (fun k => tl.length - k) (0) [.snap 0 w.heap.size w] (rfl) (⟨Nat.zero_le _, fun j hj => absurd hj (Nat.not_lt_zero _)⟩) (⟨rfl, rfl, rfl, rfl, rfl, rfl, trivial⟩) ?_
      rintro k ⟨hk, hdg⟩
      show T _ _ _ ⟨_, [(0, strV (45 :: tl)), (1, (.int .i64 3)), (6, (.int .i64 (-1))), (7, strV tl), (8, (.int .i64 (valK tl k))), (9, (.int .i64 (k : Int)))], _⟩ [.snap 0 w.heap.size w]
      refine t_seq ?_
      refine t_seq ?_
      refine t_reg ?_
      refine to_mv rfl rfl ?_
      refine to_mv rfl rfl ?_
      refine to_lenL rfl rfl ?_
      refine to_lss rfl rfl rfl ?_
      refine to_nil ?_
      refine tn_code ?_
      refine t_if rfl (fun h3 => ?_) (fun h3 => ?_)
      · try simp only [decide_eq_true_eq, decide_eq_false_iff_not, Bool.not_eq_true', Bool.not_eq_false', Int.not_lt, Int.not_le, ne_eq, Decidable.not_not] at h3
        try have h3b := inB_iff.1 h3
        obtain ⟨ch, hc⟩ := some_get (xs := tl) (k := k) (by omega)
        have hcb := u8_le ch
        have hvb := valK_b hdg hk (by omega)
        refine t_skip ?_
        refine tn_code ?_
        refine t_seq ?_
        refine t_blk ?_
        refine t_seq ?_
        refine t_seq ?_
        refine t_reg ?_
        refine to_mv rfl rfl ?_
        refine to_mv rfl rfl ?_
        refine to_sidx rfl rfl (by assumption) rfl ?_
        refine to_lssk rfl rfl rfl ?_
        refine to_mv rfl rfl ?_
        refine to_gs rfl rfl rfl (fun h4 => ?_) (fun h4 => ?_)
        · try simp only [decide_eq_true_eq, decide_eq_false_iff_not, Bool.not_eq_true', Bool.not_eq_false', Int.not_lt, Int.not_le, ne_eq, Decidable.not_not] at h4
          try have h4b := inB_iff.1 h4
          refine to_gf rfl rfl rfl rfl ?_
          refine to_gf rfl rfl rfl rfl ?_
          refine to_gf rfl rfl rfl rfl ?_
          refine to_gf rfl rfl rfl rfl ?_
          refine to_pkT rfl rfl rfl ?_
          refine to_nil ?_
          refine tn_code ?_
          refine t_ifT rfl ?_
          refine t_seq ?_
          refine t_reg ?_
          refine to_as rfl rfl ?_
          refine to_as rfl rfl ?_
          refine to_nil ?_
          refine tn_code ?_
          refine t_ret2 rfl rfl (res_tmp rfl) (res_tmp rfl) (fun w' s => ?_)
          first | exact numQ_no (numB_sign tl) | (refine ⟨_, _, rfl, by omega, .inr ⟨numB_sign tl, ?_⟩⟩; by_cases h9 : valK tl tl.length = 0; exact .inl (by rw [h9]; simp [decB, dg1]); exact .inr (by omega))
        · try simp only [decide_eq_true_eq, decide_eq_false_iff_not, Bool.not_eq_true', Bool.not_eq_false', Int.not_lt, Int.not_le, ne_eq, Decidable.not_not] at h4
          try have h4b := inB_iff.1 h4
          refine to_gt rfl rfl ?_
          refine to_mv rfl rfl ?_
          refine to_gt rfl rfl ?_
          refine to_mv rfl rfl ?_
          refine to_gt rfl rfl ?_
          refine to_sidx rfl rfl (by assumption) rfl ?_
          refine to_gt rfl rfl ?_
          refine to_gtrk rfl rfl rfl ?_
          refine to_pkF rfl rfl rfl ?_
          refine to_nil ?_
          refine tn_code ?_
          refine t_if rfl (fun h5 => ?_) (fun h5 => ?_)
          · try simp only [decide_eq_true_eq, decide_eq_false_iff_not, Bool.not_eq_true', Bool.not_eq_false', Int.not_lt, Int.not_le, ne_eq, Decidable.not_not] at h5
            try have h5b := inB_iff.1 h5
            refine t_seq ?_
            refine t_reg ?_
            refine to_as rfl rfl ?_
            refine to_as rfl rfl ?_
            refine to_nil ?_
            refine tn_code ?_
            refine t_ret2 rfl rfl (res_tmp rfl) (res_tmp rfl) (fun w' s => ?_)
            first | exact numQ_no (numB_sign tl) | (refine ⟨_, _, rfl, by omega, .inr ⟨numB_sign tl, ?_⟩⟩; by_cases h9 : valK tl tl.length = 0; exact .inl (by rw [h9]; simp [decB, dg1]); exact .inr (by omega))
          · try simp only [decide_eq_true_eq, decide_eq_false_iff_not, Bool.not_eq_true', Bool.not_eq_false', Int.not_lt, Int.not_le, ne_eq, Decidable.not_not] at h5
            try have h5b := inB_iff.1 h5
            refine t_skip ?_
            refine tn_code ?_
            have hdc := dg_t (c := ch) (by omega)
            have hdg2 : ∀ j, j < k + 1 → ∀ c, tl[j]? = some c → isDg c = true := by
              intro j hj cc hcc
              rcases Nat.lt_succ_iff_lt_or_eq.1 hj with h' | rfl
              · exact hdg j h' cc hcc
              · rw [hc] at hcc; cases hcc; exact hdc
            have hvb2 := valK_b hdg2 (by omega) (by omega)
            rw [valK_succ hc] at hvb2
            refine t_reg ?_
            refine to_mv rfl rfl ?_
            refine to_mul rfl rfl (by first | omega | exact mul_ok (by omega) (by omega) (by omega) (by omega)) rfl ?_
            refine to_mv rfl rfl ?_
            refine to_mv rfl rfl ?_
            refine to_sidx rfl rfl (by assumption) rfl ?_
            refine to_subk rfl rfl (by first | exact IntWalk.i32_in _ (by omega) | exact IntWalk.u8_in _ (by omega)) rfl ?_
            refine to_cv rfl (by first | exact wrap_id (by omega) | exact IntWalk.u8_in _ (by omega) | exact IntWalk.i32_in _ (by omega)) rfl ?_
            refine to_add rfl rfl (by omega) rfl ?_
            refine to_as rfl rfl ?_
            refine to_nil ?_
            refine tn_blk ?_
            refine tn_code ?_
            refine t_reg ?_
            refine to_mv rfl rfl ?_
            refine to_add rfl rfl (by omega) rfl ?_
            refine to_as rfl rfl ?_
            refine to_nil ?_
            exact tn_loop2 (k + 1) [.snap 0 w.heap.size w] (rfl) (⟨by omega, hdg2⟩) (by omega) (⟨rfl, rfl, rfl, rfl, congrArg (fun z => some (Value.int .i64 z)) (by rw [valK_succ hc]), rfl, trivial⟩)
      · try simp only [decide_eq_true_eq, decide_eq_false_iff_not, Bool.not_eq_true', Bool.not_eq_false', Int.not_lt, Int.not_le, ne_eq, Decidable.not_not] at h3
        try have h3b := inB_iff.1 h3
        have hk2 : k = tl.length := by omega
        subst hk2
        have hvb := valK_b hdg hk (by omega)
        refine t_exit ?_
        refine tx_code ?_
        refine tx_inv ?_
        refine tx_blk ?_
        refine tn_code ?_
        refine t_seq ?_
        refine t_reg ?_
        refine to_mv rfl rfl ?_
        refine to_mv rfl rfl ?_
        refine to_mul rfl rfl (by first | omega | exact mul_ok (by omega) (by omega) (by omega) (by omega)) rfl ?_
        refine to_mv rfl rfl ?_
        refine to_mv rfl rfl ?_
        refine to_mul rfl rfl (by first | omega | exact mul_ok (by omega) (by omega) (by omega) (by omega)) rfl ?_
        refine to_call0 rfl rfl (fun w s => dec_any (valK tl tl.length) w (by omega)) rfl ?_
        refine to_mv rfl rfl ?_
        refine to_seq rfl rfl rfl ?_
        refine to_as rfl rfl ?_
        refine to_as rfl rfl ?_
        refine to_nil ?_
        refine tn_code ?_
        refine t_ret2 rfl rfl (res_tmp rfl) (res_tmp rfl) (fun w' s => ?_)
        first | exact numQ_no (numB_sign tl) | (refine ⟨_, _, rfl, by omega, .inr ⟨numB_sign tl, ?_⟩⟩; by_cases h9 : valK tl tl.length = 0; exact .inl (by rw [h9]; simp [decB, dg1]); exact .inr (by omega))

theorem T_number (l : Bs) (w : World) (hl : l.length ≤ 1000) : Calls Tryz.prog 111 #[strV l, .int .i64 3] w (Ret w (NumQ l)) := by
  cases l with
  | nil => exact num_nil w
  | cons c0 tl =>
    simp only [List.length_cons] at hl
    by_cases h0 : c0 = 45
    · subst h0; exact num_m tl w (by omega)
    · exact num_p c0 tl w h0 (by omega)

end Go.Proofs


namespace Go.Proofs
open Go Go.Sx Go.RowKit

theorem split_hit {c : UInt8} {s : Bs} {fr i : Nat} {ch : UInt8} (hi : s[i]? = some ch) (hc : ch = c) (hf : fr ≤ i) (hn : ∀ x ∈ (s.drop fr).take (i - fr), x ≠ c) : splitL c (s.drop fr) = (s.drop fr).take (i - fr) :: splitL c (s.drop (i + 1)) := by
  subst hc
  have hlt := (List.getElem?_eq_some_iff.1 hi)
  obtain ⟨h1, h2⟩ := hlt
  have e : s.drop fr = (s.drop fr).take (i - fr) ++ ch :: s.drop (i + 1) := by
    have h3 : s.drop i = ch :: s.drop (i + 1) := by rw [List.drop_eq_getElem_cons h1, h2]
    rw [← h3]
    have h4 : s.drop i = (s.drop fr).drop (i - fr) := by rw [List.drop_drop]; congr 1; omega
    rw [h4, List.take_append_drop]
  have := split_app hn (s.drop (i + 1))
  rw [← e] at this
  exact this
theorem take_more {s : Bs} {fr i : Nat} {ch c : UInt8} (hi : s[i]? = some ch) (hc : ch ≠ c) (hf : fr ≤ i) (hn : ∀ x ∈ (s.drop fr).take (i - fr), x ≠ c) : ∀ x ∈ (s.drop fr).take (i + 1 - fr), x ≠ c := by
  have h1 : (s.drop fr)[i - fr]? = some ch := by rw [List.getElem?_drop, show fr + (i - fr) = i from by omega]; exact hi
  rw [show i + 1 - fr = (i - fr) + 1 from by omega, take_snoc h1]
  intro x hx
  rcases List.mem_append.1 hx with hx | hx
  · exact hn x hx
  · simp only [List.mem_singleton] at hx; subst hx; exact hc
theorem u8_eq {a b : UInt8} (h : ((a.toNat : Nat) : Int) = ((b.toNat : Nat) : Int)) : a = b := UInt8.toNat_inj.1 (by omega)
theorem u8_ne {a b : UInt8} (h : ¬ ((a.toNat : Nat) : Int) = ((b.toNat : Nat) : Int)) : a ≠ b := fun e => h (by rw [e])

set_option maxRecDepth 20000 in
theorem T_Split (s0 : Bs) (c : UInt8) (w : World) (hl : s0.length ≤ 1000) : Calls Tryz.prog 73 #[strV s0, .int .u8 ((c.toNat : Nat) : Int)] w (Ret w (RStr (splitL c s0))) := by
  refine calls_T (av := [_, _]) Tryz.func73 rfl rfl rfl ?_
  refine t_seq ?_
  refine t_reg ?_
  refine to_as rfl rfl ?_
  refine to_nil ?_
  refine tn_code ?_
  refine t_seq ?_
  refine t_reg ?_
  refine to_as rfl rfl ?_
  refine to_nil ?_
  refine tn_code ?_
  refine t_seq ?_
  refine t_reg ?_
  refine to_as rfl rfl ?_
  refine to_nil ?_
  refine tn_code ?_
  refine t_seq ?_
  refine t_seq ?_
  refine t_reg ?_
  refine to_as rfl rfl ?_
  refine to_nil ?_
  refine tn_code ?_
  refine t_blk ?_
  refine t_nilrow 9 1 ?_
  refine t_loop2 (ι := Nat × Nat × List Bs × Option Addr × Nat) (fun ((i, fr, P, a', c') : Nat × Nat × List Bs × Option Addr × Nat) => i ≤ s0.length ∧ fr ≤ i ∧ splitL c s0 = P ++ splitL c (s0.drop fr) ∧ (∀ x ∈ (s0.drop fr).take (i - fr), x ≠ c) ∧ P.length ≤ i) (fun ((i, fr, P, a', c') : Nat × Nat × List Bs × Option Addr × Nat) => [(0, strV s0), (1, .int .u8 ((c.toNat : Nat) : Int)), (5, .slice a' P.length c'), (6, (.int .i64 (fr : Int))), (7, (.int .i64 (i : Int)))]) (fun ((i, fr, P, a', c') : Nat × Nat × List Bs × Option Addr × Nat) => [.row a' P.length c' 9 1 (strs P), .snap 0 w.heap.size w]) (fun ((i, fr, P, a', c') : Nat × Nat × List Bs × Option Addr × Nat) => s0.length - i) ((0, 0, [], none, 0)) [.row none 0 0 9 1 [], .snap 0 w.heap.size w] (rfl) (⟨Nat.zero_le _, Nat.le_refl _, rfl, fun x hx => by simp at hx, Nat.zero_le _⟩) (⟨rfl, rfl, rfl, rfl, rfl, trivial⟩) ?_
  rintro ⟨i, fr, P, a', c'⟩ ⟨hi, hfi, hsp, hno, hPl⟩
  try dsimp only at hk
  show T _ _ _ ⟨_, [(0, strV s0), (1, .int .u8 ((c.toNat : Nat) : Int)), (5, .slice a' P.length c'), (6, (.int .i64 (fr : Int))), (7, (.int .i64 (i : Int)))], _⟩ [.row a' P.length c' 9 1 (strs P), .snap 0 w.heap.size w]
  refine t_seq ?_
  refine t_seq ?_
  refine t_reg ?_
  refine to_mv rfl rfl ?_
  refine to_mv rfl rfl ?_
  refine to_lenL rfl rfl ?_
  refine to_lss rfl rfl rfl ?_
  refine to_nil ?_
  refine tn_code ?_
  refine t_if rfl (fun h1 => ?_) (fun h1 => ?_)
  · try simp only [decide_eq_true_eq, decide_eq_false_iff_not, Bool.not_eq_true', Bool.not_eq_false', Int.not_lt, Int.not_le, ne_eq, Decidable.not_not] at h1
    try have h1b := inB_iff.1 h1
    obtain ⟨ch, hc⟩ := some_get (xs := s0) (k := i) (by omega)
    have hcb := u8_le ch
    refine t_skip ?_
    refine tn_code ?_
    refine t_seq ?_
    refine t_blk ?_
    refine t_seq ?_
    refine t_reg ?_
    refine to_mv rfl rfl ?_
    refine to_mv rfl rfl ?_
    refine to_sidx rfl rfl (by assumption) rfl ?_
    refine to_mv rfl rfl ?_
    refine to_eqlk rfl rfl rfl ?_
    refine to_nil ?_
    refine tn_code ?_
    refine t_if rfl (fun h2 => ?_) (fun h2 => ?_)
    · try simp only [decide_eq_true_eq, decide_eq_false_iff_not, Bool.not_eq_true', Bool.not_eq_false', Int.not_lt, Int.not_le, ne_eq, Decidable.not_not] at h2
      try have h2b := inB_iff.1 h2
      have heq := u8_eq (a := ch) (b := c) h2
      refine t_seq ?_
      refine t_reg ?_
      refine to_mv rfl rfl ?_
      refine to_mv rfl rfl ?_
      refine to_mv rfl rfl ?_
      refine to_mv rfl rfl ?_
      refine to_ssM rfl rfl rfl (by omega) (by omega) rfl ?_
      refine to_bsl rfl rfl rfl rfl (fun a24 => ?_)
      refine to_app rfl rfl rfl (by simp [scals, scal]) (by decide) (by omega) (by decide) rfl (fun a25 c25 => ?_)
      refine to_as rfl rfl ?_
      refine to_nil ?_
      refine tn_code ?_
      refine t_reg ?_
      refine to_mv rfl rfl ?_
      refine to_add rfl rfl (by omega) rfl ?_
      refine to_as rfl rfl ?_
      refine to_nil ?_
      refine tn_blk ?_
      refine tn_code ?_
      refine t_reg ?_
      refine to_mv rfl rfl ?_
      refine to_add rfl rfl (by omega) rfl ?_
      refine to_as rfl rfl ?_
      refine to_nil ?_
      exact tn_loop2 ((i + 1, i + 1, P ++ [((s0.drop fr).take (i - fr))], a25, c25)) [.row a25 (P.length + 1) c25 9 1 (strs P ++ [[strV ((s0.drop fr).take (i - fr))]]), .snap 0 w.heap.size w] (by simp) (⟨by omega, Nat.le_refl _, by rw [hsp, split_hit hc heq hfi hno]; simp, fun x hx => by simp at hx, by simp; omega⟩) (by dsimp only; omega) (⟨rfl, rfl, congrArg some (by simp), rfl, rfl, trivial⟩)
    · try simp only [decide_eq_true_eq, decide_eq_false_iff_not, Bool.not_eq_true', Bool.not_eq_false', Int.not_lt, Int.not_le, ne_eq, Decidable.not_not] at h2
      try have h2b := inB_iff.1 h2
      have heq := u8_ne (a := ch) (b := c) h2
      refine t_skip ?_
      refine tn_blk ?_
      refine tn_code ?_
      refine t_reg ?_
      refine to_mv rfl rfl ?_
      refine to_add rfl rfl (by omega) rfl ?_
      refine to_as rfl rfl ?_
      refine to_nil ?_
      exact tn_loop2 ((i + 1, fr, P, a', c')) [.row a' P.length c' 9 1 (strs P), .snap 0 w.heap.size w] (rfl) (⟨by omega, by omega, hsp, take_more hc heq hfi hno, by omega⟩) (by dsimp only; omega) (⟨rfl, rfl, rfl, rfl, rfl, trivial⟩)
  · try simp only [decide_eq_true_eq, decide_eq_false_iff_not, Bool.not_eq_true', Bool.not_eq_false', Int.not_lt, Int.not_le, ne_eq, Decidable.not_not] at h1
    try have h1b := inB_iff.1 h1
    have hi2 : i = s0.length := by omega
    subst hi2
    refine t_exit ?_
    refine tx_code ?_
    refine tx_inv ?_
    refine tx_blk ?_
    refine tn_code ?_
    refine t_seq ?_
    refine t_reg ?_
    refine to_mv rfl rfl ?_
    refine to_mv rfl rfl ?_
    refine to_mv rfl rfl ?_
    refine to_ssL rfl rfl (by omega) rfl ?_
    refine to_bsl rfl rfl rfl rfl (fun a32 => ?_)
    refine to_app rfl rfl rfl (by simp [scals, scal]) (by decide) (by omega) (by decide) rfl (fun a33 c33 => ?_)
    refine to_as rfl rfl ?_
    refine to_nil ?_
    refine tn_code ?_
    refine t_ret1 rfl rfl (res_tmp rfl) (fun w' s => ?_)
    have hf : splitL c (s0.drop fr) = [s0.drop fr] := split_none (fun x hx => hno x (by rw [List.take_of_length_le (by rw [List.length_drop]; exact Nat.le_refl _)]; exact hx))
    rw [RStr, hsp, hf]
    refine ⟨_, _, congrArg (fun z => Value.slice a33 z c33) (by simp), ?_⟩
    have h9 := ro_row s (a := a33)
    simpa using h9

end Go.Proofs


namespace Go.Proofs
open Go Go.Sx Go.RowKit

def NumsQ (ws : List Bs) : Nat → World → Value → Prop := fun lo w1 v => ∃ (Q : List Int) (a1 : Option Addr) (c1 : Nat) (bb : Bool), v = .tuple #[.slice a1 Q.length c1, .bool bb] ∧ Ro w1 lo w1.heap.size a1 Q.length c1 1 (ints Q) ∧ (numsB ws = some Q ∧ bb = true ∨ numsB ws = none ∧ (bb = false ∨ ∃ x ∈ Q, x < 0)) ∧ Q.length ≤ ws.length
def PlainQ (ws : List Bs) : Nat → World → Value → Prop := fun lo w1 v => ∃ (Q : List Int) (a1 : Option Addr) (c1 : Nat), v = .tuple #[.slice a1 Q.length c1, .bool (numsB ws).isSome] ∧ Ro w1 lo w1.heap.size a1 Q.length c1 1 (ints Q) ∧ (∀ ns, numsB ws = some ns → Q = ns) ∧ Q.length ≤ ws.length
def NInv (ws : List Bs) (k : Nat) (Q : List Int) : Prop := numsB (ws.take k) = some Q ∨ numsB (ws.take k) = none ∧ ∃ x ∈ Q, x < 0
theorem ninv_next {ws : List Bs} {k : Nat} {Q : List Int} {wd : Bs} {n : Int} {bb : Bool} (h : NInv ws k Q) (hw : ws[k]? = some wd) (hn : numB wd = some n ∧ bb = true ∨ numB wd = none ∧ (bb = false ∨ n < 0)) (hb : bb = true) : NInv ws (k + 1) (Q ++ [n]) := by
  subst hb
  simp only [NInv]
  rw [take_snoc hw, numsB_snoc]
  rcases h with h | ⟨h, x, hx, hx2⟩
  · rw [h]
    rcases hn with ⟨hn, _⟩ | ⟨hn, hn2 | hn2⟩
    · rw [hn]; exact .inl rfl
    · cases hn2
    · rw [hn]; exact .inr ⟨rfl, n, by simp, hn2⟩
  · rw [h]; exact .inr ⟨rfl, x, List.mem_append_left _ hx, hx2⟩
theorem ninv_bad {ws : List Bs} {k : Nat} {wd : Bs} {n : Int} {bb : Bool} (hw : ws[k]? = some wd) (hn : numB wd = some n ∧ bb = true ∨ numB wd = none ∧ (bb = false ∨ n < 0)) (hb : bb = false) : numsB ws = none := by
  rcases hn with ⟨_, h⟩ | ⟨h, _⟩
  · rw [hb] at h; cases h
  · exact numsB_none hw h
theorem ninv_end {ws : List Bs} {Q : List Int} (h : NInv ws ws.length Q) : numsB ws = some Q ∧ true = true ∨ numsB ws = none ∧ (true = false ∨ ∃ x ∈ Q, x < 0) := by
  simp only [NInv, List.take_length] at h
  rcases h with h | ⟨h1, h2⟩
  · exact .inl ⟨h, rfl⟩
  · exact .inr ⟨h1, .inr h2⟩
theorem plain_end {ws : List Bs} {Q : List Int} {bb : Bool} (h : numsB ws = some Q ∧ bb = true ∨ numsB ws = none ∧ (bb = false ∨ ∃ x ∈ Q, x < 0)) : (bb && Q.all (fun x => decide (0 ≤ x))) = (numsB ws).isSome ∧ ∀ ns, numsB ws = some ns → Q = ns := by
  rcases h with ⟨h1, h2⟩ | ⟨h1, h2⟩
  · rw [h1, h2]
    refine ⟨?_, fun ns h => Option.some.inj h⟩
    simp only [Bool.true_and, Option.isSome_some]
    exact List.all_eq_true.2 (fun x hx => decide_eq_true ((numsB_b h1).2 x hx).1)
  · rw [h1]
    refine ⟨?_, fun ns h => by cases h⟩
    rcases h2 with h2 | ⟨x, hx, hx2⟩
    · rw [h2]; rfl
    · have : Q.all (fun x => decide (0 ≤ x)) = false := by
        rw [Bool.eq_false_iff]
        intro hall
        have := List.all_eq_true.1 hall x hx
        simp at this; omega
      rw [this]; simp
theorem all_step {bb : Bool} {Q : List Int} {k : Nat} {x : Int} (hx : Q[k]? = some x) : (bb && (Q.take (k + 1)).all (fun x => decide (0 ≤ x))) = ((bb && (Q.take k).all (fun x => decide (0 ≤ x))) && decide (0 ≤ x)) := by
  rw [take_snoc hx, List.all_append, ← Bool.and_assoc]; simp

set_option maxRecDepth 20000 in
theorem T_Numbers (ws : List Bs) (a : Option Addr) (c : Nat) (w : World) (hr : Ro w 0 w.heap.size a ws.length c 1 (strs ws)) (hl : ws.length ≤ 1000) (hwl : ∀ wd ∈ ws, wd.length ≤ 1000) : Calls Tryz.prog 103 #[.slice a ws.length c, (.int .i64 3)] w (Ret w (NumsQ ws)) := by
  refine calls_T (av := [_, _]) Tryz.func103 rfl rfl rfl ?_
  refine t_seq ?_
  refine t_reg ?_
  refine to_as rfl rfl ?_
  refine to_as rfl rfl ?_
  refine to_nil ?_
  refine tn_code ?_
  refine t_seq ?_
  refine t_reg ?_
  refine to_as rfl rfl ?_
  refine to_nil ?_
  refine tn_code ?_
  refine t_seq ?_
  refine t_seq ?_
  refine t_reg ?_
  refine to_as rfl rfl ?_
  refine to_nil ?_
  refine tn_code ?_
  refine t_blk ?_
  refine t_nilrow 3 1 ?_
  refine t_loop2 (ι := Nat × List Int × Option Addr × Nat) (fun ((k, Q, a', c') : Nat × List Int × Option Addr × Nat) => k ≤ ws.length ∧ Q.length ≤ k ∧ NInv ws k Q) (fun ((k, Q, a', c') : Nat × List Int × Option Addr × Nat) => [(0, .slice a ws.length c), (1, (.int .i64 3)), (6, .slice a' Q.length c'), (7, (.int .i64 (k : Int)))]) (fun ((k, Q, a', c') : Nat × List Int × Option Addr × Nat) => [.row a' Q.length c' 3 1 (ints Q), .snap 0 w.heap.size w]) (fun ((k, Q, a', c') : Nat × List Int × Option Addr × Nat) => ws.length - k) ((0, [], none, 0)) [.row none 0 0 3 1 [], .snap 0 w.heap.size w] (rfl) (⟨Nat.zero_le _, Nat.zero_le _, .inl rfl⟩) (⟨rfl, rfl, rfl, rfl, trivial⟩) ?_
  rintro ⟨k, Q, a', c'⟩ ⟨hk, hQl, hQi⟩
  try dsimp only at hk
  show T _ _ _ ⟨_, [(0, .slice a ws.length c), (1, (.int .i64 3)), (6, .slice a' Q.length c'), (7, (.int .i64 (k : Int)))], _⟩ [.row a' Q.length c' 3 1 (ints Q), .snap 0 w.heap.size w]
  refine t_seq ?_
  refine t_seq ?_
  refine t_reg ?_
  refine to_mv rfl rfl ?_
  refine to_mv rfl rfl ?_
  refine to_lenS rfl rfl ?_
  refine to_lss rfl rfl rfl ?_
  refine to_nil ?_
  refine tn_code ?_
  refine t_if rfl (fun h1 => ?_) (fun h1 => ?_)
  · try simp only [decide_eq_true_eq, decide_eq_false_iff_not, Bool.not_eq_true', Bool.not_eq_false', Int.not_lt, Int.not_le, ne_eq, Decidable.not_not] at h1
    try have h1b := inB_iff.1 h1
    obtain ⟨wd, hw⟩ := some_get (xs := ws) (k := k) (by omega)
    have hwx := map_get (f := strC) hw
    have hwb := hwl wd (List.mem_of_getElem? hw)
    refine t_skip ?_
    refine tn_code ?_
    refine t_seq ?_
    refine t_blk ?_
    refine t_seq ?_
    refine t_reg ?_
    refine to_mv rfl rfl ?_
    refine to_mv rfl rfl ?_
    first | refine to_ix rfl rfl rfl (by first | omega | decide) (by first | omega | decide) rfl ?_ | refine to_ixi rfl rfl rfl (by omega) (by omega) (by omega) rfl ?_
    first | refine to_lds rfl rfl rfl ?_ | refine to_ldes rfl (by assumption) rfl rfl ?_
    refine to_mv rfl rfl ?_
    refine to_callR rfl rfl (fun w s => T_number _ w (by omega)) rfl (fun v22 lo22 w22 hlo22 hR22 => ?_)
    obtain ⟨n22, bb22, rfl, hnb22, hnq22⟩ := hR22
    refine to_mv rfl rfl ?_
    refine to_ex rfl rfl rfl ?_
    refine to_ex rfl rfl rfl ?_
    refine to_as rfl rfl ?_
    refine to_as rfl rfl ?_
    refine to_nil ?_
    refine tn_code ?_
    refine t_seq ?_
    refine t_seq ?_
    refine t_reg ?_
    refine to_mv rfl rfl ?_
    refine to_not rfl rfl ?_
    refine to_nil ?_
    refine tn_code ?_
    refine t_if rfl (fun h2 => ?_) (fun h2 => ?_)
    · try simp only [decide_eq_true_eq, decide_eq_false_iff_not, Bool.not_eq_true', Bool.not_eq_false', Int.not_lt, Int.not_le, ne_eq, Decidable.not_not] at h2
      try have h2b := inB_iff.1 h2
      have hbb : bb22 = false := h2
      refine t_seq ?_
      refine t_reg ?_
      refine to_as rfl rfl ?_
      refine to_as rfl rfl ?_
      refine to_nil ?_
      refine tn_code ?_
      refine t_ret2 rfl rfl (res_tmp rfl) (res_tmp rfl) (fun w' s => ?_)
      first | exact ⟨[], _, _, false, rfl, Ro.nil _ _ _ _, .inr ⟨ninv_bad hw hnq22 hbb, .inl rfl⟩, Nat.zero_le _⟩ | exact ⟨Q, _, _, true, rfl, ro_row s, ninv_end hQi, hQl⟩
    · try simp only [decide_eq_true_eq, decide_eq_false_iff_not, Bool.not_eq_true', Bool.not_eq_false', Int.not_lt, Int.not_le, ne_eq, Decidable.not_not] at h2
      try have h2b := inB_iff.1 h2
      have hbb : bb22 = true := h2
      refine t_skip ?_
      refine tn_code ?_
      refine t_reg ?_
      refine to_mv rfl rfl ?_
      refine to_mv rfl rfl ?_
      refine to_bsl rfl rfl rfl rfl (fun a29 => ?_)
      refine to_app rfl rfl rfl (by simp [scals, scal]) (by decide) (by omega) (by decide) rfl (fun a30 c30 => ?_)
      refine to_as rfl rfl ?_
      refine to_nil ?_
      refine tn_blk ?_
      refine tn_code ?_
      refine t_reg ?_
      refine to_mv rfl rfl ?_
      refine to_add rfl rfl (by omega) rfl ?_
      refine to_as rfl rfl ?_
      refine to_nil ?_
      exact tn_loop2 ((k + 1, Q ++ [n22], a30, c30)) [.row a30 (Q.length + 1) c30 3 1 (ints Q ++ [[.int .i64 n22]]), .snap 0 w.heap.size w] (by simp) (⟨by omega, by simp; omega, ninv_next hQi hw hnq22 hbb⟩) (by dsimp only; omega) (⟨rfl, rfl, congrArg some (by simp), rfl, trivial⟩)
  · try simp only [decide_eq_true_eq, decide_eq_false_iff_not, Bool.not_eq_true', Bool.not_eq_false', Int.not_lt, Int.not_le, ne_eq, Decidable.not_not] at h1
    try have h1b := inB_iff.1 h1
    have hk2 : k = ws.length := by omega
    subst hk2
    refine t_exit ?_
    refine tx_code ?_
    refine tx_inv ?_
    refine tx_blk ?_
    refine tn_code ?_
    refine t_seq ?_
    refine t_reg ?_
    refine to_mv rfl rfl ?_
    refine to_as rfl rfl ?_
    refine to_as rfl rfl ?_
    refine to_nil ?_
    refine tn_code ?_
    refine t_ret2 rfl rfl (res_tmp rfl) (res_tmp rfl) (fun w' s => ?_)
    first | exact ⟨[], _, _, false, rfl, Ro.nil _ _ _ _, .inr ⟨ninv_bad hw hnq22 hbb, .inl rfl⟩, Nat.zero_le _⟩ | exact ⟨Q, _, _, true, rfl, ro_row s, ninv_end hQi, hQl⟩

set_option maxRecDepth 20000 in
theorem T_Plain (ws : List Bs) (a : Option Addr) (c : Nat) (w : World) (hr : Ro w 0 w.heap.size a ws.length c 1 (strs ws)) (hl : ws.length ≤ 1000) (hwl : ∀ wd ∈ ws, wd.length ≤ 1000) : Calls Tryz.prog 74 #[.slice a ws.length c, (.int .i64 3)] w (Ret w (PlainQ ws)) := by
  refine calls_T (av := [_, _]) Tryz.func74 rfl rfl rfl ?_
  refine t_seq ?_
  refine t_reg ?_
  refine to_as rfl rfl ?_
  refine to_as rfl rfl ?_
  refine to_nil ?_
  refine tn_code ?_
  refine t_seq ?_
  refine t_reg ?_
  refine to_mv rfl rfl ?_
  refine to_mv rfl rfl ?_
  refine to_callR rfl rfl (fun w s => T_Numbers _ _ _ w (rdw s) (by omega) (by assumption)) rfl (fun v12 lo12 w12 hlo12 hR12 => ?_)
  obtain ⟨Q12, pa12, pc12, bb12, rfl, hro12, hQq12, hQz12⟩ := hR12
  refine to_mv rfl rfl ?_
  refine to_ex rfl rfl rfl ?_
  refine to_ex rfl rfl rfl ?_
  refine to_as rfl rfl ?_
  refine to_as rfl rfl ?_
  refine to_nil ?_
  refine tn_code ?_
  refine t_seq ?_
  refine t_seq ?_
  have hQn : Q12.length ≤ 1000 := by omega
  refine t_reg ?_
  refine to_as rfl rfl ?_
  refine to_nil ?_
  refine tn_code ?_
  refine t_blk ?_
  refine t_loop2 (ι := Nat) (fun k => k ≤ Q12.length) (fun k => [(6, .slice pa12 Q12.length pc12), (7, .bool (bb12 && (Q12.take k).all (fun x => decide (0 ≤ x)))), (8, (.int .i64 (k : Int)))]) (fun k => [.snap lo12 w12.heap.size w12, .snap 0 w.heap.size w]) (fun k => Q12.length - k) (0) [.snap lo12 w12.heap.size w12, .snap 0 w.heap.size w] (rfl) (Nat.zero_le _) (⟨rfl, congrArg (fun z => some (Value.bool z)) (by simp), rfl, trivial⟩) ?_
  rintro k hk
  show T _ _ _ ⟨_, [(6, .slice pa12 Q12.length pc12), (7, .bool (bb12 && (Q12.take k).all (fun x => decide (0 ≤ x)))), (8, (.int .i64 (k : Int)))], _⟩ [.snap lo12 w12.heap.size w12, .snap 0 w.heap.size w]
  refine t_seq ?_
  refine t_seq ?_
  refine t_reg ?_
  refine to_mv rfl rfl ?_
  refine to_mv rfl rfl ?_
  refine to_lenS rfl rfl ?_
  refine to_lss rfl rfl rfl ?_
  refine to_nil ?_
  refine tn_code ?_
  refine t_if rfl (fun h1 => ?_) (fun h1 => ?_)
  · try simp only [decide_eq_true_eq, decide_eq_false_iff_not, Bool.not_eq_true', Bool.not_eq_false', Int.not_lt, Int.not_le, ne_eq, Decidable.not_not] at h1
    try have h1b := inB_iff.1 h1
    obtain ⟨x, hq⟩ := some_get (xs := Q12) (k := k) (by omega)
    have hqx := map_get (f := intC) hq
    refine t_skip ?_
    refine tn_code ?_
    refine t_seq ?_
    refine t_blk ?_
    refine t_reg ?_
    refine to_mv rfl rfl ?_
    refine to_mv rfl rfl ?_
    refine to_gs rfl rfl rfl (fun h2 => ?_) (fun h2 => ?_)
    · try simp only [decide_eq_true_eq, decide_eq_false_iff_not, Bool.not_eq_true', Bool.not_eq_false', Int.not_lt, Int.not_le, ne_eq, Decidable.not_not] at h2
      try have h2b := inB_iff.1 h2
      have hall := h2
      refine to_gt rfl rfl ?_
      refine to_mv rfl rfl ?_
      refine to_gt rfl rfl ?_
      refine to_mv rfl rfl ?_
      refine to_gt rfl rfl ?_
      first | refine to_ix rfl rfl rfl (by first | omega | decide) (by first | omega | decide) rfl ?_ | refine to_ixi rfl rfl rfl (by omega) (by omega) (by omega) rfl ?_
      refine to_gt rfl rfl ?_
      first | refine to_lds rfl rfl rfl ?_ | refine to_ldes rfl (by assumption) rfl rfl ?_
      refine to_gt rfl rfl ?_
      refine to_geq rfl rfl rfl ?_
      refine to_pkT rfl rfl rfl ?_
      refine to_as rfl rfl ?_
      refine to_nil ?_
      refine tn_blk ?_
      refine tn_code ?_
      refine t_reg ?_
      refine to_mv rfl rfl ?_
      refine to_add rfl rfl (by omega) rfl ?_
      refine to_as rfl rfl ?_
      refine to_nil ?_
      exact tn_loop2 (k + 1) [.snap lo12 w12.heap.size w12, .snap 0 w.heap.size w] (rfl) (by omega) (by omega) (⟨rfl, congrArg (fun z => some (Value.bool z)) (by rw [all_step hq, hall]; simp), rfl, trivial⟩)
    · try simp only [decide_eq_true_eq, decide_eq_false_iff_not, Bool.not_eq_true', Bool.not_eq_false', Int.not_lt, Int.not_le, ne_eq, Decidable.not_not] at h2
      try have h2b := inB_iff.1 h2
      have hall := h2
      refine to_gf rfl rfl rfl rfl ?_
      refine to_gf rfl rfl rfl rfl ?_
      refine to_gf rfl rfl rfl rfl ?_
      refine to_gf rfl rfl rfl rfl ?_
      refine to_gf rfl rfl rfl rfl ?_
      refine to_pkF rfl rfl rfl ?_
      refine to_as rfl rfl ?_
      refine to_nil ?_
      refine tn_blk ?_
      refine tn_code ?_
      refine t_reg ?_
      refine to_mv rfl rfl ?_
      refine to_add rfl rfl (by omega) rfl ?_
      refine to_as rfl rfl ?_
      refine to_nil ?_
      exact tn_loop2 (k + 1) [.snap lo12 w12.heap.size w12, .snap 0 w.heap.size w] (rfl) (by omega) (by omega) (⟨rfl, congrArg (fun z => some (Value.bool z)) (by rw [all_step hq, hall]; simp), rfl, trivial⟩)
  · try simp only [decide_eq_true_eq, decide_eq_false_iff_not, Bool.not_eq_true', Bool.not_eq_false', Int.not_lt, Int.not_le, ne_eq, Decidable.not_not] at h1
    try have h1b := inB_iff.1 h1
    have hk2 : k = Q12.length := by omega
    subst hk2
    refine t_exit ?_
    refine tx_code ?_
    refine tx_inv ?_
    refine tx_blk ?_
    refine tn_code ?_
    refine t_seq ?_
    refine t_reg ?_
    refine to_mv rfl rfl ?_
    refine to_mv rfl rfl ?_
    refine to_as rfl rfl ?_
    refine to_as rfl rfl ?_
    refine to_nil ?_
    refine tn_code ?_
    refine t_ret2 rfl rfl (res_tmp rfl) (res_tmp rfl) (fun w' s => ?_)
    have h9 := plain_end hQq12
    rw [List.take_length, h9.1]
    exact ⟨Q12, _, _, rfl, ro_snap s hlo12, h9.2, hQz12⟩

end Go.Proofs


namespace Go.Proofs
open Go Go.Sx Go.RowKit

def RefR (tx : Bs) : Nat → World → Value → Prop := fun lo w1 v => ∃ (b : Bk) (a1 : Option Addr) (c1 : Nat), v = .tuple #[bkV b a1 c1, .bool (parseB tx).isSome] ∧ Ro w1 lo w1.heap.size a1 b.lines.length c1 10 (b.lines.map linC) ∧ (∀ b', parseB tx = some b' → b = b')
theorem refR_no {tx : Bs} {lo : Nat} {w1 : World} (h : parseB tx = none) : RefR tx lo w1 (.tuple #[bkV bk0 none 0, .bool false]) := ⟨bk0, none, 0, by rw [h]; rfl, Ro.nil _ _ _ _, fun b' hb => by rw [h] at hb; cases hb⟩
theorem ref_ne {tx : Bs} {b : Bk} {i : Nat} (hbk : bkK (splitL 10 tx) i = some b) (hi : (splitL 10 tx).length - 2 ≤ i) (h1 : 1 ≤ i) (hi2 : i ≤ (splitL 10 tx).length - 2 ∨ i = 1) (hne : ¬ textB b = tx) : parseB tx = none := by
  by_cases h3 : 3 ≤ (splitL 10 tx).length
  · have : i = (splitL 10 tx).length - 2 := by omega
    subst this
    exact parse_ne h3 hbk hne
  · exact parse_short (by omega)
theorem ref_eq {tx : Bs} {b : Bk} {i : Nat} (hbk : bkK (splitL 10 tx) i = some b) (hi : (splitL 10 tx).length - 2 ≤ i) (h1 : 1 ≤ i) (hi2 : i ≤ (splitL 10 tx).length - 2 ∨ i = 1) (hn : numsOk b) (he : textB b = tx) : parseB tx = some b := by
  have hs : splitL 10 tx = rowsB b ++ [endB (rowsB b), []] := by rw [← he]; exact seal_split (rows_no hn)
  have h3 : (splitL 10 tx).length = b.lines.length + 3 := by rw [hs]; simp [rowsB_len]
  have hl := (bkK_ok hbk).2
  have : i = (splitL 10 tx).length - 2 := by omega
  subst this
  exact parse_t (by omega) hbk he
theorem ref_step {tx : Bs} {b : Bk} {i : Nat} {r : Bs} (hbk : bkK (splitL 10 tx) i = some b) (hr : (splitL 10 tx)[i]? = some r) (hi : i < (splitL 10 tx).length - 2) (hn : stepB i r b = none) : parseB tx = none := parse_none (by omega) hbk hr hi hn
theorem ref_hd {tx : Bs} {r : Bs} (hr : (splitL 10 tx)[0]? = some r) (hn : stepB 0 r bk0 = none) : parseB tx = none := by
  by_cases h3 : 3 ≤ (splitL 10 tx).length
  · exact parse_none h3 rfl hr (by omega) hn
  · exact parse_short (by omega)
theorem rowN_def (r : Bs) : rowN r = numsB ((splitL 32 r).drop 1) := rfl

set_option maxRecDepth 20000 in
theorem ref_Read_n (tx : Bs) (w : World) (hls : tx.length ≤ 330) (r0 : Bs) (hr0 : (splitL 10 tx)[0]? = some r0) (hA : rowN r0 = none) : Calls Tryz.prog 36 #[strV tx] w (Ret w (RefR tx)) := by
  have hsl := splitL_len 10 tx
  have hx0 := map_get (f := strC) hr0
  have hrl0 := splitL_each 10 (List.mem_of_getElem? hr0)
  have hsl0 := splitL_len 32 r0
  refine calls_T (av := [_]) Tryz.func36 rfl rfl rfl ?_
  refine t_seq ?_
  refine t_reg ?_
  refine to_alloc rfl (fun b2 => ?_)
  refine to_as rfl rfl ?_
  refine to_nil ?_
  refine tn_code ?_
  refine t_seq ?_
  refine t_reg ?_
  refine to_mv rfl rfl ?_
  refine to_callR rfl rfl (fun w s => T_Split tx 10 w (by omega)) rfl (fun v12 lo12 w12 hlo12 hR12 => ?_)
  obtain ⟨pa12, pc12, rfl, hro12⟩ := hR12
  refine to_as rfl rfl ?_
  refine to_nil ?_
  refine tn_code ?_
  refine t_seq ?_
  refine t_reg ?_
  refine to_mv rfl rfl ?_
  first | refine to_ix rfl rfl rfl (by first | omega | decide) (by first | omega | decide) rfl ?_ | refine to_ixi rfl rfl rfl (by omega) (by omega) (by omega) rfl ?_
  first | refine to_lds rfl rfl rfl ?_ | refine to_ldes rfl (by assumption) rfl rfl ?_
  refine to_callR rfl rfl (fun w s => T_Split r0 32 w (by omega)) rfl (fun v17 lo17 w17 hlo17 hR17 => ?_)
  obtain ⟨pa17, pc17, rfl, hro17⟩ := hR17
  refine to_slL rfl rfl hsl0.1 rfl (fun a18 hS18 => ?_)
  refine to_callR rfl rfl (fun w s => (by have h9 := T_Plain ((splitL 32 r0).drop 1) a18 (pc17 - 1) w (by rw [List.length_drop]; have h8 := rdw s (a := a18); rw [← List.map_drop] at h8; exact h8) (by rw [List.length_drop]; omega) (fun wd hwd => by have := splitL_each 32 (List.mem_of_mem_drop hwd); omega); rw [List.length_drop] at h9; exact h9)) rfl (fun v19 lo19 w19 hlo19 hR19 => ?_)
  obtain ⟨Q19, pa19, pc19, rfl, hro19, hQp19, hQz19⟩ := hR19
  refine to_mv rfl rfl ?_
  refine to_ex rfl rfl rfl ?_
  refine to_ex rfl rfl rfl ?_
  refine to_as rfl rfl ?_
  refine to_as rfl rfl ?_
  refine to_nil ?_
  refine tn_code ?_
  refine t_seq ?_
  refine t_seq ?_
  refine t_reg ?_
  refine to_mv rfl rfl ?_
  refine to_not rfl rfl ?_
  refine to_fix (s := 23) (b' := true) rfl ((by rw [← rowN_def, hA]; rfl)) ?_
  refine to_mv rfl rfl ?_
  refine to_gf rfl rfl rfl rfl ?_
  refine to_gf rfl rfl rfl rfl ?_
  refine to_gf rfl rfl rfl rfl ?_
  refine to_pkT rfl rfl rfl ?_
  refine to_nil ?_
  refine tn_code ?_
  refine t_ifT rfl ?_
  refine t_seq ?_
  refine t_reg ?_
  refine to_bs rfl rfl ?_
  first | refine to_st rfl rfl rfl rfl ?_ | refine to_ste rfl rfl (by assumption) rfl rfl ?_
  refine to_as rfl rfl ?_
  refine to_nil ?_
  refine tn_code ?_
  refine t_ret2 rfl rfl (res_cellA rfl rfl) (res_tmp rfl) (fun w' s => ?_)
  exact refR_no (ref_hd hr0 (step_bad hA))

set_option maxRecDepth 20000 in
theorem ref_Read_l (tx : Bs) (w : World) (hls : tx.length ≤ 330) (r0 : Bs) (hr0 : (splitL 10 tx)[0]? = some r0) (ns : List Int) (hA : rowN r0 = some ns) (h6 : ¬ ns.length = 6) : Calls Tryz.prog 36 #[strV tx] w (Ret w (RefR tx)) := by
  have hsl := splitL_len 10 tx
  have hx0 := map_get (f := strC) hr0
  have hrl0 := splitL_each 10 (List.mem_of_getElem? hr0)
  have hsl0 := splitL_len 32 r0
  refine calls_T (av := [_]) Tryz.func36 rfl rfl rfl ?_
  refine t_seq ?_
  refine t_reg ?_
  refine to_alloc rfl (fun b2 => ?_)
  refine to_as rfl rfl ?_
  refine to_nil ?_
  refine tn_code ?_
  refine t_seq ?_
  refine t_reg ?_
  refine to_mv rfl rfl ?_
  refine to_callR rfl rfl (fun w s => T_Split tx 10 w (by omega)) rfl (fun v12 lo12 w12 hlo12 hR12 => ?_)
  obtain ⟨pa12, pc12, rfl, hro12⟩ := hR12
  refine to_as rfl rfl ?_
  refine to_nil ?_
  refine tn_code ?_
  refine t_seq ?_
  refine t_reg ?_
  refine to_mv rfl rfl ?_
  first | refine to_ix rfl rfl rfl (by first | omega | decide) (by first | omega | decide) rfl ?_ | refine to_ixi rfl rfl rfl (by omega) (by omega) (by omega) rfl ?_
  first | refine to_lds rfl rfl rfl ?_ | refine to_ldes rfl (by assumption) rfl rfl ?_
  refine to_callR rfl rfl (fun w s => T_Split r0 32 w (by omega)) rfl (fun v17 lo17 w17 hlo17 hR17 => ?_)
  obtain ⟨pa17, pc17, rfl, hro17⟩ := hR17
  refine to_slL rfl rfl hsl0.1 rfl (fun a18 hS18 => ?_)
  refine to_callR rfl rfl (fun w s => (by have h9 := T_Plain ((splitL 32 r0).drop 1) a18 (pc17 - 1) w (by rw [List.length_drop]; have h8 := rdw s (a := a18); rw [← List.map_drop] at h8; exact h8) (by rw [List.length_drop]; omega) (fun wd hwd => by have := splitL_each 32 (List.mem_of_mem_drop hwd); omega); rw [List.length_drop] at h9; exact h9)) rfl (fun v19 lo19 w19 hlo19 hR19 => ?_)
  obtain ⟨Q19, pa19, pc19, rfl, hro19, hQp19, hQz19⟩ := hR19
  refine to_mv rfl rfl ?_
  refine to_ex rfl rfl rfl ?_
  refine to_ex rfl rfl rfl ?_
  refine to_as rfl rfl ?_
  refine to_as rfl rfl ?_
  refine to_nil ?_
  refine tn_code ?_
  refine t_seq ?_
  refine t_seq ?_
  refine t_reg ?_
  refine to_mv rfl rfl ?_
  refine to_not rfl rfl ?_
  refine to_fix (s := 23) (b' := false) rfl ((by rw [← rowN_def, hA]; rfl)) ?_
  refine to_mv rfl rfl ?_
  refine to_gt rfl rfl ?_
  refine to_mv rfl rfl ?_
  refine to_gt rfl rfl ?_
  refine to_lenS rfl rfl ?_
  refine to_gt rfl rfl ?_
  refine to_neq rfl rfl rfl ?_
  refine to_fix (s := 27) (b' := true) rfl (decide_eq_true (by rw [hQp19 _ hA]; omega)) ?_
  refine to_pkF rfl rfl rfl ?_
  refine to_nil ?_
  refine tn_code ?_
  refine t_ifT rfl ?_
  refine t_seq ?_
  refine t_reg ?_
  refine to_bs rfl rfl ?_
  first | refine to_st rfl rfl rfl rfl ?_ | refine to_ste rfl rfl (by assumption) rfl rfl ?_
  refine to_as rfl rfl ?_
  refine to_nil ?_
  refine tn_code ?_
  refine t_ret2 rfl rfl (res_cellA rfl rfl) (res_tmp rfl) (fun w' s => ?_)
  exact refR_no (ref_hd hr0 (step_0f hA h6))

set_option maxRecDepth 20000 in
theorem ref_Read_t (tx : Bs) (w : World) (hls : tx.length ≤ 330) (r0 : Bs) (hr0 : (splitL 10 tx)[0]? = some r0) (n0 n1 n2 n3 n4 n5 : Int) (hA : rowN r0 = some [n0, n1, n2, n3, n4, n5]) : Calls Tryz.prog 36 #[strV tx] w (Ret w (RefR tx)) := by
  have hsl := splitL_len 10 tx
  have hx0 := map_get (f := strC) hr0
  have hrl0 := splitL_each 10 (List.mem_of_getElem? hr0)
  have hsl0 := splitL_len 32 r0
  refine calls_T (av := [_]) Tryz.func36 rfl rfl rfl ?_
  refine t_seq ?_
  refine t_reg ?_
  refine to_alloc rfl (fun b2 => ?_)
  refine to_as rfl rfl ?_
  refine to_nil ?_
  refine tn_code ?_
  refine t_seq ?_
  refine t_reg ?_
  refine to_mv rfl rfl ?_
  refine to_callR rfl rfl (fun w s => T_Split tx 10 w (by omega)) rfl (fun v12 lo12 w12 hlo12 hR12 => ?_)
  obtain ⟨pa12, pc12, rfl, hro12⟩ := hR12
  refine to_as rfl rfl ?_
  refine to_nil ?_
  refine tn_code ?_
  refine t_seq ?_
  refine t_reg ?_
  refine to_mv rfl rfl ?_
  first | refine to_ix rfl rfl rfl (by first | omega | decide) (by first | omega | decide) rfl ?_ | refine to_ixi rfl rfl rfl (by omega) (by omega) (by omega) rfl ?_
  first | refine to_lds rfl rfl rfl ?_ | refine to_ldes rfl (by assumption) rfl rfl ?_
  refine to_callR rfl rfl (fun w s => T_Split r0 32 w (by omega)) rfl (fun v17 lo17 w17 hlo17 hR17 => ?_)
  obtain ⟨pa17, pc17, rfl, hro17⟩ := hR17
  refine to_slL rfl rfl hsl0.1 rfl (fun a18 hS18 => ?_)
  refine to_callR rfl rfl (fun w s => (by have h9 := T_Plain ((splitL 32 r0).drop 1) a18 (pc17 - 1) w (by rw [List.length_drop]; have h8 := rdw s (a := a18); rw [← List.map_drop] at h8; exact h8) (by rw [List.length_drop]; omega) (fun wd hwd => by have := splitL_each 32 (List.mem_of_mem_drop hwd); omega); rw [List.length_drop] at h9; exact h9)) rfl (fun v19 lo19 w19 hlo19 hR19 => ?_)
  obtain ⟨Q19, pa19, pc19, rfl, hro19, hQp19, hQz19⟩ := hR19
  refine to_mv rfl rfl ?_
  refine to_ex rfl rfl rfl ?_
  refine to_ex rfl rfl rfl ?_
  refine to_as rfl rfl ?_
  refine to_as rfl rfl ?_
  refine to_nil ?_
  refine tn_code ?_
  refine t_seq ?_
  refine t_seq ?_
  refine t_reg ?_
  refine to_mv rfl rfl ?_
  refine to_not rfl rfl ?_
  refine to_fix (s := 23) (b' := false) rfl ((by rw [← rowN_def, hA]; rfl)) ?_
  refine to_mv rfl rfl ?_
  refine to_gt rfl rfl ?_
  refine to_mv rfl rfl ?_
  refine to_gt rfl rfl ?_
  refine to_lenS rfl rfl ?_
  refine to_gt rfl rfl ?_
  refine to_neq rfl rfl rfl ?_
  refine to_fix (s := 27) (b' := false) rfl (decide_eq_false (by rw [hQp19 _ hA]; simp)) ?_
  refine to_pkF rfl rfl rfl ?_
  refine to_nil ?_
  refine tn_code ?_
  refine t_ifF rfl ?_
  refine t_skip ?_
  refine tn_code ?_
  refine t_seq ?_
  have hQe := hQp19 _ hA
  subst hQe
  have hl6 : ([n0, n1, n2, n3, n4, n5] : List Int).length = 6 := rfl
  have hq0 : (ints [n0, n1, n2, n3, n4, n5])[0]? = some (intC n0) := rfl
  have hq1 : (ints [n0, n1, n2, n3, n4, n5])[1]? = some (intC n1) := rfl
  have hq2 : (ints [n0, n1, n2, n3, n4, n5])[2]? = some (intC n2) := rfl
  have hq3 : (ints [n0, n1, n2, n3, n4, n5])[3]? = some (intC n3) := rfl
  have hq4 : (ints [n0, n1, n2, n3, n4, n5])[4]? = some (intC n4) := rfl
  have hq5 : (ints [n0, n1, n2, n3, n4, n5])[5]? = some (intC n5) := rfl
  refine t_regM [19, 20] [.snap lo19 w19.heap.size w19] rfl (by kernel_rfl) (by kernel_rfl) ?_
  refine tm_q ?e1 rfl ?q1 ?r1
  case q1 =>
    refine to_mv rfl rfl ?_
    exact tmq_end
  refine tm_q ?e2 rfl ?q2 ?r2
  case q2 =>
    first | refine to_ix rfl rfl rfl (by first | omega | decide) (by first | omega | decide) rfl ?_ | refine to_ixi rfl rfl rfl (by omega) (by omega) (by omega) rfl ?_
    exact tmq_end
  refine tm_q ?e3 rfl ?q3 ?r3
  case q3 =>
    first | refine to_lds rfl rfl rfl ?_ | refine to_ldes rfl (by assumption) rfl rfl ?_
    exact tmq_end
  refine tm_q ?e4 rfl ?q4 ?r4
  case q4 =>
    refine to_mv rfl rfl ?_
    exact tmq_end
  refine tm_q ?e5 rfl ?q5 ?r5
  case q5 =>
    first | refine to_ix rfl rfl rfl (by first | omega | decide) (by first | omega | decide) rfl ?_ | refine to_ixi rfl rfl rfl (by omega) (by omega) (by omega) rfl ?_
    exact tmq_end
  refine tm_q ?e6 rfl ?q6 ?r6
  case q6 =>
    first | refine to_lds rfl rfl rfl ?_ | refine to_ldes rfl (by assumption) rfl rfl ?_
    exact tmq_end
  refine tm_q ?e7 rfl ?q7 ?r7
  case q7 =>
    refine to_mv rfl rfl ?_
    exact tmq_end
  refine tm_q ?e8 rfl ?q8 ?r8
  case q8 =>
    first | refine to_ix rfl rfl rfl (by first | omega | decide) (by first | omega | decide) rfl ?_ | refine to_ixi rfl rfl rfl (by omega) (by omega) (by omega) rfl ?_
    exact tmq_end
  refine tm_q ?e9 rfl ?q9 ?r9
  case q9 =>
    first | refine to_lds rfl rfl rfl ?_ | refine to_ldes rfl (by assumption) rfl rfl ?_
    exact tmq_end
  refine tm_q ?e10 rfl ?q10 ?r10
  case q10 =>
    refine to_mv rfl rfl ?_
    exact tmq_end
  refine tm_q ?e11 rfl ?q11 ?r11
  case q11 =>
    first | refine to_ix rfl rfl rfl (by first | omega | decide) (by first | omega | decide) rfl ?_ | refine to_ixi rfl rfl rfl (by omega) (by omega) (by omega) rfl ?_
    exact tmq_end
  refine tm_q ?e12 rfl ?q12 ?r12
  case q12 =>
    first | refine to_lds rfl rfl rfl ?_ | refine to_ldes rfl (by assumption) rfl rfl ?_
    exact tmq_end
  refine tm_q ?e13 rfl ?q13 ?r13
  case q13 =>
    refine to_mv rfl rfl ?_
    exact tmq_end
  refine tm_q ?e14 rfl ?q14 ?r14
  case q14 =>
    first | refine to_ix rfl rfl rfl (by first | omega | decide) (by first | omega | decide) rfl ?_ | refine to_ixi rfl rfl rfl (by omega) (by omega) (by omega) rfl ?_
    exact tmq_end
  refine tm_q ?e15 rfl ?q15 ?r15
  case q15 =>
    first | refine to_lds rfl rfl rfl ?_ | refine to_ldes rfl (by assumption) rfl rfl ?_
    exact tmq_end
  refine tm_q ?e16 rfl ?q16 ?r16
  case q16 =>
    refine to_mv rfl rfl ?_
    exact tmq_end
  refine tm_q ?e17 rfl ?q17 ?r17
  case q17 =>
    first | refine to_ix rfl rfl rfl (by first | omega | decide) (by first | omega | decide) rfl ?_ | refine to_ixi rfl rfl rfl (by omega) (by omega) (by omega) rfl ?_
    exact tmq_end
  refine tm_q ?e18 rfl ?q18 ?r18
  case q18 =>
    first | refine to_lds rfl rfl rfl ?_ | refine to_ldes rfl (by assumption) rfl rfl ?_
    exact tmq_end
  refine tm_q ?e19 rfl ?q19 ?r19
  case q19 =>
    refine to_bs rfl rfl ?_
    exact tmq_end
  refine tm_s rfl ?_ (fun _ h => by cases h) rfl
  refine to_alloc rfl (fun b7 => ?_)
  refine tm_se rfl ?_
  refine tm_s rfl ?_ (fun _ h => by cases h) rfl
  first | refine to_st rfl rfl rfl rfl ?_ | refine to_ste rfl rfl (by assumption) rfl rfl ?_
  refine tm_se rfl ?_
  refine tm_nil ?_
  refine tn_code ?_
  refine t_seq ?_
  refine t_seq ?_
  refine t_reg ?_
  refine to_as rfl rfl ?_
  refine to_nil ?_
  refine tn_code ?_
  refine t_blk ?_
  refine t_nilrow 52 10 ?_
  refine t_loop2 (ι := Nat × Bk × Option Addr × Nat) (fun ((i, b, a', c') : Nat × Bk × Option Addr × Nat) => 1 ≤ i ∧ (i ≤ (splitL 10 tx).length - 2 ∨ i = 1) ∧ bkK (splitL 10 tx) i = some b) (fun ((i, b, a', c') : Nat × Bk × Option Addr × Nat) => [(0, strV tx), (2, (.pointer (some ⟨b2, 0, none⟩))), (4, .slice pa12 (splitL 10 tx).length pc12), (7, (.pointer (some ⟨b7, 0, none⟩))), (8, (.int .i64 (i : Int)))]) (fun ((i, b, a', c') : Nat × Bk × Option Addr × Nat) => [.own b7 (isC (bkC b a' c') 24), .row a' b.lines.length c' 52 10 (b.lines.map linC), .snap lo12 w12.heap.size w12, .own b2 (isC [.int .i64 0, .int .i64 0, .int .i64 0, .int .i64 0, .int .i64 0, .int .i64 0, .slice none 0 0] 24), .snap 0 w.heap.size w]) (fun ((i, b, a', c') : Nat × Bk × Option Addr × Nat) => (splitL 10 tx).length - 2 - i) ((1, ⟨n0, n1, n2, n3, n4, n5, []⟩, none, 0)) [.own b7 (isC [.int .i64 n0, .int .i64 n1, .int .i64 n2, .int .i64 n3, .int .i64 n4, .int .i64 n5, .slice none 0 0] 24), .row none 0 0 52 10 [], .snap lo12 w12.heap.size w12, .own b2 (isC [.int .i64 0, .int .i64 0, .int .i64 0, .int .i64 0, .int .i64 0, .int .i64 0, .slice none 0 0] 24), .snap 0 w.heap.size w] (rfl) (⟨Nat.le_refl _, .inr rfl, by rw [bkK_succ (b := bk0) rfl hr0]; exact step_0t hA rfl⟩) (⟨rfl, rfl, rfl, rfl, rfl, trivial⟩) ?_
  rintro ⟨i, b, a', c'⟩ ⟨hi1, hi2, hbk⟩
  try dsimp only at hk
  show T _ _ _ ⟨_, [(0, strV tx), (2, (.pointer (some ⟨b2, 0, none⟩))), (4, .slice pa12 (splitL 10 tx).length pc12), (7, (.pointer (some ⟨b7, 0, none⟩))), (8, (.int .i64 (i : Int)))], _⟩ [.own b7 (isC (bkC b a' c') 24), .row a' b.lines.length c' 52 10 (b.lines.map linC), .snap lo12 w12.heap.size w12, .own b2 (isC [.int .i64 0, .int .i64 0, .int .i64 0, .int .i64 0, .int .i64 0, .int .i64 0, .slice none 0 0] 24), .snap 0 w.heap.size w]
  refine t_seq ?_
  refine t_seq ?_
  refine t_reg ?_
  refine to_mv rfl rfl ?_
  refine to_mv rfl rfl ?_
  refine to_lenS rfl rfl ?_
  refine to_sub rfl rfl (by omega) rfl ?_
  refine to_lss rfl rfl rfl ?_
  refine to_nil ?_
  refine tn_code ?_
  refine t_if rfl (fun h1 => ?_) (fun h1 => ?_)
  · try simp only [decide_eq_true_eq, decide_eq_false_iff_not, Bool.not_eq_true', Bool.not_eq_false', Int.not_lt, Int.not_le, ne_eq, Decidable.not_not] at h1
    try have h1b := inB_iff.1 h1
    obtain ⟨r, hr⟩ := some_get (xs := splitL 10 tx) (k := i) (by omega)
    have hx := map_get (f := strC) hr
    have hrl := splitL_each 10 (List.mem_of_getElem? hr)
    have hsl2 := splitL_len 32 r
    have hil : i < (splitL 10 tx).length - 2 := by omega
    have hi0 : ¬ i = 0 := by omega
    have hok0 := (bkK_ok hbk).2
    refine t_skip ?_
    refine tn_code ?_
    refine t_seq ?_
    refine t_blk ?_
    refine t_seq ?_
    refine t_reg ?_
    refine to_mv rfl rfl ?_
    refine to_mv rfl rfl ?_
    first | refine to_ix rfl rfl rfl (by first | omega | decide) (by first | omega | decide) rfl ?_ | refine to_ixi rfl rfl rfl (by omega) (by omega) (by omega) rfl ?_
    first | refine to_lds rfl rfl rfl ?_ | refine to_ldes rfl (by assumption) rfl rfl ?_
    refine to_callR rfl rfl (fun w s => T_Split r 32 w (by omega)) rfl (fun v61 lo61 w61 hlo61 hR61 => ?_)
    obtain ⟨pa61, pc61, rfl, hro61⟩ := hR61
    refine to_slL rfl rfl hsl2.1 rfl (fun a62 hS62 => ?_)
    refine to_callR rfl rfl (fun w s => (by have h9 := T_Plain ((splitL 32 r).drop 1) a62 (pc61 - 1) w (by rw [List.length_drop]; have h8 := rdw s (a := a62); rw [← List.map_drop] at h8; exact h8) (by rw [List.length_drop]; omega) (fun wd hwd => by have := splitL_each 32 (List.mem_of_mem_drop hwd); omega); rw [List.length_drop] at h9; exact h9)) rfl (fun v63 lo63 w63 hlo63 hR63 => ?_)
    obtain ⟨Q63, pa63, pc63, rfl, hro63, hQp63, hQz63⟩ := hR63
    refine to_mv rfl rfl ?_
    refine to_ex rfl rfl rfl ?_
    refine to_ex rfl rfl rfl ?_
    refine to_as rfl rfl ?_
    refine to_as rfl rfl ?_
    refine to_nil ?_
    refine tn_code ?_
    refine t_seq ?_
    refine t_seq ?_
    refine t_reg ?_
    refine to_mv rfl rfl ?_
    refine to_not rfl rfl ?_
    refine to_mv rfl rfl ?_
    refine to_gs rfl rfl rfl (fun h2 => ?_) (fun h2 => ?_)
    · try simp only [decide_eq_true_eq, decide_eq_false_iff_not, Bool.not_eq_true', Bool.not_eq_false', Int.not_lt, Int.not_le, ne_eq, Decidable.not_not] at h2
      try have h2b := inB_iff.1 h2
      have hnn : rowN r = none := by have h9 := h2; rw [← rowN_def] at h9; cases hq : rowN r with
        | none => rfl
        | some q => rw [hq] at h9; cases h9
      refine to_gf rfl rfl rfl rfl ?_
      refine to_gf rfl rfl rfl rfl ?_
      refine to_gf rfl rfl rfl rfl ?_
      refine to_pkT rfl rfl rfl ?_
      refine to_nil ?_
      refine tn_code ?_
      refine t_ifT rfl ?_
      refine t_seq ?_
      refine t_reg ?_
      refine to_bs rfl rfl ?_
      first | refine to_st rfl rfl rfl rfl ?_ | refine to_ste rfl rfl (by assumption) rfl rfl ?_
      refine to_as rfl rfl ?_
      refine to_nil ?_
      refine tn_code ?_
      refine t_ret2 rfl rfl (res_cellA rfl rfl) (res_tmp rfl) (fun w' s => ?_)
      first | exact refR_no (ref_step hbk hr hil (step_bad hnn)) | exact refR_no (ref_step hbk hr hil (step_f hns hi0 hln)) | exact refR_no (ref_ne hbk (by omega) hi1 hi2 hne) | (have hpe := ref_eq hbk (by omega) hi1 hi2 hno hne; exact ⟨b, a', c', by rw [hpe]; rfl, ro_row s, fun b' h => by rw [hpe] at h; exact Option.some.inj h⟩)
    · try simp only [decide_eq_true_eq, decide_eq_false_iff_not, Bool.not_eq_true', Bool.not_eq_false', Int.not_lt, Int.not_le, ne_eq, Decidable.not_not] at h2
      try have h2b := inB_iff.1 h2
      have hnz : ∃ q, rowN r = some q := by have h9 := h2; rw [← rowN_def] at h9; exact Option.isSome_iff_exists.1 h9
      obtain ⟨q, hns⟩ := hnz
      have hQe := hQp63 _ hns
      subst hQe
      refine to_gt rfl rfl ?_
      refine to_mv rfl rfl ?_
      refine to_gt rfl rfl ?_
      refine to_lenS rfl rfl ?_
      refine to_gt rfl rfl ?_
      refine to_neq rfl rfl rfl ?_
      refine to_pkF rfl rfl rfl ?_
      refine to_nil ?_
      refine tn_code ?_
      refine t_if rfl (fun h3 => ?_) (fun h3 => ?_)
      · try simp only [decide_eq_true_eq, decide_eq_false_iff_not, Bool.not_eq_true', Bool.not_eq_false', Int.not_lt, Int.not_le, ne_eq, Decidable.not_not] at h3
        try have h3b := inB_iff.1 h3
        have hln : ¬ Q63.length = 10 := by have h9 := h3; omega
        refine t_seq ?_
        refine t_reg ?_
        refine to_bs rfl rfl ?_
        first | refine to_st rfl rfl rfl rfl ?_ | refine to_ste rfl rfl (by assumption) rfl rfl ?_
        refine to_as rfl rfl ?_
        refine to_nil ?_
        refine tn_code ?_
        refine t_ret2 rfl rfl (res_cellA rfl rfl) (res_tmp rfl) (fun w' s => ?_)
        first | exact refR_no (ref_step hbk hr hil (step_bad hnn)) | exact refR_no (ref_step hbk hr hil (step_f hns hi0 hln)) | exact refR_no (ref_ne hbk (by omega) hi1 hi2 hne) | (have hpe := ref_eq hbk (by omega) hi1 hi2 hno hne; exact ⟨b, a', c', by rw [hpe]; rfl, ro_row s, fun b' h => by rw [hpe] at h; exact Option.some.inj h⟩)
      · try simp only [decide_eq_true_eq, decide_eq_false_iff_not, Bool.not_eq_true', Bool.not_eq_false', Int.not_lt, Int.not_le, ne_eq, Decidable.not_not] at h3
        try have h3b := inB_iff.1 h3
        have hln : Q63.length = 10 := by have h9 := h3; omega
        obtain ⟨m0, m1, m2, m3, m4, m5, m6, m7, m8, m9, rfl⟩ := len10 hln
        refine t_skip ?_
        refine tn_code ?_
        have hl10 : ([m0, m1, m2, m3, m4, m5, m6, m7, m8, m9] : List Int).length = 10 := rfl
        have hu0 : (ints [m0, m1, m2, m3, m4, m5, m6, m7, m8, m9])[0]? = some (intC m0) := rfl
        have hu1 : (ints [m0, m1, m2, m3, m4, m5, m6, m7, m8, m9])[1]? = some (intC m1) := rfl
        have hu2 : (ints [m0, m1, m2, m3, m4, m5, m6, m7, m8, m9])[2]? = some (intC m2) := rfl
        have hu3 : (ints [m0, m1, m2, m3, m4, m5, m6, m7, m8, m9])[3]? = some (intC m3) := rfl
        have hu4 : (ints [m0, m1, m2, m3, m4, m5, m6, m7, m8, m9])[4]? = some (intC m4) := rfl
        have hu5 : (ints [m0, m1, m2, m3, m4, m5, m6, m7, m8, m9])[5]? = some (intC m5) := rfl
        have hu6 : (ints [m0, m1, m2, m3, m4, m5, m6, m7, m8, m9])[6]? = some (intC m6) := rfl
        have hu7 : (ints [m0, m1, m2, m3, m4, m5, m6, m7, m8, m9])[7]? = some (intC m7) := rfl
        have hu8 : (ints [m0, m1, m2, m3, m4, m5, m6, m7, m8, m9])[8]? = some (intC m8) := rfl
        have hu9 : (ints [m0, m1, m2, m3, m4, m5, m6, m7, m8, m9])[9]? = some (intC m9) := rfl
        refine t_regP [35, 36, 38] [0, 1, 2, 3, 4, 5, 6, 7, 8, 9, 10, 11, 12, 13, 14, 15, 16, 17, 18, 19, 20, 21, 22, 23, 24, 25, 26, 27, 28, 29, 30, 31, 32, 33, 34, 35, 36, 37, 38] [.own b7 (isC (bkC b a' c') 24), .snap lo63 w63.heap.size w63] rfl (by kernel_rfl) (by kernel_rfl) ?_
        refine tp_q ?e20 rfl ?q20 ?r20
        case q20 =>
          first | refine to_fa rfl rfl rfl (by simp only [Nat.reduceAdd]; rfl) rfl ?_ | refine to_fae rfl rfl rfl (by simp only [Nat.reduceAdd]; rfl) rfl ?_
          exact tpq_end
        refine tp_q ?e21 rfl ?q21 ?r21
        case q21 =>
          first | refine to_lds rfl rfl rfl ?_ | refine to_ldes rfl (by assumption) rfl rfl ?_
          exact tpq_end
        refine tp_q ?e22 rfl ?q22 ?r22
        case q22 =>
          refine to_mv rfl rfl ?_
          exact tpq_end
        refine tp_q ?e23 rfl ?q23 ?r23
        case q23 =>
          first | refine to_ix rfl rfl rfl (by first | omega | decide) (by first | omega | decide) rfl ?_ | refine to_ixi rfl rfl rfl (by omega) (by omega) (by omega) rfl ?_
          exact tpq_end
        refine tp_q ?e24 rfl ?q24 ?r24
        case q24 =>
          first | refine to_lds rfl rfl rfl ?_ | refine to_ldes rfl (by assumption) rfl rfl ?_
          exact tpq_end
        refine tp_q ?e25 rfl ?q25 ?r25
        case q25 =>
          refine to_mv rfl rfl ?_
          exact tpq_end
        refine tp_q ?e26 rfl ?q26 ?r26
        case q26 =>
          first | refine to_ix rfl rfl rfl (by first | omega | decide) (by first | omega | decide) rfl ?_ | refine to_ixi rfl rfl rfl (by omega) (by omega) (by omega) rfl ?_
          exact tpq_end
        refine tp_q ?e27 rfl ?q27 ?r27
        case q27 =>
          first | refine to_lds rfl rfl rfl ?_ | refine to_ldes rfl (by assumption) rfl rfl ?_
          exact tpq_end
        refine tp_q ?e28 rfl ?q28 ?r28
        case q28 =>
          refine to_mv rfl rfl ?_
          exact tpq_end
        refine tp_q ?e29 rfl ?q29 ?r29
        case q29 =>
          first | refine to_ix rfl rfl rfl (by first | omega | decide) (by first | omega | decide) rfl ?_ | refine to_ixi rfl rfl rfl (by omega) (by omega) (by omega) rfl ?_
          exact tpq_end
        refine tp_q ?e30 rfl ?q30 ?r30
        case q30 =>
          first | refine to_lds rfl rfl rfl ?_ | refine to_ldes rfl (by assumption) rfl rfl ?_
          exact tpq_end
        refine tp_q ?e31 rfl ?q31 ?r31
        case q31 =>
          refine to_mv rfl rfl ?_
          exact tpq_end
        refine tp_q ?e32 rfl ?q32 ?r32
        case q32 =>
          first | refine to_ix rfl rfl rfl (by first | omega | decide) (by first | omega | decide) rfl ?_ | refine to_ixi rfl rfl rfl (by omega) (by omega) (by omega) rfl ?_
          exact tpq_end
        refine tp_q ?e33 rfl ?q33 ?r33
        case q33 =>
          first | refine to_lds rfl rfl rfl ?_ | refine to_ldes rfl (by assumption) rfl rfl ?_
          exact tpq_end
        refine tp_q ?e34 rfl ?q34 ?r34
        case q34 =>
          refine to_bs rfl rfl ?_
          exact tpq_end
        refine tp_q ?e35 rfl ?q35 ?r35
        case q35 =>
          refine to_mv rfl rfl ?_
          exact tpq_end
        refine tp_q ?e36 rfl ?q36 ?r36
        case q36 =>
          first | refine to_ix rfl rfl rfl (by first | omega | decide) (by first | omega | decide) rfl ?_ | refine to_ixi rfl rfl rfl (by omega) (by omega) (by omega) rfl ?_
          exact tpq_end
        refine tp_q ?e37 rfl ?q37 ?r37
        case q37 =>
          first | refine to_lds rfl rfl rfl ?_ | refine to_ldes rfl (by assumption) rfl rfl ?_
          exact tpq_end
        refine tp_q ?e38 rfl ?q38 ?r38
        case q38 =>
          refine to_mv rfl rfl ?_
          exact tpq_end
        refine tp_q ?e39 rfl ?q39 ?r39
        case q39 =>
          first | refine to_ix rfl rfl rfl (by first | omega | decide) (by first | omega | decide) rfl ?_ | refine to_ixi rfl rfl rfl (by omega) (by omega) (by omega) rfl ?_
          exact tpq_end
        refine tp_q ?e40 rfl ?q40 ?r40
        case q40 =>
          first | refine to_lds rfl rfl rfl ?_ | refine to_ldes rfl (by assumption) rfl rfl ?_
          exact tpq_end
        refine tp_q ?e41 rfl ?q41 ?r41
        case q41 =>
          refine to_mv rfl rfl ?_
          exact tpq_end
        refine tp_q ?e42 rfl ?q42 ?r42
        case q42 =>
          first | refine to_ix rfl rfl rfl (by first | omega | decide) (by first | omega | decide) rfl ?_ | refine to_ixi rfl rfl rfl (by omega) (by omega) (by omega) rfl ?_
          exact tpq_end
        refine tp_q ?e43 rfl ?q43 ?r43
        case q43 =>
          first | refine to_lds rfl rfl rfl ?_ | refine to_ldes rfl (by assumption) rfl rfl ?_
          exact tpq_end
        refine tp_q ?e44 rfl ?q44 ?r44
        case q44 =>
          refine to_mv rfl rfl ?_
          exact tpq_end
        refine tp_q ?e45 rfl ?q45 ?r45
        case q45 =>
          first | refine to_ix rfl rfl rfl (by first | omega | decide) (by first | omega | decide) rfl ?_ | refine to_ixi rfl rfl rfl (by omega) (by omega) (by omega) rfl ?_
          exact tpq_end
        refine tp_q ?e46 rfl ?q46 ?r46
        case q46 =>
          first | refine to_lds rfl rfl rfl ?_ | refine to_ldes rfl (by assumption) rfl rfl ?_
          exact tpq_end
        refine tp_q ?e47 rfl ?q47 ?r47
        case q47 =>
          refine to_mv rfl rfl ?_
          exact tpq_end
        refine tp_q ?e48 rfl ?q48 ?r48
        case q48 =>
          first | refine to_ix rfl rfl rfl (by first | omega | decide) (by first | omega | decide) rfl ?_ | refine to_ixi rfl rfl rfl (by omega) (by omega) (by omega) rfl ?_
          exact tpq_end
        refine tp_q ?e49 rfl ?q49 ?r49
        case q49 =>
          first | refine to_lds rfl rfl rfl ?_ | refine to_ldes rfl (by assumption) rfl rfl ?_
          exact tpq_end
        refine tp_q ?e50 rfl ?q50 ?r50
        case q50 =>
          refine to_mv rfl rfl ?_
          exact tpq_end
        refine tp_q ?e51 rfl ?q51 ?r51
        case q51 =>
          first | refine to_ix rfl rfl rfl (by first | omega | decide) (by first | omega | decide) rfl ?_ | refine to_ixi rfl rfl rfl (by omega) (by omega) (by omega) rfl ?_
          exact tpq_end
        refine tp_q ?e52 rfl ?q52 ?r52
        case q52 =>
          first | refine to_lds rfl rfl rfl ?_ | refine to_ldes rfl (by assumption) rfl rfl ?_
          exact tpq_end
        refine tp_q ?e53 rfl ?q53 ?r53
        case q53 =>
          refine to_bs rfl rfl ?_
          exact tpq_end
        refine tp_q ?e54 rfl ?q54 ?r54
        case q54 =>
          refine to_bs rfl rfl ?_
          exact tpq_end
        refine tp_s rfl ?_ (fun _ h => by cases h) rfl
        refine to_bsl rfl rfl rfl rfl (fun a109 => ?_)
        refine tp_se rfl ?_
        refine tp_s rfl ?_ (fun _ h => by cases h) rfl
        refine to_app rfl rfl rfl (by simp [scals, scal]) (by decide) (by omega) (by decide) rfl (fun a110 c110 => ?_)
        refine tp_se rfl ?_
        refine tp_q ?e55 rfl ?q55 ?r55
        case q55 =>
          first | refine to_fa rfl rfl rfl (by simp only [Nat.reduceAdd]; rfl) rfl ?_ | refine to_fae rfl rfl rfl (by simp only [Nat.reduceAdd]; rfl) rfl ?_
          exact tpq_end
        refine tp_s rfl ?_ (fun _ h => by cases h) rfl
        first | refine to_st rfl rfl rfl rfl ?_ | refine to_ste rfl rfl (by assumption) rfl rfl ?_
        refine tp_sl (by kernel_rfl) rfl rfl ?_
        refine tn_blk ?_
        refine tn_code ?_
        refine t_reg ?_
        refine to_mv rfl rfl ?_
        refine to_add rfl rfl (by omega) rfl ?_
        refine to_as rfl rfl ?_
        refine to_nil ?_
        exact tn_loop2 ((i + 1, { b with lines := b.lines ++ [⟨m0, m1, m2, m3, m4, m5, ⟨m6, m7, m8, m9⟩⟩] }, a110, c110)) [.own b7 (isC [.int .i64 b.hands, .int .i64 b.unit, .int .i64 b.sheet, .int .i64 b.error, .int .i64 b.morning, .int .i64 b.post, .slice a110 (b.lines.length + 1) c110] 24), .row a110 (b.lines.length + 1) c110 52 10 (b.lines.map linC ++ [linC ⟨m0, m1, m2, m3, m4, m5, ⟨m6, m7, m8, m9⟩⟩]), .snap lo12 w12.heap.size w12, .own b2 (isC [.int .i64 0, .int .i64 0, .int .i64 0, .int .i64 0, .int .i64 0, .int .i64 0, .slice none 0 0] 24), .snap 0 w.heap.size w] (by simp only [bkC, List.length_append, List.length_singleton, List.map_append, List.map_cons, List.map_nil]) (⟨by omega, .inl (by omega), by (try dsimp only); rw [bkK_succ hbk hr]; exact step_t hns hi0 rfl⟩) (by dsimp only; omega) (⟨rfl, rfl, rfl, rfl, rfl, trivial⟩)
  · try simp only [decide_eq_true_eq, decide_eq_false_iff_not, Bool.not_eq_true', Bool.not_eq_false', Int.not_lt, Int.not_le, ne_eq, Decidable.not_not] at h1
    try have h1b := inB_iff.1 h1
    have hok := bkK_ok hbk
    have hno : numsOk b := ⟨hok.1.1, hok.1.2, by omega⟩
    refine t_exit ?_
    refine tx_code ?_
    refine tx_inv ?_
    refine tx_blk ?_
    refine tn_code ?_
    refine t_seq ?_
    refine t_seq ?_
    refine t_reg ?_
    first | refine to_lda rfl rfl rfl ?_ | refine to_ldea rfl (by assumption) rfl rfl ?_
    refine to_call0 rfl rfl (fun w s => ref_Print b a' c' w (rdw s) hno) rfl ?_
    refine to_mv rfl rfl ?_
    refine to_sne rfl rfl rfl ?_
    refine to_nil ?_
    refine tn_code ?_
    refine t_if rfl (fun h4 => ?_) (fun h4 => ?_)
    · try simp only [decide_eq_true_eq, decide_eq_false_iff_not, Bool.not_eq_true', Bool.not_eq_false', Int.not_lt, Int.not_le, ne_eq, Decidable.not_not] at h4
      try have h4b := inB_iff.1 h4
      have hne := h4
      refine t_seq ?_
      refine t_reg ?_
      refine to_bs rfl rfl ?_
      first | refine to_st rfl rfl rfl rfl ?_ | refine to_ste rfl rfl (by assumption) rfl rfl ?_
      refine to_as rfl rfl ?_
      refine to_nil ?_
      refine tn_code ?_
      refine t_ret2 rfl rfl (res_cellA rfl rfl) (res_tmp rfl) (fun w' s => ?_)
      first | exact refR_no (ref_step hbk hr hil (step_bad hnn)) | exact refR_no (ref_step hbk hr hil (step_f hns hi0 hln)) | exact refR_no (ref_ne hbk (by omega) hi1 hi2 hne) | (have hpe := ref_eq hbk (by omega) hi1 hi2 hno hne; exact ⟨b, a', c', by rw [hpe]; rfl, ro_row s, fun b' h => by rw [hpe] at h; exact Option.some.inj h⟩)
    · try simp only [decide_eq_true_eq, decide_eq_false_iff_not, Bool.not_eq_true', Bool.not_eq_false', Int.not_lt, Int.not_le, ne_eq, Decidable.not_not] at h4
      try have h4b := inB_iff.1 h4
      have hne := h4
      refine t_skip ?_
      refine tn_code ?_
      refine t_seq ?_
      refine t_reg ?_
      first | refine to_lda rfl rfl rfl ?_ | refine to_ldea rfl (by assumption) rfl rfl ?_
      first | refine to_st rfl rfl rfl rfl ?_ | refine to_ste rfl rfl (by assumption) rfl rfl ?_
      refine to_as rfl rfl ?_
      refine to_nil ?_
      refine tn_code ?_
      refine t_ret2 rfl rfl (res_cellA rfl rfl) (res_tmp rfl) (fun w' s => ?_)
      first | exact refR_no (ref_step hbk hr hil (step_bad hnn)) | exact refR_no (ref_step hbk hr hil (step_f hns hi0 hln)) | exact refR_no (ref_ne hbk (by omega) hi1 hi2 hne) | (have hpe := ref_eq hbk (by omega) hi1 hi2 hno hne; exact ⟨b, a', c', by rw [hpe]; rfl, ro_row s, fun b' h => by rw [hpe] at h; exact Option.some.inj h⟩)

end Go.Proofs


namespace Go.Proofs
open Go Go.Sx Go.RowKit

theorem parse_txt {tx : Bs} {b : Bk} (h : parseB tx = some b) : textB b = tx := by
  simp only [parseB] at h
  split at h
  · split at h
    · cases h
    · split at h
      · rename_i he; cases h; exact he
      · cases h
  · cases h
theorem c_readq {tx : Bs} {b : Bk} {e : Int} {w : World} (hq : payRead tx = (b, e)) (hg : Gl w) : Calls Tryz.prog 33 #[strV tx] w (Ret w (RBk b e)) := by
  have := pay_Read tx w hg
  rw [hq] at this; exact this
theorem ref_Read (tx : Bs) (w : World) (hls : tx.length ≤ 330) : Calls Tryz.prog 36 #[strV tx] w (Ret w (RefR tx)) := by
  obtain ⟨r0, hr0⟩ := some_get (xs := splitL 10 tx) (k := 0) (by have := (splitL_len 10 tx).1; omega)
  cases hA : rowN r0 with
  | none => exact ref_Read_n tx w hls r0 hr0 hA
  | some ns =>
    by_cases h6 : ns.length = 6
    · obtain ⟨n0, n1, n2, n3, n4, n5, rfl⟩ := len6 h6
      exact ref_Read_t tx w hls r0 hr0 n0 n1 n2 n3 n4 n5 hA
    · exact ref_Read_l tx w hls r0 hr0 ns hA h6

set_option maxRecDepth 20000 in
theorem ref_SameBk (b : Bk) (a : Option Addr) (c : Nat) (a2 : Option Addr) (c2 : Nat) (w : World) (hr : Ro w 0 w.heap.size a b.lines.length c 10 (b.lines.map linC)) (hr2 : Ro w 0 w.heap.size a2 b.lines.length c2 10 (b.lines.map linC)) (hn : b.lines.length ≤ 1000) : Calls Tryz.prog 35 #[bkV b a c, bkV b a2 c2] w (RetV w (.bool true)) := by
  refine calls_T0 (av := [_, _]) Tryz.func35 rfl rfl rfl ?_
  refine t_seq ?_
  refine t_reg ?_
  refine to_box rfl rfl (fun b2 => ?_)
  refine to_box rfl rfl (fun b3 => ?_)
  refine to_as rfl rfl ?_
  refine to_nil ?_
  refine tn_code ?_
  refine t_seq ?_
  refine t_seq ?_
  refine t_reg ?_
  first | refine to_fa rfl rfl rfl (by simp only [Nat.reduceAdd]; rfl) rfl ?_ | refine to_fae rfl rfl rfl (by simp only [Nat.reduceAdd]; rfl) rfl ?_
  first | refine to_lds rfl rfl rfl ?_ | refine to_ldes rfl (by assumption) rfl rfl ?_
  first | refine to_fa rfl rfl rfl (by simp only [Nat.reduceAdd]; rfl) rfl ?_ | refine to_fae rfl rfl rfl (by simp only [Nat.reduceAdd]; rfl) rfl ?_
  first | refine to_lds rfl rfl rfl ?_ | refine to_ldes rfl (by assumption) rfl rfl ?_
  refine to_neq rfl rfl rfl ?_
  refine to_fix (s := 10) (b' := false) rfl (by simp) ?_
  refine to_mv rfl rfl ?_
  refine to_gt rfl rfl ?_
  first | refine to_fa rfl rfl rfl (by simp only [Nat.reduceAdd]; rfl) rfl ?_ | refine to_fae rfl rfl rfl (by simp only [Nat.reduceAdd]; rfl) rfl ?_
  refine to_gt rfl rfl ?_
  first | refine to_lds rfl rfl rfl ?_ | refine to_ldes rfl (by assumption) rfl rfl ?_
  refine to_gt rfl rfl ?_
  first | refine to_fa rfl rfl rfl (by simp only [Nat.reduceAdd]; rfl) rfl ?_ | refine to_fae rfl rfl rfl (by simp only [Nat.reduceAdd]; rfl) rfl ?_
  refine to_gt rfl rfl ?_
  first | refine to_lds rfl rfl rfl ?_ | refine to_ldes rfl (by assumption) rfl rfl ?_
  refine to_gt rfl rfl ?_
  refine to_neq rfl rfl rfl ?_
  refine to_fix (s := 16) (b' := false) rfl (by simp) ?_
  refine to_pkF rfl rfl rfl ?_
  refine to_mv rfl rfl ?_
  refine to_gt rfl rfl ?_
  first | refine to_fa rfl rfl rfl (by simp only [Nat.reduceAdd]; rfl) rfl ?_ | refine to_fae rfl rfl rfl (by simp only [Nat.reduceAdd]; rfl) rfl ?_
  refine to_gt rfl rfl ?_
  first | refine to_lds rfl rfl rfl ?_ | refine to_ldes rfl (by assumption) rfl rfl ?_
  refine to_gt rfl rfl ?_
  first | refine to_fa rfl rfl rfl (by simp only [Nat.reduceAdd]; rfl) rfl ?_ | refine to_fae rfl rfl rfl (by simp only [Nat.reduceAdd]; rfl) rfl ?_
  refine to_gt rfl rfl ?_
  first | refine to_lds rfl rfl rfl ?_ | refine to_ldes rfl (by assumption) rfl rfl ?_
  refine to_gt rfl rfl ?_
  refine to_neq rfl rfl rfl ?_
  refine to_fix (s := 23) (b' := false) rfl (by simp) ?_
  refine to_pkF rfl rfl rfl ?_
  refine to_mv rfl rfl ?_
  refine to_gt rfl rfl ?_
  first | refine to_fa rfl rfl rfl (by simp only [Nat.reduceAdd]; rfl) rfl ?_ | refine to_fae rfl rfl rfl (by simp only [Nat.reduceAdd]; rfl) rfl ?_
  refine to_gt rfl rfl ?_
  first | refine to_lds rfl rfl rfl ?_ | refine to_ldes rfl (by assumption) rfl rfl ?_
  refine to_gt rfl rfl ?_
  first | refine to_fa rfl rfl rfl (by simp only [Nat.reduceAdd]; rfl) rfl ?_ | refine to_fae rfl rfl rfl (by simp only [Nat.reduceAdd]; rfl) rfl ?_
  refine to_gt rfl rfl ?_
  first | refine to_lds rfl rfl rfl ?_ | refine to_ldes rfl (by assumption) rfl rfl ?_
  refine to_gt rfl rfl ?_
  refine to_neq rfl rfl rfl ?_
  refine to_fix (s := 30) (b' := false) rfl (by simp) ?_
  refine to_pkF rfl rfl rfl ?_
  refine to_mv rfl rfl ?_
  refine to_gt rfl rfl ?_
  first | refine to_fa rfl rfl rfl (by simp only [Nat.reduceAdd]; rfl) rfl ?_ | refine to_fae rfl rfl rfl (by simp only [Nat.reduceAdd]; rfl) rfl ?_
  refine to_gt rfl rfl ?_
  first | refine to_lds rfl rfl rfl ?_ | refine to_ldes rfl (by assumption) rfl rfl ?_
  refine to_gt rfl rfl ?_
  first | refine to_fa rfl rfl rfl (by simp only [Nat.reduceAdd]; rfl) rfl ?_ | refine to_fae rfl rfl rfl (by simp only [Nat.reduceAdd]; rfl) rfl ?_
  refine to_gt rfl rfl ?_
  first | refine to_lds rfl rfl rfl ?_ | refine to_ldes rfl (by assumption) rfl rfl ?_
  refine to_gt rfl rfl ?_
  refine to_neq rfl rfl rfl ?_
  refine to_fix (s := 37) (b' := false) rfl (by simp) ?_
  refine to_pkF rfl rfl rfl ?_
  refine to_mv rfl rfl ?_
  refine to_gt rfl rfl ?_
  first | refine to_fa rfl rfl rfl (by simp only [Nat.reduceAdd]; rfl) rfl ?_ | refine to_fae rfl rfl rfl (by simp only [Nat.reduceAdd]; rfl) rfl ?_
  refine to_gt rfl rfl ?_
  first | refine to_lds rfl rfl rfl ?_ | refine to_ldes rfl (by assumption) rfl rfl ?_
  refine to_gt rfl rfl ?_
  first | refine to_fa rfl rfl rfl (by simp only [Nat.reduceAdd]; rfl) rfl ?_ | refine to_fae rfl rfl rfl (by simp only [Nat.reduceAdd]; rfl) rfl ?_
  refine to_gt rfl rfl ?_
  first | refine to_lds rfl rfl rfl ?_ | refine to_ldes rfl (by assumption) rfl rfl ?_
  refine to_gt rfl rfl ?_
  refine to_neq rfl rfl rfl ?_
  refine to_fix (s := 44) (b' := false) rfl (by simp) ?_
  refine to_pkF rfl rfl rfl ?_
  refine to_mv rfl rfl ?_
  refine to_gt rfl rfl ?_
  first | refine to_fa rfl rfl rfl (by simp only [Nat.reduceAdd]; rfl) rfl ?_ | refine to_fae rfl rfl rfl (by simp only [Nat.reduceAdd]; rfl) rfl ?_
  refine to_gt rfl rfl ?_
  first | refine to_lds rfl rfl rfl ?_ | refine to_ldes rfl (by assumption) rfl rfl ?_
  refine to_gt rfl rfl ?_
  refine to_lenS rfl rfl ?_
  refine to_gt rfl rfl ?_
  first | refine to_fa rfl rfl rfl (by simp only [Nat.reduceAdd]; rfl) rfl ?_ | refine to_fae rfl rfl rfl (by simp only [Nat.reduceAdd]; rfl) rfl ?_
  refine to_gt rfl rfl ?_
  first | refine to_lds rfl rfl rfl ?_ | refine to_ldes rfl (by assumption) rfl rfl ?_
  refine to_gt rfl rfl ?_
  refine to_lenS rfl rfl ?_
  refine to_gt rfl rfl ?_
  refine to_neq rfl rfl rfl ?_
  refine to_fix (s := 53) (b' := false) rfl (by simp) ?_
  refine to_pkF rfl rfl rfl ?_
  refine to_nil ?_
  refine tn_code ?_
  refine t_ifF rfl ?_
  refine t_skip ?_
  refine tn_code ?_
  refine t_seq ?_
  refine t_seq ?_
  refine t_reg ?_
  refine to_as rfl rfl ?_
  refine to_nil ?_
  refine tn_code ?_
  refine t_blk ?_
  refine t_loop2 (ι := Nat) (fun k => k ≤ b.lines.length) (fun k => [(2, (.pointer (some ⟨b2, 0, none⟩))), (3, (.pointer (some ⟨b3, 0, none⟩))), (5, (.int .i64 (k : Int)))]) (fun k => [.own b3 (isC (bkC b a2 c2) 24), .own b2 (isC (bkC b a c) 24), .snap 0 w.heap.size w]) (fun k => b.lines.length - k) (0) [.own b3 (isC (bkC b a2 c2) 24), .own b2 (isC (bkC b a c) 24), .snap 0 w.heap.size w] (rfl) (Nat.zero_le _) (⟨rfl, rfl, rfl, trivial⟩) ?_
  rintro k hk
  show T _ _ _ ⟨_, [(2, (.pointer (some ⟨b2, 0, none⟩))), (3, (.pointer (some ⟨b3, 0, none⟩))), (5, (.int .i64 (k : Int)))], _⟩ [.own b3 (isC (bkC b a2 c2) 24), .own b2 (isC (bkC b a c) 24), .snap 0 w.heap.size w]
  refine t_seq ?_
  refine t_seq ?_
  refine t_reg ?_
  refine to_mv rfl rfl ?_
  first | refine to_fa rfl rfl rfl (by simp only [Nat.reduceAdd]; rfl) rfl ?_ | refine to_fae rfl rfl rfl (by simp only [Nat.reduceAdd]; rfl) rfl ?_
  first | refine to_lds rfl rfl rfl ?_ | refine to_ldes rfl (by assumption) rfl rfl ?_
  refine to_lenS rfl rfl ?_
  refine to_lss rfl rfl rfl ?_
  refine to_nil ?_
  refine tn_code ?_
  refine t_if rfl (fun h1 => ?_) (fun h1 => ?_)
  · try simp only [decide_eq_true_eq, decide_eq_false_iff_not, Bool.not_eq_true', Bool.not_eq_false', Int.not_lt, Int.not_le, ne_eq, Decidable.not_not] at h1
    try have h1b := inB_iff.1 h1
    obtain ⟨l, hl⟩ := some_get (xs := b.lines) (k := k) (by omega)
    have hx := map_get (f := linC) hl
    refine t_skip ?_
    refine tn_code ?_
    refine t_seq ?_
    refine t_blk ?_
    refine t_seq ?_
    refine t_regD rfl (by kernel_rfl) (by kernel_rfl) ?_
    first | refine to_fa rfl rfl rfl (by simp only [Nat.reduceAdd]; rfl) rfl ?_ | refine to_fae rfl rfl rfl (by simp only [Nat.reduceAdd]; rfl) rfl ?_
    first | refine to_lds rfl rfl rfl ?_ | refine to_ldes rfl (by assumption) rfl rfl ?_
    refine to_mv rfl rfl ?_
    first | refine to_ix rfl rfl rfl (by first | omega | decide) (by first | omega | decide) rfl ?_ | refine to_ixi rfl rfl rfl (by omega) (by omega) (by omega) rfl ?_
    first | refine to_lda rfl rfl rfl ?_ | refine to_ldea rfl (by assumption) rfl rfl ?_
    first | refine to_fa rfl rfl rfl (by simp only [Nat.reduceAdd]; rfl) rfl ?_ | refine to_fae rfl rfl rfl (by simp only [Nat.reduceAdd]; rfl) rfl ?_
    first | refine to_lds rfl rfl rfl ?_ | refine to_ldes rfl (by assumption) rfl rfl ?_
    refine to_mv rfl rfl ?_
    first | refine to_ix rfl rfl rfl (by first | omega | decide) (by first | omega | decide) rfl ?_ | refine to_ixi rfl rfl rfl (by omega) (by omega) (by omega) rfl ?_
    first | refine to_lda rfl rfl rfl ?_ | refine to_ldea rfl (by assumption) rfl rfl ?_
    refine to_nes rfl rfl rfl rfl rfl rfl rfl ?_
    refine to_fix (s := 72) (b' := false) rfl (by rw [ieq_refl (isI_lin _)]; rfl) ?_
    refine to_nil ?_
    refine tn_code ?_
    refine t_ifF rfl ?_
    refine t_skip ?_
    refine tn_blk ?_
    refine tn_code ?_
    refine t_reg ?_
    refine to_mv rfl rfl ?_
    refine to_add rfl rfl (by omega) rfl ?_
    refine to_as rfl rfl ?_
    refine to_nil ?_
    exact tn_loop2 (k + 1) [.own b3 (isC (bkC b a2 c2) 24), .own b2 (isC (bkC b a c) 24), .snap 0 w.heap.size w] (rfl) (by omega) (by omega) (⟨rfl, rfl, rfl, trivial⟩)
  · try simp only [decide_eq_true_eq, decide_eq_false_iff_not, Bool.not_eq_true', Bool.not_eq_false', Int.not_lt, Int.not_le, ne_eq, Decidable.not_not] at h1
    try have h1b := inB_iff.1 h1
    refine t_exit ?_
    refine tx_code ?_
    refine tx_inv ?_
    refine tx_blk ?_
    refine tn_code ?_
    refine t_seq ?_
    refine t_reg ?_
    refine to_as rfl rfl ?_
    refine to_nil ?_
    refine tn_code ?_
    refine t_ret1 rfl rfl (res_tmp rfl) (fun w' s => ?_)
    rfl

set_option maxRecDepth 20000 in
theorem w_PayReads_lo (tx : Bs) (w : World)  (hls : ¬ tx.length ≤ 330) (hg : Gl w) : Calls Tryz.prog 10 #[strV tx] w (RetV w (.bool true)) := by
  refine calls_T0 (av := [_]) Tryz.func10 rfl rfl rfl ?_
  refine t_seq ?_
  refine t_reg ?_
  refine to_as rfl rfl ?_
  refine to_nil ?_
  refine tn_code ?_
  refine t_seq ?_
  refine t_seq ?_
  refine t_reg ?_
  refine to_mv rfl rfl ?_
  refine to_lenL rfl rfl ?_
  refine to_gtr rfl rfl rfl ?_
  refine to_fix (s := 12) (b' := true) rfl (decide_eq_true (by omega)) ?_
  refine to_nil ?_
  refine tn_code ?_
  refine t_ifT rfl ?_
  refine t_seq ?_
  refine t_reg ?_
  refine to_call0 rfl rfl (fun w s => law_known w (gl_up hg (belowH_of s))) rfl ?_
  refine to_as rfl rfl ?_
  refine to_nil ?_
  refine tn_code ?_
  refine t_ret1 rfl rfl (res_tmp rfl) (fun w' s => ?_)
  rfl

set_option maxRecDepth 20000 in
theorem w_PayReads_q3 (tx : Bs) (w : World)  (hls : tx.length ≤ 330) (h2 : 230 < tx.length) (hg : Gl w) : Calls Tryz.prog 10 #[strV tx] w (RetV w (.bool true)) := by
  have hq : payRead tx = (bk0, 3) := by simp only [payRead, if_pos h2]
  refine calls_T0 (av := [_]) Tryz.func10 rfl rfl rfl ?_
  refine t_seq ?_
  refine t_reg ?_
  refine to_as rfl rfl ?_
  refine to_nil ?_
  refine tn_code ?_
  refine t_seq ?_
  refine t_seq ?_
  refine t_reg ?_
  refine to_mv rfl rfl ?_
  refine to_lenL rfl rfl ?_
  refine to_gtr rfl rfl rfl ?_
  refine to_fix (s := 12) (b' := false) rfl (decide_eq_false (by omega)) ?_
  refine to_nil ?_
  refine tn_code ?_
  refine t_ifF rfl ?_
  refine t_skip ?_
  refine tn_code ?_
  refine t_seq ?_
  refine t_reg ?_
  refine to_mv rfl rfl ?_
  refine to_callR rfl rfl (fun w s => c_readq hq (gl_up hg (belowH_of s))) rfl (fun v16 lo16 w16 hlo16 hR16 => ?_)
  obtain ⟨pa16, pc16, rfl, hro16⟩ := hR16
  refine to_mv rfl rfl ?_
  refine to_ex rfl rfl rfl ?_
  refine to_ex rfl rfl rfl ?_
  refine to_alloc rfl (fun b3 => ?_)
  first | refine to_st rfl rfl rfl rfl ?_ | refine to_ste rfl rfl (by assumption) rfl rfl ?_
  refine to_as rfl rfl ?_
  refine to_nil ?_
  refine tn_code ?_
  refine t_seq ?_
  refine t_reg ?_
  refine to_mv rfl rfl ?_
  refine to_callR rfl rfl (fun w s => ref_Read tx w hls) rfl (fun v21 lo21 w21 hlo21 hR21 => ?_)
  obtain ⟨bx21, pa21, pc21, rfl, hro21, hbx21⟩ := hR21
  refine to_mv rfl rfl ?_
  refine to_ex rfl rfl rfl ?_
  refine to_ex rfl rfl rfl ?_
  refine to_alloc rfl (fun b5 => ?_)
  first | refine to_st rfl rfl rfl rfl ?_ | refine to_ste rfl rfl (by assumption) rfl rfl ?_
  refine to_as rfl rfl ?_
  refine to_nil ?_
  refine tn_code ?_
  refine t_seq ?_
  refine t_reg ?_
  refine to_as rfl rfl ?_
  refine to_nil ?_
  refine tn_code ?_
  refine t_seq ?_
  refine t_seq ?_
  refine t_reg ?_
  refine to_mv rfl rfl ?_
  refine to_lenL rfl rfl ?_
  refine to_gtr rfl rfl rfl ?_
  refine to_fix (s := 26) (b' := true) rfl (decide_eq_true (by omega)) ?_
  refine to_nil ?_
  refine tn_code ?_
  refine t_ifT rfl ?_
  refine t_reg ?_
  refine to_as rfl rfl ?_
  refine to_nil ?_
  refine tn_code ?_
  refine t_seq ?_
  refine t_seq ?_
  refine t_reg ?_
  refine to_mv rfl rfl ?_
  refine to_neq rfl rfl rfl ?_
  refine to_fix (s := 33) (b' := true) rfl (rfl) ?_
  refine to_nil ?_
  refine tn_code ?_
  refine t_ifT rfl ?_
  refine t_seq ?_
  refine t_reg ?_
  refine to_mv rfl rfl ?_
  refine to_mv rfl rfl ?_
  refine to_eql rfl rfl rfl ?_
  refine to_fix (s := 36) (b' := true) rfl (rfl) ?_
  refine to_mv rfl rfl ?_
  refine to_gt rfl rfl ?_
  first | refine to_lda rfl rfl rfl ?_ | refine to_ldea rfl (by assumption) rfl rfl ?_
  refine to_gt rfl rfl ?_
  refine to_bs rfl rfl ?_
  refine to_gt rfl rfl ?_
  refine to_call0 rfl rfl (fun w s => ref_SameBk bk0 pa16 pc16 none 0 w (rdw s) (Ro.nil _ _ _ _) (by decide)) rfl ?_
  refine to_fix (s := 40) (b' := true) rfl (rfl) ?_
  refine to_pkT rfl rfl rfl ?_
  refine to_mv rfl rfl ?_
  refine to_gt rfl rfl ?_
  refine to_call0 rfl rfl (fun w s => law_known w (gl_up hg (belowH_of s))) rfl ?_
  refine to_pkT rfl rfl rfl ?_
  refine to_as rfl rfl ?_
  refine to_nil ?_
  refine tn_code ?_
  refine t_ret1 rfl rfl (res_tmp rfl) (fun w' s => ?_)
  rfl

set_option maxRecDepth 20000 in
theorem w_PayReads_q4 (tx : Bs) (w : World)  (hls : tx.length ≤ 330) (h2 : ¬ 230 < tx.length) (hp : parseB tx = none) (hg : Gl w) : Calls Tryz.prog 10 #[strV tx] w (RetV w (.bool true)) := by
  have hq : payRead tx = (bk0, 4) := by simp only [payRead, if_neg h2, hp]
  refine calls_T0 (av := [_]) Tryz.func10 rfl rfl rfl ?_
  refine t_seq ?_
  refine t_reg ?_
  refine to_as rfl rfl ?_
  refine to_nil ?_
  refine tn_code ?_
  refine t_seq ?_
  refine t_seq ?_
  refine t_reg ?_
  refine to_mv rfl rfl ?_
  refine to_lenL rfl rfl ?_
  refine to_gtr rfl rfl rfl ?_
  refine to_fix (s := 12) (b' := false) rfl (decide_eq_false (by omega)) ?_
  refine to_nil ?_
  refine tn_code ?_
  refine t_ifF rfl ?_
  refine t_skip ?_
  refine tn_code ?_
  refine t_seq ?_
  refine t_reg ?_
  refine to_mv rfl rfl ?_
  refine to_callR rfl rfl (fun w s => c_readq hq (gl_up hg (belowH_of s))) rfl (fun v16 lo16 w16 hlo16 hR16 => ?_)
  obtain ⟨pa16, pc16, rfl, hro16⟩ := hR16
  refine to_mv rfl rfl ?_
  refine to_ex rfl rfl rfl ?_
  refine to_ex rfl rfl rfl ?_
  refine to_alloc rfl (fun b3 => ?_)
  first | refine to_st rfl rfl rfl rfl ?_ | refine to_ste rfl rfl (by assumption) rfl rfl ?_
  refine to_as rfl rfl ?_
  refine to_nil ?_
  refine tn_code ?_
  refine t_seq ?_
  refine t_reg ?_
  refine to_mv rfl rfl ?_
  refine to_callR rfl rfl (fun w s => ref_Read tx w hls) rfl (fun v21 lo21 w21 hlo21 hR21 => ?_)
  obtain ⟨bx21, pa21, pc21, rfl, hro21, hbx21⟩ := hR21
  refine to_mv rfl rfl ?_
  refine to_ex rfl rfl rfl ?_
  refine to_ex rfl rfl rfl ?_
  refine to_alloc rfl (fun b5 => ?_)
  first | refine to_st rfl rfl rfl rfl ?_ | refine to_ste rfl rfl (by assumption) rfl rfl ?_
  refine to_as rfl rfl ?_
  refine to_nil ?_
  refine tn_code ?_
  refine t_seq ?_
  refine t_reg ?_
  refine to_as rfl rfl ?_
  refine to_nil ?_
  refine tn_code ?_
  refine t_seq ?_
  refine t_seq ?_
  refine t_reg ?_
  refine to_mv rfl rfl ?_
  refine to_lenL rfl rfl ?_
  refine to_gtr rfl rfl rfl ?_
  refine to_fix (s := 26) (b' := false) rfl (decide_eq_false (by omega)) ?_
  refine to_nil ?_
  refine tn_code ?_
  refine t_ifF rfl ?_
  refine t_seq ?_
  refine t_reg ?_
  refine to_mv rfl rfl ?_
  refine to_not rfl rfl ?_
  refine to_fix (s := 28) (b' := true) rfl ((by rw [hp]; rfl)) ?_
  refine to_nil ?_
  refine tn_code ?_
  refine t_ifT rfl ?_
  refine t_reg ?_
  refine to_as rfl rfl ?_
  refine to_nil ?_
  refine tn_code ?_
  refine t_seq ?_
  refine t_seq ?_
  refine t_reg ?_
  refine to_mv rfl rfl ?_
  refine to_neq rfl rfl rfl ?_
  refine to_fix (s := 33) (b' := true) rfl (rfl) ?_
  refine to_nil ?_
  refine tn_code ?_
  refine t_ifT rfl ?_
  refine t_seq ?_
  refine t_reg ?_
  refine to_mv rfl rfl ?_
  refine to_mv rfl rfl ?_
  refine to_eql rfl rfl rfl ?_
  refine to_fix (s := 36) (b' := true) rfl (rfl) ?_
  refine to_mv rfl rfl ?_
  refine to_gt rfl rfl ?_
  first | refine to_lda rfl rfl rfl ?_ | refine to_ldea rfl (by assumption) rfl rfl ?_
  refine to_gt rfl rfl ?_
  refine to_bs rfl rfl ?_
  refine to_gt rfl rfl ?_
  refine to_call0 rfl rfl (fun w s => ref_SameBk bk0 pa16 pc16 none 0 w (rdw s) (Ro.nil _ _ _ _) (by decide)) rfl ?_
  refine to_fix (s := 40) (b' := true) rfl (rfl) ?_
  refine to_pkT rfl rfl rfl ?_
  refine to_mv rfl rfl ?_
  refine to_gt rfl rfl ?_
  refine to_call0 rfl rfl (fun w s => law_known w (gl_up hg (belowH_of s))) rfl ?_
  refine to_pkT rfl rfl rfl ?_
  refine to_as rfl rfl ?_
  refine to_nil ?_
  refine tn_code ?_
  refine t_ret1 rfl rfl (res_tmp rfl) (fun w' s => ?_)
  rfl

set_option maxRecDepth 20000 in
theorem w_PayReads_q2 (tx : Bs) (w : World)  (hls : tx.length ≤ 330) (h2 : ¬ 230 < tx.length) (b : Bk) (hp : parseB tx = some b) (hb : isBk b = false) (hg : Gl w) : Calls Tryz.prog 10 #[strV tx] w (RetV w (.bool true)) := by
  have hq : payRead tx = (bk0, 2) := by simp [payRead, h2, hp, hb]
  refine calls_T0 (av := [_]) Tryz.func10 rfl rfl rfl ?_
  refine t_seq ?_
  refine t_reg ?_
  refine to_as rfl rfl ?_
  refine to_nil ?_
  refine tn_code ?_
  refine t_seq ?_
  refine t_seq ?_
  refine t_reg ?_
  refine to_mv rfl rfl ?_
  refine to_lenL rfl rfl ?_
  refine to_gtr rfl rfl rfl ?_
  refine to_fix (s := 12) (b' := false) rfl (decide_eq_false (by omega)) ?_
  refine to_nil ?_
  refine tn_code ?_
  refine t_ifF rfl ?_
  refine t_skip ?_
  refine tn_code ?_
  refine t_seq ?_
  refine t_reg ?_
  refine to_mv rfl rfl ?_
  refine to_callR rfl rfl (fun w s => c_readq hq (gl_up hg (belowH_of s))) rfl (fun v16 lo16 w16 hlo16 hR16 => ?_)
  obtain ⟨pa16, pc16, rfl, hro16⟩ := hR16
  refine to_mv rfl rfl ?_
  refine to_ex rfl rfl rfl ?_
  refine to_ex rfl rfl rfl ?_
  refine to_alloc rfl (fun b3 => ?_)
  first | refine to_st rfl rfl rfl rfl ?_ | refine to_ste rfl rfl (by assumption) rfl rfl ?_
  refine to_as rfl rfl ?_
  refine to_nil ?_
  refine tn_code ?_
  refine t_seq ?_
  refine t_reg ?_
  refine to_mv rfl rfl ?_
  refine to_callR rfl rfl (fun w s => ref_Read tx w hls) rfl (fun v21 lo21 w21 hlo21 hR21 => ?_)
  obtain ⟨bx21, pa21, pc21, rfl, hro21, hbx21⟩ := hR21
  refine to_mv rfl rfl ?_
  refine to_ex rfl rfl rfl ?_
  refine to_ex rfl rfl rfl ?_
  refine to_alloc rfl (fun b5 => ?_)
  first | refine to_st rfl rfl rfl rfl ?_ | refine to_ste rfl rfl (by assumption) rfl rfl ?_
  refine to_as rfl rfl ?_
  refine to_nil ?_
  refine tn_code ?_
  refine t_seq ?_
  refine t_reg ?_
  refine to_as rfl rfl ?_
  refine to_nil ?_
  refine tn_code ?_
  refine t_seq ?_
  refine t_seq ?_
  refine t_reg ?_
  refine to_mv rfl rfl ?_
  refine to_lenL rfl rfl ?_
  refine to_gtr rfl rfl rfl ?_
  refine to_fix (s := 26) (b' := false) rfl (decide_eq_false (by omega)) ?_
  refine to_nil ?_
  refine tn_code ?_
  refine t_ifF rfl ?_
  refine t_seq ?_
  refine t_reg ?_
  refine to_mv rfl rfl ?_
  refine to_not rfl rfl ?_
  refine to_fix (s := 28) (b' := false) rfl ((by rw [hp]; rfl)) ?_
  refine to_nil ?_
  refine tn_code ?_
  refine t_ifF rfl ?_
  refine t_seq ?_
  refine t_reg ?_
  first | refine to_lda rfl rfl rfl ?_ | refine to_ldea rfl (by assumption) rfl rfl ?_
  refine to_call0 rfl rfl (fun w s => ref_Book bx21 pa21 pc21 w (rdw s)) rfl ?_
  refine to_fix (s := 30) (b' := false) rfl ((by rw [hbx21 _ hp]; exact hb)) ?_
  refine to_not rfl rfl ?_
  refine to_nil ?_
  refine tn_code ?_
  refine t_ifT rfl ?_
  refine t_reg ?_
  refine to_as rfl rfl ?_
  refine to_nil ?_
  refine tn_code ?_
  refine t_seq ?_
  refine t_seq ?_
  refine t_reg ?_
  refine to_mv rfl rfl ?_
  refine to_neq rfl rfl rfl ?_
  refine to_fix (s := 33) (b' := true) rfl (rfl) ?_
  refine to_nil ?_
  refine tn_code ?_
  refine t_ifT rfl ?_
  refine t_seq ?_
  refine t_reg ?_
  refine to_mv rfl rfl ?_
  refine to_mv rfl rfl ?_
  refine to_eql rfl rfl rfl ?_
  refine to_fix (s := 36) (b' := true) rfl (rfl) ?_
  refine to_mv rfl rfl ?_
  refine to_gt rfl rfl ?_
  first | refine to_lda rfl rfl rfl ?_ | refine to_ldea rfl (by assumption) rfl rfl ?_
  refine to_gt rfl rfl ?_
  refine to_bs rfl rfl ?_
  refine to_gt rfl rfl ?_
  refine to_call0 rfl rfl (fun w s => ref_SameBk bk0 pa16 pc16 none 0 w (rdw s) (Ro.nil _ _ _ _) (by decide)) rfl ?_
  refine to_fix (s := 40) (b' := true) rfl (rfl) ?_
  refine to_pkT rfl rfl rfl ?_
  refine to_mv rfl rfl ?_
  refine to_gt rfl rfl ?_
  refine to_call0 rfl rfl (fun w s => law_known w (gl_up hg (belowH_of s))) rfl ?_
  refine to_pkT rfl rfl rfl ?_
  refine to_as rfl rfl ?_
  refine to_nil ?_
  refine tn_code ?_
  refine t_ret1 rfl rfl (res_tmp rfl) (fun w' s => ?_)
  rfl

set_option maxRecDepth 20000 in
theorem w_PayReads_q0 (tx : Bs) (w : World)  (hls : tx.length ≤ 330) (h2 : ¬ 230 < tx.length) (b : Bk) (hp : parseB tx = some b) (hb : isBk b = true) (hg : Gl w) : Calls Tryz.prog 10 #[strV tx] w (RetV w (.bool true)) := by
  have hq : payRead tx = (b, 0) := by simp [payRead, h2, hp, hb]
  have hbb := isBk_b hb
  have htx := parse_txt hp
  refine calls_T0 (av := [_]) Tryz.func10 rfl rfl rfl ?_
  refine t_seq ?_
  refine t_reg ?_
  refine to_as rfl rfl ?_
  refine to_nil ?_
  refine tn_code ?_
  refine t_seq ?_
  refine t_seq ?_
  refine t_reg ?_
  refine to_mv rfl rfl ?_
  refine to_lenL rfl rfl ?_
  refine to_gtr rfl rfl rfl ?_
  refine to_fix (s := 12) (b' := false) rfl (decide_eq_false (by omega)) ?_
  refine to_nil ?_
  refine tn_code ?_
  refine t_ifF rfl ?_
  refine t_skip ?_
  refine tn_code ?_
  refine t_seq ?_
  refine t_reg ?_
  refine to_mv rfl rfl ?_
  refine to_callR rfl rfl (fun w s => c_readq hq (gl_up hg (belowH_of s))) rfl (fun v16 lo16 w16 hlo16 hR16 => ?_)
  obtain ⟨pa16, pc16, rfl, hro16⟩ := hR16
  refine to_mv rfl rfl ?_
  refine to_ex rfl rfl rfl ?_
  refine to_ex rfl rfl rfl ?_
  refine to_alloc rfl (fun b3 => ?_)
  first | refine to_st rfl rfl rfl rfl ?_ | refine to_ste rfl rfl (by assumption) rfl rfl ?_
  refine to_as rfl rfl ?_
  refine to_nil ?_
  refine tn_code ?_
  refine t_seq ?_
  refine t_reg ?_
  refine to_mv rfl rfl ?_
  refine to_callR rfl rfl (fun w s => ref_Read tx w hls) rfl (fun v21 lo21 w21 hlo21 hR21 => ?_)
  obtain ⟨bx21, pa21, pc21, rfl, hro21, hbx21⟩ := hR21
  refine to_mv rfl rfl ?_
  refine to_ex rfl rfl rfl ?_
  refine to_ex rfl rfl rfl ?_
  refine to_alloc rfl (fun b5 => ?_)
  first | refine to_st rfl rfl rfl rfl ?_ | refine to_ste rfl rfl (by assumption) rfl rfl ?_
  refine to_as rfl rfl ?_
  refine to_nil ?_
  refine tn_code ?_
  refine t_seq ?_
  refine t_reg ?_
  refine to_as rfl rfl ?_
  refine to_nil ?_
  refine tn_code ?_
  refine t_seq ?_
  refine t_seq ?_
  refine t_reg ?_
  refine to_mv rfl rfl ?_
  refine to_lenL rfl rfl ?_
  refine to_gtr rfl rfl rfl ?_
  refine to_fix (s := 26) (b' := false) rfl (decide_eq_false (by omega)) ?_
  refine to_nil ?_
  refine tn_code ?_
  refine t_ifF rfl ?_
  refine t_seq ?_
  refine t_reg ?_
  refine to_mv rfl rfl ?_
  refine to_not rfl rfl ?_
  refine to_fix (s := 28) (b' := false) rfl ((by rw [hp]; rfl)) ?_
  refine to_nil ?_
  refine tn_code ?_
  refine t_ifF rfl ?_
  refine t_seq ?_
  refine t_reg ?_
  first | refine to_lda rfl rfl rfl ?_ | refine to_ldea rfl (by assumption) rfl rfl ?_
  refine to_call0 rfl rfl (fun w s => ref_Book bx21 pa21 pc21 w (rdw s)) rfl ?_
  refine to_fix (s := 30) (b' := true) rfl ((by rw [hbx21 _ hp]; exact hb)) ?_
  refine to_not rfl rfl ?_
  refine to_nil ?_
  refine tn_code ?_
  refine t_ifF rfl ?_
  refine t_skip ?_
  refine tn_code ?_
  refine t_seq ?_
  refine t_seq ?_
  refine t_reg ?_
  refine to_mv rfl rfl ?_
  refine to_neq rfl rfl rfl ?_
  refine to_fix (s := 33) (b' := false) rfl (rfl) ?_
  refine to_nil ?_
  refine tn_code ?_
  refine t_ifF rfl ?_
  refine t_skip ?_
  refine tn_code ?_
  refine t_seq ?_
  have hbe : b = bx21 := (hbx21 _ hp).symm
  subst hbe
  refine t_reg ?_
  first | refine to_lda rfl rfl rfl ?_ | refine to_ldea rfl (by assumption) rfl rfl ?_
  refine to_call0 rfl rfl (fun w s => pay_Print_t b pa16 pc16 w (rdw s) (gl_up hg (belowH_of s)) hb) rfl ?_
  refine to_mv rfl rfl ?_
  refine to_ex rfl rfl rfl ?_
  refine to_ex rfl rfl rfl ?_
  refine to_as rfl rfl ?_
  refine to_as rfl rfl ?_
  refine to_nil ?_
  refine tn_code ?_
  refine t_seq ?_
  refine t_reg ?_
  refine to_mv rfl rfl ?_
  refine to_eql rfl rfl rfl ?_
  refine to_fix (s := 51) (b' := true) rfl (rfl) ?_
  refine to_mv rfl rfl ?_
  refine to_gt rfl rfl ?_
  first | refine to_lda rfl rfl rfl ?_ | refine to_ldea rfl (by assumption) rfl rfl ?_
  refine to_gt rfl rfl ?_
  first | refine to_lda rfl rfl rfl ?_ | refine to_ldea rfl (by assumption) rfl rfl ?_
  refine to_gt rfl rfl ?_
  refine to_call0 rfl rfl (fun w s => ref_SameBk b pa16 pc16 pa21 pc21 w (rdw s) (rdw s) (by omega)) rfl ?_
  refine to_fix (s := 55) (b' := true) rfl (rfl) ?_
  refine to_pkT rfl rfl rfl ?_
  refine to_mv rfl rfl ?_
  refine to_gt rfl rfl ?_
  refine to_mv rfl rfl ?_
  refine to_gt rfl rfl ?_
  refine to_eql rfl rfl rfl ?_
  refine to_fix (s := 59) (b' := true) rfl (rfl) ?_
  refine to_pkT rfl rfl rfl ?_
  refine to_mv rfl rfl ?_
  refine to_gt rfl rfl ?_
  refine to_mv rfl rfl ?_
  refine to_gt rfl rfl ?_
  refine to_mv rfl rfl ?_
  refine to_gt rfl rfl ?_
  refine to_seq rfl rfl rfl ?_
  refine to_fix (s := 64) (b' := true) rfl (decide_eq_true htx) ?_
  refine to_pkT rfl rfl rfl ?_
  refine to_mv rfl rfl ?_
  refine to_gt rfl rfl ?_
  refine to_call0 rfl rfl (fun w s => law_known w (gl_up hg (belowH_of s))) rfl ?_
  refine to_pkT rfl rfl rfl ?_
  refine to_as rfl rfl ?_
  refine to_nil ?_
  refine tn_code ?_
  refine t_ret1 rfl rfl (res_tmp rfl) (fun w' s => ?_)
  rfl

theorem w_PayReads (tx : Bs) (w : World) (hg : Gl w) : Calls Tryz.prog 10 #[strV tx] w (RetV w (.bool true)) := by
  by_cases hls : tx.length ≤ 330
  · by_cases h2 : 230 < tx.length
    · exact w_PayReads_q3 tx w hls h2 hg
    · cases hp : parseB tx with
      | none => exact w_PayReads_q4 tx w hls h2 hp hg
      | some b =>
        rcases bool_tf (isBk b) with hb | hb
        · exact w_PayReads_q0 tx w hls h2 b hp hb hg
        · exact w_PayReads_q2 tx w hls h2 b hp hb hg
  · exact w_PayReads_lo tx w hls hg

end Go.Proofs


namespace Go.Proofs
open Go Go.Sx Go.RowKit Go.WideShapes Go.ChangeShapes

theorem u9s : Tryz.prog.underlying 9 = some .string := Tryz.ty9.string
set_option maxRecDepth 100000 in
theorem open_str {H : Type} {enc : TypeId × Value → H} {w : World} {base : Nat} {v : Value} {x : DataW H} {ps : List MemPlace} (hval : Value.okWide Tryz.prog w .any base 9 v) (h : DataW.Trod enc Tryz.prog w 0 (fun _ => true) true 9 v x ps) : ∃ l : Bs, v = strV l := by
  obtain ⟨s, rfl, _⟩ := ChangeMaps.open_string u9s hval h
  exact ⟨s.data.toList, by simp [strV]⟩
end Go.Proofs


namespace Go.Proofs.YtpnjgmioohofcabGreatDoor
open Go Go.Sx Go.RowKit Go.WideShapes Go.ChangeShapes

section
variable {H : Type} {enc : TypeId × Value → H}
set_option maxRecDepth 100000 in
theorem payReads_law (W : World) (base : Nat) (args : Array Value) (ds : List (DataW H)) (p : List MemPlace) (hval : ∀ (j : Nat) t v, Tryz.f10.params[j]? = some t → args[j]? = some v → Value.okWide Tryz.prog W .any base t v)
    (hA : DataW.TrodAll enc Tryz.prog W 0 (fun _ => true) true Tryz.f10.params.toList args.toList ds p) (hg : Gl W) : Calls Tryz.prog 10 args W (RetV W (.bool true)) := by
  obtain ⟨l⟩ := args
  rw [Tryz.params10] at hA hval
  obtain ⟨v0, l0, d0, e0, p0, q0, hl0, rfl, h0, hA0⟩ := trodAll_cons hA
  have hl0' : l = v0 :: l0 := hl0
  subst hl0'
  obtain rfl := trodAll_nil hA0
  obtain ⟨x0, rfl⟩ := open_str (hval 0 9 v0 rfl rfl) h0
  exact w_PayReads x0 W hg
end

set_option maxRecDepth 100000 in
theorem payReads_lifted (os : Os) (started : os.Started) (H : Type) (enc : TypeId × Value → H) :
    ReturnsInHanded {} Tryz.checked os 10 .any (fun w args => (Rows.payReadsSpec.pre enc Tryz.prog Tryz.f10 [] false w args ∧ laidMetH Tryz.prog laidL w) ∧ sizedMet enc Tryz.prog Tryz.f10 (OpenSpec.ofChange Rows.payReadsSpec) false w args)
      (Rows.payReadsSpec.post enc Tryz.prog Tryz.f10 false true false false) :=
  law_lifted started (by kernel_rfl) Tryz.func10 rfl rfl (by kernel_rfl) (fun ds h => by
      match ds, h with
      | [_], _ => rfl)
    (ChangeSpec.witness_shaped (enc := enc) (C := Tryz.checked) (os := os) (X := fun w _ => laidMetH Tryz.prog laidL w) false (World.laidAll Tryz.prog os laidL) #[.string ⟨#[]⟩] 8 (World.laidAll_os _ _ _)
      (World.shaped_of_ZipB (by kernel_rfl) (by kernel_rfl)) (by kernel_rfl) (by kernel_rfl) (by kernel_rfl)
      (by rw [MakeChecks.laidMetH_plain _ _ _ (by kernel_rfl)]; exact laidMet_laidAll _ (by kernel_rfl) (by kernel_rfl)))
    (fun W base args ds p hval hA hg => payReads_law W base args ds p hval hA hg)

theorem payReads_holds : Rows.PayReadsSaid :=
  OpenClaim.holds_of_wide 10 Tryz.f10 rfl rfl rfl rfl rfl rfl rfl ⟨rfl, rfl, rfl, rfl, rfl⟩ rfl rfl rfl rfl rfl (by kernel_rfl) Tryz.func10 (by kernel_rfl)
    (of_decide_eq_true (by kernel_rfl)) (by unfold Func.isWrapper; first | (rw [if_pos (by decide +kernel)]; kernel_rfl) | (rw [if_neg (by decide +kernel)]; exact ⟨rfl, rfl⟩))
    (fun os started H enc _ => payReads_lifted os started H enc)

theorem payReads_card : Rows.PayReadsCardSaid :=
  Claim7.holds_tied_plain_at .later [] [.data, .data, .data, .data, .pinned] true (true, "5a6ea851d6db5332263f4202e8bb68f7d38141fb34fef9e77fb9ecad3099a87b") true
    payReads_holds (fun _ h => by cases h) (by kernel_rfl) (fun _ h => by cases h) payReads_row_tie rfl ⟨rfl, rfl⟩ (by kernel_rfl) rfl
    (fun f fn hf hfn => by
      obtain rfl : f = 10 := Option.some.inj ((show Tryz.prog.funcNamed "ephemerist/ephemeristlaw08.PayReads" = some 10 by kernel_rfl).symm.trans hf) |>.symm
      obtain rfl : fn = Tryz.f10 := (Option.some.inj (Tryz.func10.symm.trans hfn)).symm
      exact ⟨by kernel_rfl, fun j t ht => by
        rw [Tryz.params10] at ht
        have hm : t ∈ [9] := by simpa using Array.mem_of_getElem? ht
        have hall : ([9].all fun u => !Tryz.prog.wantsStandIn u) = true := by kernel_rfl
        exact (show Tryz.prog.wantsStandIn t = false by simpa using List.all_eq_true.1 hall t hm)⟩)
    (by kernel_rfl)
end Go.Proofs.YtpnjgmioohofcabGreatDoor

